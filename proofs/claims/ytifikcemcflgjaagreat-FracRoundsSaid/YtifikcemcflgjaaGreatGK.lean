/-
  The walk of the reference's Factor: the number of units to which a fraction is rounded.
-/
import Derived.Test.YtifikcemcflgjaaGreatK1
import Derived.Test.YtifikcemcflgjaaGreatGF
import Derived.Test.YtifikcemcflgjaaGreatK9
import Derived.Deep.CutRange
namespace Go.Proofs.YtifikcemcflgjaaGreat
open Go.RowKit

theorem fac_len {a b : Rat} {i : Nat} (ha : fl a ≤ i) (hb : fl b ≤ i) : ln b16 (topQ a b).natAbs ≤ i + i ∧ ln b16 (botQ a b).natAbs ≤ i + i := by
 obtain ⟨a1, a2⟩ := fl_z ha
 obtain ⟨b1, b2⟩ := fl_z hb
 exact ⟨ln_mulZ a1 b2, ln_mulZ a2 b1⟩
set_option linter.unusedSimpArgs false in
set_option maxRecDepth 100000 in
set_option maxHeartbeats 8000000 in
theorem rfactor_v {a b : Rat} {sa ta sb tb : Bool} {Aa Ba Ab Bb : Option Addr} {na ca ma da nb cb mb db : Nat} {w : World} (ha : FV w a sa Aa na ta Ba ma) (hb : FV w b sb Ab nb tb Bb mb) (la : fl a ≤ 400) (lb : fl b ≤ 400) (hb0 : 0 < b.num) (m : Nat) (m1 : 1 ≤ m) (m6 : m ≤ 6) :
  Calls Tryz.prog 70 #[.agg #[.bool sa, .slice Aa na ca, .bool ta, .slice Ba ma da], .agg #[.bool sb, .slice Ab nb cb, .bool tb, .slice Bb mb db], .int .u8 (m : Int)] w (WR (roundZ m a b) w) := by
 have hbp : 0 < botQ a b := Int.mul_pos (den_posZ a) hb0
 obtain ⟨lt, lbt⟩ := fac_len la lb
 have lk : ln b16 (kQ a b).natAbs ≤ 801 := fdiv_len2 (k := 800) (Nat.le_trans lt (by decide)) (by decide)
 have lr : ln b16 (rQ a b).natAbs ≤ 800 := fmod_len (Nat.le_trans lbt (by decide)) hbp
 obtain ⟨la1, la2⟩ := fl_z la
 obtain ⟨lb1, lb2⟩ := fl_z lb
 have na4 : na ≤ 400 := by rw [ha.1.len]; exact la1
 have ma4 : ma ≤ 400 := by rw [ha.2.len]; exact la2
 have nb4 : nb ≤ 400 := by rw [hb.1.len]; exact lb1
 have mb4 : mb ≤ 400 := by rw [hb.2.len]; exact lb2
 have HBP := Lib.hid hbp
 have HLT := Lib.hid lt
 have HLB := Lib.hid lbt
 have HLK := Lib.hid lk
 have HLR := Lib.hid lr
 clear hbp lt lbt lk lr la1 la2 lb1 lb2
 have sg := ha.1.sgn
 have SG := Lib.hid sg
 clear sg
 have hE := ((((Env.start w).fv ha).fv hb).blk 26 #[.bool sa, .slice Aa na ca, .bool ta, .slice Ba ma da] (g := w.heap.size) rfl).blk 26 #[.bool sb, .slice Ab nb cb, .bool tb, .slice Bb mb db] (g := w.heap.size + 1) (by simp)
 have hE := hE.blk 24 #[.bool false, .slice none 0 0] (g := w.heap.size + 1 + 1) (by simp)
 obtain ⟨W0, hW0⟩ : ∃ W0, W0 = (((w.alloc (.cells #[.bool sa, .slice Aa na ca, .bool ta, .slice Ba ma da] 26)).alloc (.cells #[.bool sb, .slice Ab nb cb, .bool tb, .slice Bb mb db] 26)).alloc (.cells #[.bool false, .slice none 0 0] 24)) := ⟨_, rfl⟩
 rw [← hW0] at hE
 have HW0 := Lib.hid hW0
 clear hW0
 go_enter Tryz.func70, Tryz.ntmps70
 go_upto_region 1 with (fail)
 rw [← HW0.out]
 obtain ⟨k1, k2, k3, k4⟩ := (hE.here.1.1.2).c4
 obtain ⟨k5, k6, k7, k8⟩ := (hE.here.1.2).c4
 go_wp2_with fail
 refine (rproduct_w (c := da) (d := cb) (hE.here.1.1.1.1.2).2 (hE.here.1.1.1.2).1 (by omega) (by omega)).mono ?_
 clear k1 k2 k3 k4 k5 k6 k7 k8
 rintro e w9 ⟨sd, Ad, nd, cd, rfl, hd, hb⟩
 replace hE := hE.step hb
 clear hb
 replace hE := hE.wv hd
 clear hd
 go_upto_region 2 with (fail)
 obtain ⟨g10, hg10⟩ : ∃ g10, g10 = w9.heap.size := ⟨_, rfl⟩
 have hl10_2 : w.heap.size < g10 := by rw [hg10]; exact (hE.here.1.1.1.2).lt
 have hl10_3 : w.heap.size + 1 < g10 := by rw [hg10]; exact (hE.here.1.1.2).lt
 have hl10_4 : w.heap.size + 1 + 1 < g10 := by rw [hg10]; exact (hE.here.1.2).lt
 replace hE := hE.blk 24 #[.bool sd, .slice Ad nd cd] (g := g10) hg10.symm
 generalize w9.alloc (.cells #[.bool sd, .slice Ad nd cd] 24) = W10 at hE ⊢
 rw [← hg10]
 clear hg10
 have nd8 : nd ≤ 800 := by rw [(hE.here.1.2).len]; exact HLB.out
 go_cut [8, 9] from 18 to 28 (fun p0 p1 wx => ∃ G2_10 G2_11 sq Aq nq cq sr Ar nr cr, p0 = .pointer (some ⟨G2_10, 0, none⟩) ∧ p1 = .pointer (some ⟨G2_11, 0, none⟩) ∧ Env w (fun V => (((((((((((True ∧ FV V a sa Aa na ta Ba ma) ∧ FV V b sb Ab nb tb Bb mb) ∧ Blk 26 (w.heap.size) #[.bool sa, .slice Aa na ca, .bool ta, .slice Ba ma da] V) ∧ Blk 26 (w.heap.size + 1) #[.bool sb, .slice Ab nb cb, .bool tb, .slice Bb mb db] V) ∧ Blk 24 (w.heap.size + 1 + 1) #[.bool false, .slice none 0 0] V) ∧ WV V (botQ a b) sd Ad nd) ∧ Blk 24 (g10) #[.bool sd, .slice Ad nd cd] V) ∧ WV V (kQ a b) sq Aq nq) ∧ WV V (rQ a b) sr Ar nr) ∧ Blk 24 (G2_10) #[.bool sq, .slice Aq nq cq] V) ∧ Blk 24 (G2_11) #[.bool sr, .slice Ar nr cr] V)) wx)
 case first =>
  replace hE := hE.drew
  refine wp_region_held_drew (S := fun w' => w'.cell? ⟨w.heap.size, 0, none⟩ = some (.bool sa) ∧ w'.cell? ⟨w.heap.size, 1, none⟩ = some (.slice Aa na ca) ∧ w'.cell? ⟨w.heap.size, 2, none⟩ = some (.bool ta) ∧ w'.cell? ⟨w.heap.size, 3, none⟩ = some (.slice Ba ma da) ∧ w'.cell? ⟨w.heap.size + 1, 0, none⟩ = some (.bool sb) ∧ w'.cell? ⟨w.heap.size + 1, 1, none⟩ = some (.slice Ab nb cb) ∧ w'.cell? ⟨w.heap.size + 1, 2, none⟩ = some (.bool tb) ∧ w'.cell? ⟨w.heap.size + 1, 3, none⟩ = some (.slice Bb mb db) ∧ w'.cell? ⟨g10, 0, none⟩ = some (.bool sd) ∧ w'.cell? ⟨g10, 1, none⟩ = some (.slice Ad nd cd)) (by kernel_rfl) (hE.here.1.1.1.1.2.j4 (hE.here.1.1.1.2.j4 hE.here.2.c2)) (fun hHeld => ?_)
  generalize W10.drew = wd at *
  refine tk 0 ?_
  try simp only [PL]
  refine tk 1 ?_
  try simp only [PL]
  refine tk 2 ?_
  try simp only [PL]
  refine tk 3 ?_
  try simp only [PL]
  refine tk 5 ?_
  try simp only [PL]
  refine wpAnyH_ready (rs := [4, 10, 11]) (by kernel_rfl) (by simp) (AllReadyH.cons rfl (fun K hK => ?_) (AllReadyH.cons rfl (fun K hK => ?_) (AllReadyH.cons rfl (fun K hK => ?_) (AllReadyH.nil))))
  ·
   go_simp
   refine (rproduct_w (c := ca) (d := db) (hE.here.1.1.1.1.1.1.2).1 (hE.here.1.1.1.1.1.2).2 (by omega) (by omega)).mono ?_
   rintro e w11 ⟨st, At, nt, ct, rfl, ht, hb⟩
   replace hE := hE.step hb
   clear hb
   replace hE := hE.wv ht
   clear ht
   go_wp2_with fail
   refine hK.out _ _ (hE.here.1.1.1.1.1.2.j4 (hE.here.1.1.1.1.2.j4 hE.here.1.2.c2)) (fun hHeld => ?_)
   clear hK K
   try simp only [PL]
   refine wpAnyH_ready (rs := [6, 10, 11]) (by kernel_rfl) (by simp) (AllReadyH.cons rfl (fun K hK => ?_) (AllReadyH.cons rfl (fun K hK => ?_) (AllReadyH.cons rfl (fun K hK => ?_) (AllReadyH.nil))))
   ·
    go_simp
    have nt8 : nt ≤ 800 := by rw [(hE.here.2).len]; exact HLT.out
    have hc : Calls _ _ _ _ (WR2 (kQ a b) (rQ a b) _) := rfloor_v (ca := ct) (cb := cd) (hE.here.2) (hE.here.1.1.2) (by omega) (by omega) (by have := HBP.out; omega)
    clear nt8
    refine hc.mono ?_
    clear hc
    rintro e w12 ⟨sq, Aq, nq, cq, sr, Ar, nr, cr, rfl, hk, hr, hb⟩
    replace hE := hE.step hb
    clear hb
    replace hE := (hE.wv hk).wv hr
    clear hk hr
    go_wp2_with fail
    refine hK.out _ _ (hE.here.1.1.1.1.1.1.1.2.j4 (hE.here.1.1.1.1.1.1.2.j4 hE.here.1.1.1.2.c2)) (fun hHeld => ?_)
    clear hK K
    try simp only [PL]
    refine tk 7 ?_
    try simp only [PL]
    refine tk 8 ?_
    try simp only [PL]
    refine tk 9 ?_
    try simp only [PL]
    refine wpAnyH_ready (rs := [10, 11]) (by kernel_rfl) (by simp) (AllReadyH.cons rfl (fun K hK => ?_) (AllReadyH.cons rfl (fun K hK => ?_) (AllReadyH.nil)))
    ·
     go_simp
     obtain ⟨g13, hg13⟩ : ∃ g13, g13 = w12.heap.size := ⟨_, rfl⟩
     have hl13_2 : w.heap.size < g13 := by rw [hg13]; exact (hE.here.1.1.1.1.1.1.1.2).lt
     have hl13_3 : w.heap.size + 1 < g13 := by rw [hg13]; exact (hE.here.1.1.1.1.1.1.2).lt
     have hl13_4 : w.heap.size + 1 + 1 < g13 := by rw [hg13]; exact (hE.here.1.1.1.1.1.2).lt
     have hl13_6 : g10 < g13 := by rw [hg13]; exact (hE.here.1.1.1.2).lt
     replace hE := hE.blk 24 #[.bool false, .slice none 0 0] (g := g13) hg13.symm
     generalize w12.alloc (.cells #[.bool false, .slice none 0 0] 24) = W13 at hE ⊢
     rw [← hg13]
     clear hg13
     refine hK.out _ _ (hE.here.1.1.1.1.1.1.1.1.2.j4 (hE.here.1.1.1.1.1.1.1.2.j4 hE.here.1.1.1.1.2.c2)) (fun hHeld => ?_)
     clear hK K
     try simp only [PL]
     refine r1 11 (fun K hK => ?_)
     go_simp
     obtain ⟨g14, hg14⟩ : ∃ g14, g14 = W13.heap.size := ⟨_, rfl⟩
     have hl14_2 : w.heap.size < g14 := by rw [hg14]; exact (hE.here.1.1.1.1.1.1.1.1.2).lt
     have hl14_3 : w.heap.size + 1 < g14 := by rw [hg14]; exact (hE.here.1.1.1.1.1.1.1.2).lt
     have hl14_4 : w.heap.size + 1 + 1 < g14 := by rw [hg14]; exact (hE.here.1.1.1.1.1.1.2).lt
     have hl14_6 : g10 < g14 := by rw [hg14]; exact (hE.here.1.1.1.1.2).lt
     have hl14_10 : g13 < g14 := by rw [hg14]; exact (hE.here.2).lt
     replace hE := hE.blk 24 #[.bool false, .slice none 0 0] (g := g14) hg14.symm
     generalize W13.alloc (.cells #[.bool false, .slice none 0 0] 24) = W14 at hE ⊢
     rw [← hg14]
     clear hg14
     refine hK.out _ _ (hE.here.1.1.1.1.1.1.1.1.1.2.j4 (hE.here.1.1.1.1.1.1.1.1.2.j4 hE.here.1.1.1.1.1.2.c2)) (fun hHeld => ?_)
     clear hK K
     try simp only [PL]
     refine r1 12 (fun K hK => ?_)
     have hgl15 : w.heap.size ≤ g13 := by omega
     obtain ⟨x15_0, x15_1⟩ := (hE.here.1.2).c2
     obtain ⟨f15_0, f15_1⟩ := hE.here.1.2.f2
     replace hE := (((((((((((((Env.again (bel2 hE.bel hgl15 (.bool sq) (.slice Aq nq cq))).fv ((hE.here.1.1.1.1.1.1.1.1.1.1.1.2).sep2 hE.here.1.2 rfl (.bool sq) (.slice Aq nq cq) rfl)).fv ((hE.here.1.1.1.1.1.1.1.1.1.1.2).sep2 hE.here.1.2 rfl (.bool sq) (.slice Aq nq cq) rfl)).blkI ((hE.here.1.1.1.1.1.1.1.1.1.2).far2 (R := g13) (by omega) (.bool sq) (.slice Aq nq cq))).blkI ((hE.here.1.1.1.1.1.1.1.1.2).far2 (R := g13) (by omega) (.bool sq) (.slice Aq nq cq))).blkI ((hE.here.1.1.1.1.1.1.1.2).far2 (R := g13) (by omega) (.bool sq) (.slice Aq nq cq))).wv ((hE.here.1.1.1.1.1.1.2).sep2 hE.here.1.2 rfl (.bool sq) (.slice Aq nq cq) rfl)).blkI ((hE.here.1.1.1.1.1.2).far2 (R := g13) (by omega) (.bool sq) (.slice Aq nq cq))).wv ((hE.here.1.1.1.1.2).sep2 hE.here.1.2 rfl (.bool sq) (.slice Aq nq cq) rfl)).wv ((hE.here.1.1.1.2).sep2 hE.here.1.2 rfl (.bool sq) (.slice Aq nq cq) rfl)).wv ((hE.here.1.1.2).sep2 hE.here.1.2 rfl (.bool sq) (.slice Aq nq cq) rfl)).blkI ((hE.here.1.2).s2 (.bool sq) (.slice Aq nq cq))).blkI ((hE.here.2).far2 (R := g13) (by omega) (.bool sq) (.slice Aq nq cq)))
     go_simp
     clear x15_0 x15_1 f15_0 f15_1 hgl15
     generalize ((W14.setCell ⟨g13, 0, none⟩ (.bool sq)).setCell ⟨g13, 1, none⟩ (.slice Aq nq cq)) = W15 at hE ⊢
     refine hK.out _ _ (hE.here.1.1.1.1.1.1.1.1.1.2.j4 (hE.here.1.1.1.1.1.1.1.1.2.j4 hE.here.1.1.1.1.1.2.c2)) (fun hHeld => ?_)
     clear hK K
     try simp only [PL]
     refine r1 13 (fun K hK => ?_)
     have hgl16 : w.heap.size ≤ g14 := by omega
     obtain ⟨x16_0, x16_1⟩ := (hE.here.2).c2
     obtain ⟨f16_0, f16_1⟩ := hE.here.2.f2
     replace hE := (((((((((((((Env.again (bel2 hE.bel hgl16 (.bool sr) (.slice Ar nr cr))).fv ((hE.here.1.1.1.1.1.1.1.1.1.1.1.2).sep2 hE.here.2 rfl (.bool sr) (.slice Ar nr cr) rfl)).fv ((hE.here.1.1.1.1.1.1.1.1.1.1.2).sep2 hE.here.2 rfl (.bool sr) (.slice Ar nr cr) rfl)).blkI ((hE.here.1.1.1.1.1.1.1.1.1.2).far2 (R := g14) (by omega) (.bool sr) (.slice Ar nr cr))).blkI ((hE.here.1.1.1.1.1.1.1.1.2).far2 (R := g14) (by omega) (.bool sr) (.slice Ar nr cr))).blkI ((hE.here.1.1.1.1.1.1.1.2).far2 (R := g14) (by omega) (.bool sr) (.slice Ar nr cr))).wv ((hE.here.1.1.1.1.1.1.2).sep2 hE.here.2 rfl (.bool sr) (.slice Ar nr cr) rfl)).blkI ((hE.here.1.1.1.1.1.2).far2 (R := g14) (by omega) (.bool sr) (.slice Ar nr cr))).wv ((hE.here.1.1.1.1.2).sep2 hE.here.2 rfl (.bool sr) (.slice Ar nr cr) rfl)).wv ((hE.here.1.1.1.2).sep2 hE.here.2 rfl (.bool sr) (.slice Ar nr cr) rfl)).wv ((hE.here.1.1.2).sep2 hE.here.2 rfl (.bool sr) (.slice Ar nr cr) rfl)).blkI ((hE.here.1.2).far2 (R := g14) (by omega) (.bool sr) (.slice Ar nr cr))).blkI ((hE.here.2).s2 (.bool sr) (.slice Ar nr cr)))
     go_simp
     clear x16_0 x16_1 f16_0 f16_1 hgl16
     generalize ((W15.setCell ⟨g14, 0, none⟩ (.bool sr)).setCell ⟨g14, 1, none⟩ (.slice Ar nr cr)) = W16 at hE ⊢
     refine hK.out _ _ (hE.here.1.1.1.1.1.1.1.1.1.2.j4 (hE.here.1.1.1.1.1.1.1.1.2.j4 hE.here.1.1.1.1.1.2.c2)) (fun hHeld => ?_)
     clear hK K
     try simp only [PL]
     refine wpAnyH_done (by kernel_rfl) ?_ _
     go_wp2_with fail
     go_meet
     exact ⟨g13, g14, sq, Aq, nq, cq, sr, Ar, nr, cr, rfl, rfl, ((((((((((((Env.again hE.bel).fv (hE.here.1.1.1.1.1.1.1.1.1.1.1.2)).fv (hE.here.1.1.1.1.1.1.1.1.1.1.2)).blkI (hE.here.1.1.1.1.1.1.1.1.1.2)).blkI (hE.here.1.1.1.1.1.1.1.1.2)).blkI (hE.here.1.1.1.1.1.1.1.2)).wv (hE.here.1.1.1.1.1.1.2)).blkI (hE.here.1.1.1.1.1.2)).wv (hE.here.1.1.1.2)).wv (hE.here.1.1.2)).blkI (hE.here.1.2)).blkI (hE.here.2))⟩
    ·
     go_simp
     obtain ⟨g17, hg17⟩ : ∃ g17, g17 = w12.heap.size := ⟨_, rfl⟩
     have hl17_2 : w.heap.size < g17 := by rw [hg17]; exact (hE.here.1.1.1.1.1.1.1.2).lt
     have hl17_3 : w.heap.size + 1 < g17 := by rw [hg17]; exact (hE.here.1.1.1.1.1.1.2).lt
     have hl17_4 : w.heap.size + 1 + 1 < g17 := by rw [hg17]; exact (hE.here.1.1.1.1.1.2).lt
     have hl17_6 : g10 < g17 := by rw [hg17]; exact (hE.here.1.1.1.2).lt
     replace hE := hE.blk 24 #[.bool false, .slice none 0 0] (g := g17) hg17.symm
     generalize w12.alloc (.cells #[.bool false, .slice none 0 0] 24) = W17 at hE ⊢
     rw [← hg17]
     clear hg17
     refine hK.out _ _ (hE.here.1.1.1.1.1.1.1.1.2.j4 (hE.here.1.1.1.1.1.1.1.2.j4 hE.here.1.1.1.1.2.c2)) (fun hHeld => ?_)
     clear hK K
     try simp only [PL]
     refine r1 10 (fun K hK => ?_)
     go_simp
     obtain ⟨g18, hg18⟩ : ∃ g18, g18 = W17.heap.size := ⟨_, rfl⟩
     have hl18_2 : w.heap.size < g18 := by rw [hg18]; exact (hE.here.1.1.1.1.1.1.1.1.2).lt
     have hl18_3 : w.heap.size + 1 < g18 := by rw [hg18]; exact (hE.here.1.1.1.1.1.1.1.2).lt
     have hl18_4 : w.heap.size + 1 + 1 < g18 := by rw [hg18]; exact (hE.here.1.1.1.1.1.1.2).lt
     have hl18_6 : g10 < g18 := by rw [hg18]; exact (hE.here.1.1.1.1.2).lt
     have hl18_10 : g17 < g18 := by rw [hg18]; exact (hE.here.2).lt
     replace hE := hE.blk 24 #[.bool false, .slice none 0 0] (g := g18) hg18.symm
     generalize W17.alloc (.cells #[.bool false, .slice none 0 0] 24) = W18 at hE ⊢
     rw [← hg18]
     clear hg18
     refine hK.out _ _ (hE.here.1.1.1.1.1.1.1.1.1.2.j4 (hE.here.1.1.1.1.1.1.1.1.2.j4 hE.here.1.1.1.1.1.2.c2)) (fun hHeld => ?_)
     clear hK K
     try simp only [PL]
     refine r1 12 (fun K hK => ?_)
     have hgl19 : w.heap.size ≤ g18 := by omega
     obtain ⟨x19_0, x19_1⟩ := (hE.here.2).c2
     obtain ⟨f19_0, f19_1⟩ := hE.here.2.f2
     replace hE := (((((((((((((Env.again (bel2 hE.bel hgl19 (.bool sq) (.slice Aq nq cq))).fv ((hE.here.1.1.1.1.1.1.1.1.1.1.1.2).sep2 hE.here.2 rfl (.bool sq) (.slice Aq nq cq) rfl)).fv ((hE.here.1.1.1.1.1.1.1.1.1.1.2).sep2 hE.here.2 rfl (.bool sq) (.slice Aq nq cq) rfl)).blkI ((hE.here.1.1.1.1.1.1.1.1.1.2).far2 (R := g18) (by omega) (.bool sq) (.slice Aq nq cq))).blkI ((hE.here.1.1.1.1.1.1.1.1.2).far2 (R := g18) (by omega) (.bool sq) (.slice Aq nq cq))).blkI ((hE.here.1.1.1.1.1.1.1.2).far2 (R := g18) (by omega) (.bool sq) (.slice Aq nq cq))).wv ((hE.here.1.1.1.1.1.1.2).sep2 hE.here.2 rfl (.bool sq) (.slice Aq nq cq) rfl)).blkI ((hE.here.1.1.1.1.1.2).far2 (R := g18) (by omega) (.bool sq) (.slice Aq nq cq))).wv ((hE.here.1.1.1.1.2).sep2 hE.here.2 rfl (.bool sq) (.slice Aq nq cq) rfl)).wv ((hE.here.1.1.1.2).sep2 hE.here.2 rfl (.bool sq) (.slice Aq nq cq) rfl)).wv ((hE.here.1.1.2).sep2 hE.here.2 rfl (.bool sq) (.slice Aq nq cq) rfl)).blkI ((hE.here.1.2).far2 (R := g18) (by omega) (.bool sq) (.slice Aq nq cq))).blkI ((hE.here.2).s2 (.bool sq) (.slice Aq nq cq)))
     go_simp
     clear x19_0 x19_1 f19_0 f19_1 hgl19
     generalize ((W18.setCell ⟨g18, 0, none⟩ (.bool sq)).setCell ⟨g18, 1, none⟩ (.slice Aq nq cq)) = W19 at hE ⊢
     refine hK.out _ _ (hE.here.1.1.1.1.1.1.1.1.1.2.j4 (hE.here.1.1.1.1.1.1.1.1.2.j4 hE.here.1.1.1.1.1.2.c2)) (fun hHeld => ?_)
     clear hK K
     try simp only [PL]
     refine r1 13 (fun K hK => ?_)
     have hgl20 : w.heap.size ≤ g17 := by omega
     obtain ⟨x20_0, x20_1⟩ := (hE.here.1.2).c2
     obtain ⟨f20_0, f20_1⟩ := hE.here.1.2.f2
     replace hE := (((((((((((((Env.again (bel2 hE.bel hgl20 (.bool sr) (.slice Ar nr cr))).fv ((hE.here.1.1.1.1.1.1.1.1.1.1.1.2).sep2 hE.here.1.2 rfl (.bool sr) (.slice Ar nr cr) rfl)).fv ((hE.here.1.1.1.1.1.1.1.1.1.1.2).sep2 hE.here.1.2 rfl (.bool sr) (.slice Ar nr cr) rfl)).blkI ((hE.here.1.1.1.1.1.1.1.1.1.2).far2 (R := g17) (by omega) (.bool sr) (.slice Ar nr cr))).blkI ((hE.here.1.1.1.1.1.1.1.1.2).far2 (R := g17) (by omega) (.bool sr) (.slice Ar nr cr))).blkI ((hE.here.1.1.1.1.1.1.1.2).far2 (R := g17) (by omega) (.bool sr) (.slice Ar nr cr))).wv ((hE.here.1.1.1.1.1.1.2).sep2 hE.here.1.2 rfl (.bool sr) (.slice Ar nr cr) rfl)).blkI ((hE.here.1.1.1.1.1.2).far2 (R := g17) (by omega) (.bool sr) (.slice Ar nr cr))).wv ((hE.here.1.1.1.1.2).sep2 hE.here.1.2 rfl (.bool sr) (.slice Ar nr cr) rfl)).wv ((hE.here.1.1.1.2).sep2 hE.here.1.2 rfl (.bool sr) (.slice Ar nr cr) rfl)).wv ((hE.here.1.1.2).sep2 hE.here.1.2 rfl (.bool sr) (.slice Ar nr cr) rfl)).blkI ((hE.here.1.2).s2 (.bool sr) (.slice Ar nr cr))).blkI ((hE.here.2).far2 (R := g17) (by omega) (.bool sr) (.slice Ar nr cr)))
     go_simp
     clear x20_0 x20_1 f20_0 f20_1 hgl20
     generalize ((W19.setCell ⟨g17, 0, none⟩ (.bool sr)).setCell ⟨g17, 1, none⟩ (.slice Ar nr cr)) = W20 at hE ⊢
     refine hK.out _ _ (hE.here.1.1.1.1.1.1.1.1.1.2.j4 (hE.here.1.1.1.1.1.1.1.1.2.j4 hE.here.1.1.1.1.1.2.c2)) (fun hHeld => ?_)
     clear hK K
     try simp only [PL]
     refine wpAnyH_done (by kernel_rfl) ?_ _
     go_wp2_with fail
     go_meet
     exact ⟨g18, g17, sq, Aq, nq, cq, sr, Ar, nr, cr, rfl, rfl, ((((((((((((Env.again hE.bel).fv (hE.here.1.1.1.1.1.1.1.1.1.1.1.2)).fv (hE.here.1.1.1.1.1.1.1.1.1.1.2)).blkI (hE.here.1.1.1.1.1.1.1.1.1.2)).blkI (hE.here.1.1.1.1.1.1.1.1.2)).blkI (hE.here.1.1.1.1.1.1.1.2)).wv (hE.here.1.1.1.1.1.1.2)).blkI (hE.here.1.1.1.1.1.2)).wv (hE.here.1.1.1.2)).wv (hE.here.1.1.2)).blkI (hE.here.2)).blkI (hE.here.1.2))⟩
   ·
    go_simp
    obtain ⟨g21, hg21⟩ : ∃ g21, g21 = w11.heap.size := ⟨_, rfl⟩
    have hl21_2 : w.heap.size < g21 := by rw [hg21]; exact (hE.here.1.1.1.1.1.2).lt
    have hl21_3 : w.heap.size + 1 < g21 := by rw [hg21]; exact (hE.here.1.1.1.1.2).lt
    have hl21_4 : w.heap.size + 1 + 1 < g21 := by rw [hg21]; exact (hE.here.1.1.1.2).lt
    have hl21_6 : g10 < g21 := by rw [hg21]; exact (hE.here.1.2).lt
    replace hE := hE.blk 24 #[.bool false, .slice none 0 0] (g := g21) hg21.symm
    generalize w11.alloc (.cells #[.bool false, .slice none 0 0] 24) = W21 at hE ⊢
    rw [← hg21]
    clear hg21
    refine hK.out _ _ (hE.here.1.1.1.1.1.1.2.j4 (hE.here.1.1.1.1.1.2.j4 hE.here.1.1.2.c2)) (fun hHeld => ?_)
    clear hK K
    try simp only [PL]
    refine wpAnyH_ready (rs := [6, 11]) (by kernel_rfl) (by simp) (AllReadyH.cons rfl (fun K hK => ?_) (AllReadyH.cons rfl (fun K hK => ?_) (AllReadyH.nil)))
    ·
     go_simp
     have nt8 : nt ≤ 800 := by rw [(hE.here.1.2).len]; exact HLT.out
     have hc : Calls _ _ _ _ (WR2 (kQ a b) (rQ a b) _) := rfloor_v (ca := ct) (cb := cd) (hE.here.1.2) (hE.here.1.1.1.2) (by omega) (by omega) (by have := HBP.out; omega)
     clear nt8
     refine hc.mono ?_
     clear hc
     rintro e w22 ⟨sq, Aq, nq, cq, sr, Ar, nr, cr, rfl, hk, hr, hb⟩
     replace hE := hE.step hb
     clear hb
     replace hE := (hE.wv hk).wv hr
     clear hk hr
     go_wp2_with fail
     refine hK.out _ _ (hE.here.1.1.1.1.1.1.1.1.2.j4 (hE.here.1.1.1.1.1.1.1.2.j4 hE.here.1.1.1.1.2.c2)) (fun hHeld => ?_)
     clear hK K
     try simp only [PL]
     refine tk 7 ?_
     try simp only [PL]
     refine tk 8 ?_
     try simp only [PL]
     refine tk 9 ?_
     try simp only [PL]
     refine r1 11 (fun K hK => ?_)
     go_simp
     obtain ⟨g23, hg23⟩ : ∃ g23, g23 = w22.heap.size := ⟨_, rfl⟩
     have hl23_2 : w.heap.size < g23 := by rw [hg23]; exact (hE.here.1.1.1.1.1.1.1.1.2).lt
     have hl23_3 : w.heap.size + 1 < g23 := by rw [hg23]; exact (hE.here.1.1.1.1.1.1.1.2).lt
     have hl23_4 : w.heap.size + 1 + 1 < g23 := by rw [hg23]; exact (hE.here.1.1.1.1.1.1.2).lt
     have hl23_6 : g10 < g23 := by rw [hg23]; exact (hE.here.1.1.1.1.2).lt
     have hl23_8 : g21 < g23 := by rw [hg23]; exact (hE.here.1.1.2).lt
     replace hE := hE.blk 24 #[.bool false, .slice none 0 0] (g := g23) hg23.symm
     generalize w22.alloc (.cells #[.bool false, .slice none 0 0] 24) = W23 at hE ⊢
     rw [← hg23]
     clear hg23
     refine hK.out _ _ (hE.here.1.1.1.1.1.1.1.1.1.2.j4 (hE.here.1.1.1.1.1.1.1.1.2.j4 hE.here.1.1.1.1.1.2.c2)) (fun hHeld => ?_)
     clear hK K
     try simp only [PL]
     refine r1 12 (fun K hK => ?_)
     have hgl24 : w.heap.size ≤ g21 := by omega
     obtain ⟨x24_0, x24_1⟩ := (hE.here.1.1.1.2).c2
     obtain ⟨f24_0, f24_1⟩ := hE.here.1.1.1.2.f2
     replace hE := (((((((((((((Env.again (bel2 hE.bel hgl24 (.bool sq) (.slice Aq nq cq))).fv ((hE.here.1.1.1.1.1.1.1.1.1.1.1.2).sep2 hE.here.1.1.1.2 rfl (.bool sq) (.slice Aq nq cq) rfl)).fv ((hE.here.1.1.1.1.1.1.1.1.1.1.2).sep2 hE.here.1.1.1.2 rfl (.bool sq) (.slice Aq nq cq) rfl)).blkI ((hE.here.1.1.1.1.1.1.1.1.1.2).far2 (R := g21) (by omega) (.bool sq) (.slice Aq nq cq))).blkI ((hE.here.1.1.1.1.1.1.1.1.2).far2 (R := g21) (by omega) (.bool sq) (.slice Aq nq cq))).blkI ((hE.here.1.1.1.1.1.1.1.2).far2 (R := g21) (by omega) (.bool sq) (.slice Aq nq cq))).wv ((hE.here.1.1.1.1.1.1.2).sep2 hE.here.1.1.1.2 rfl (.bool sq) (.slice Aq nq cq) rfl)).blkI ((hE.here.1.1.1.1.1.2).far2 (R := g21) (by omega) (.bool sq) (.slice Aq nq cq))).wv ((hE.here.1.1.1.1.2).sep2 hE.here.1.1.1.2 rfl (.bool sq) (.slice Aq nq cq) rfl)).blkI ((hE.here.1.1.1.2).s2 (.bool sq) (.slice Aq nq cq))).wv ((hE.here.1.1.2).sep2 hE.here.1.1.1.2 rfl (.bool sq) (.slice Aq nq cq) rfl)).wv ((hE.here.1.2).sep2 hE.here.1.1.1.2 rfl (.bool sq) (.slice Aq nq cq) rfl)).blkI ((hE.here.2).far2 (R := g21) (by omega) (.bool sq) (.slice Aq nq cq)))
     go_simp
     clear x24_0 x24_1 f24_0 f24_1 hgl24
     generalize ((W23.setCell ⟨g21, 0, none⟩ (.bool sq)).setCell ⟨g21, 1, none⟩ (.slice Aq nq cq)) = W24 at hE ⊢
     refine hK.out _ _ (hE.here.1.1.1.1.1.1.1.1.1.2.j4 (hE.here.1.1.1.1.1.1.1.1.2.j4 hE.here.1.1.1.1.1.2.c2)) (fun hHeld => ?_)
     clear hK K
     try simp only [PL]
     refine r1 13 (fun K hK => ?_)
     have hgl25 : w.heap.size ≤ g23 := by omega
     obtain ⟨x25_0, x25_1⟩ := (hE.here.2).c2
     obtain ⟨f25_0, f25_1⟩ := hE.here.2.f2
     replace hE := (((((((((((((Env.again (bel2 hE.bel hgl25 (.bool sr) (.slice Ar nr cr))).fv ((hE.here.1.1.1.1.1.1.1.1.1.1.1.2).sep2 hE.here.2 rfl (.bool sr) (.slice Ar nr cr) rfl)).fv ((hE.here.1.1.1.1.1.1.1.1.1.1.2).sep2 hE.here.2 rfl (.bool sr) (.slice Ar nr cr) rfl)).blkI ((hE.here.1.1.1.1.1.1.1.1.1.2).far2 (R := g23) (by omega) (.bool sr) (.slice Ar nr cr))).blkI ((hE.here.1.1.1.1.1.1.1.1.2).far2 (R := g23) (by omega) (.bool sr) (.slice Ar nr cr))).blkI ((hE.here.1.1.1.1.1.1.1.2).far2 (R := g23) (by omega) (.bool sr) (.slice Ar nr cr))).wv ((hE.here.1.1.1.1.1.1.2).sep2 hE.here.2 rfl (.bool sr) (.slice Ar nr cr) rfl)).blkI ((hE.here.1.1.1.1.1.2).far2 (R := g23) (by omega) (.bool sr) (.slice Ar nr cr))).wv ((hE.here.1.1.1.1.2).sep2 hE.here.2 rfl (.bool sr) (.slice Ar nr cr) rfl)).blkI ((hE.here.1.1.1.2).far2 (R := g23) (by omega) (.bool sr) (.slice Ar nr cr))).wv ((hE.here.1.1.2).sep2 hE.here.2 rfl (.bool sr) (.slice Ar nr cr) rfl)).wv ((hE.here.1.2).sep2 hE.here.2 rfl (.bool sr) (.slice Ar nr cr) rfl)).blkI ((hE.here.2).s2 (.bool sr) (.slice Ar nr cr)))
     go_simp
     clear x25_0 x25_1 f25_0 f25_1 hgl25
     generalize ((W24.setCell ⟨g23, 0, none⟩ (.bool sr)).setCell ⟨g23, 1, none⟩ (.slice Ar nr cr)) = W25 at hE ⊢
     refine hK.out _ _ (hE.here.1.1.1.1.1.1.1.1.1.2.j4 (hE.here.1.1.1.1.1.1.1.1.2.j4 hE.here.1.1.1.1.1.2.c2)) (fun hHeld => ?_)
     clear hK K
     try simp only [PL]
     refine wpAnyH_done (by kernel_rfl) ?_ _
     go_wp2_with fail
     go_meet
     exact ⟨g21, g23, sq, Aq, nq, cq, sr, Ar, nr, cr, rfl, rfl, ((((((((((((Env.again hE.bel).fv (hE.here.1.1.1.1.1.1.1.1.1.1.1.2)).fv (hE.here.1.1.1.1.1.1.1.1.1.1.2)).blkI (hE.here.1.1.1.1.1.1.1.1.1.2)).blkI (hE.here.1.1.1.1.1.1.1.1.2)).blkI (hE.here.1.1.1.1.1.1.1.2)).wv (hE.here.1.1.1.1.1.1.2)).blkI (hE.here.1.1.1.1.1.2)).wv (hE.here.1.1.2)).wv (hE.here.1.2)).blkI (hE.here.1.1.1.2)).blkI (hE.here.2))⟩
    ·
     go_simp
     obtain ⟨g26, hg26⟩ : ∃ g26, g26 = W21.heap.size := ⟨_, rfl⟩
     have hl26_2 : w.heap.size < g26 := by rw [hg26]; exact (hE.here.1.1.1.1.1.1.2).lt
     have hl26_3 : w.heap.size + 1 < g26 := by rw [hg26]; exact (hE.here.1.1.1.1.1.2).lt
     have hl26_4 : w.heap.size + 1 + 1 < g26 := by rw [hg26]; exact (hE.here.1.1.1.1.2).lt
     have hl26_6 : g10 < g26 := by rw [hg26]; exact (hE.here.1.1.2).lt
     have hl26_8 : g21 < g26 := by rw [hg26]; exact (hE.here.2).lt
     replace hE := hE.blk 24 #[.bool false, .slice none 0 0] (g := g26) hg26.symm
     generalize W21.alloc (.cells #[.bool false, .slice none 0 0] 24) = W26 at hE ⊢
     rw [← hg26]
     clear hg26
     refine hK.out _ _ (hE.here.1.1.1.1.1.1.1.2.j4 (hE.here.1.1.1.1.1.1.2.j4 hE.here.1.1.1.2.c2)) (fun hHeld => ?_)
     clear hK K
     try simp only [PL]
     refine r1 6 (fun K hK => ?_)
     go_simp
     have nt8 : nt ≤ 800 := by rw [(hE.here.1.1.2).len]; exact HLT.out
     have hc : Calls _ _ _ _ (WR2 (kQ a b) (rQ a b) _) := rfloor_v (ca := ct) (cb := cd) (hE.here.1.1.2) (hE.here.1.1.1.1.2) (by omega) (by omega) (by have := HBP.out; omega)
     clear nt8
     refine hc.mono ?_
     clear hc
     rintro e w27 ⟨sq, Aq, nq, cq, sr, Ar, nr, cr, rfl, hk, hr, hb⟩
     replace hE := hE.step hb
     clear hb
     replace hE := (hE.wv hk).wv hr
     clear hk hr
     go_wp2_with fail
     refine hK.out _ _ (hE.here.1.1.1.1.1.1.1.1.1.2.j4 (hE.here.1.1.1.1.1.1.1.1.2.j4 hE.here.1.1.1.1.1.2.c2)) (fun hHeld => ?_)
     clear hK K
     try simp only [PL]
     refine tk 7 ?_
     try simp only [PL]
     refine tk 8 ?_
     try simp only [PL]
     refine tk 9 ?_
     try simp only [PL]
     refine r1 12 (fun K hK => ?_)
     have hgl28 : w.heap.size ≤ g21 := by omega
     obtain ⟨x28_0, x28_1⟩ := (hE.here.1.1.1.2).c2
     obtain ⟨f28_0, f28_1⟩ := hE.here.1.1.1.2.f2
     replace hE := (((((((((((((Env.again (bel2 hE.bel hgl28 (.bool sq) (.slice Aq nq cq))).fv ((hE.here.1.1.1.1.1.1.1.1.1.1.1.2).sep2 hE.here.1.1.1.2 rfl (.bool sq) (.slice Aq nq cq) rfl)).fv ((hE.here.1.1.1.1.1.1.1.1.1.1.2).sep2 hE.here.1.1.1.2 rfl (.bool sq) (.slice Aq nq cq) rfl)).blkI ((hE.here.1.1.1.1.1.1.1.1.1.2).far2 (R := g21) (by omega) (.bool sq) (.slice Aq nq cq))).blkI ((hE.here.1.1.1.1.1.1.1.1.2).far2 (R := g21) (by omega) (.bool sq) (.slice Aq nq cq))).blkI ((hE.here.1.1.1.1.1.1.1.2).far2 (R := g21) (by omega) (.bool sq) (.slice Aq nq cq))).wv ((hE.here.1.1.1.1.1.1.2).sep2 hE.here.1.1.1.2 rfl (.bool sq) (.slice Aq nq cq) rfl)).blkI ((hE.here.1.1.1.1.1.2).far2 (R := g21) (by omega) (.bool sq) (.slice Aq nq cq))).wv ((hE.here.1.1.1.1.2).sep2 hE.here.1.1.1.2 rfl (.bool sq) (.slice Aq nq cq) rfl)).blkI ((hE.here.1.1.1.2).s2 (.bool sq) (.slice Aq nq cq))).blkI ((hE.here.1.1.2).far2 (R := g21) (by omega) (.bool sq) (.slice Aq nq cq))).wv ((hE.here.1.2).sep2 hE.here.1.1.1.2 rfl (.bool sq) (.slice Aq nq cq) rfl)).wv ((hE.here.2).sep2 hE.here.1.1.1.2 rfl (.bool sq) (.slice Aq nq cq) rfl))
     go_simp
     clear x28_0 x28_1 f28_0 f28_1 hgl28
     generalize ((w27.setCell ⟨g21, 0, none⟩ (.bool sq)).setCell ⟨g21, 1, none⟩ (.slice Aq nq cq)) = W28 at hE ⊢
     refine hK.out _ _ (hE.here.1.1.1.1.1.1.1.1.1.2.j4 (hE.here.1.1.1.1.1.1.1.1.2.j4 hE.here.1.1.1.1.1.2.c2)) (fun hHeld => ?_)
     clear hK K
     try simp only [PL]
     refine r1 13 (fun K hK => ?_)
     have hgl29 : w.heap.size ≤ g26 := by omega
     obtain ⟨x29_0, x29_1⟩ := (hE.here.1.1.2).c2
     obtain ⟨f29_0, f29_1⟩ := hE.here.1.1.2.f2
     replace hE := (((((((((((((Env.again (bel2 hE.bel hgl29 (.bool sr) (.slice Ar nr cr))).fv ((hE.here.1.1.1.1.1.1.1.1.1.1.1.2).sep2 hE.here.1.1.2 rfl (.bool sr) (.slice Ar nr cr) rfl)).fv ((hE.here.1.1.1.1.1.1.1.1.1.1.2).sep2 hE.here.1.1.2 rfl (.bool sr) (.slice Ar nr cr) rfl)).blkI ((hE.here.1.1.1.1.1.1.1.1.1.2).far2 (R := g26) (by omega) (.bool sr) (.slice Ar nr cr))).blkI ((hE.here.1.1.1.1.1.1.1.1.2).far2 (R := g26) (by omega) (.bool sr) (.slice Ar nr cr))).blkI ((hE.here.1.1.1.1.1.1.1.2).far2 (R := g26) (by omega) (.bool sr) (.slice Ar nr cr))).wv ((hE.here.1.1.1.1.1.1.2).sep2 hE.here.1.1.2 rfl (.bool sr) (.slice Ar nr cr) rfl)).blkI ((hE.here.1.1.1.1.1.2).far2 (R := g26) (by omega) (.bool sr) (.slice Ar nr cr))).wv ((hE.here.1.1.1.1.2).sep2 hE.here.1.1.2 rfl (.bool sr) (.slice Ar nr cr) rfl)).blkI ((hE.here.1.1.1.2).far2 (R := g26) (by omega) (.bool sr) (.slice Ar nr cr))).blkI ((hE.here.1.1.2).s2 (.bool sr) (.slice Ar nr cr))).wv ((hE.here.1.2).sep2 hE.here.1.1.2 rfl (.bool sr) (.slice Ar nr cr) rfl)).wv ((hE.here.2).sep2 hE.here.1.1.2 rfl (.bool sr) (.slice Ar nr cr) rfl))
     go_simp
     clear x29_0 x29_1 f29_0 f29_1 hgl29
     generalize ((W28.setCell ⟨g26, 0, none⟩ (.bool sr)).setCell ⟨g26, 1, none⟩ (.slice Ar nr cr)) = W29 at hE ⊢
     refine hK.out _ _ (hE.here.1.1.1.1.1.1.1.1.1.2.j4 (hE.here.1.1.1.1.1.1.1.1.2.j4 hE.here.1.1.1.1.1.2.c2)) (fun hHeld => ?_)
     clear hK K
     try simp only [PL]
     refine wpAnyH_done (by kernel_rfl) ?_ _
     go_wp2_with fail
     go_meet
     exact ⟨g21, g26, sq, Aq, nq, cq, sr, Ar, nr, cr, rfl, rfl, ((((((((((((Env.again hE.bel).fv (hE.here.1.1.1.1.1.1.1.1.1.1.1.2)).fv (hE.here.1.1.1.1.1.1.1.1.1.1.2)).blkI (hE.here.1.1.1.1.1.1.1.1.1.2)).blkI (hE.here.1.1.1.1.1.1.1.1.2)).blkI (hE.here.1.1.1.1.1.1.1.2)).wv (hE.here.1.1.1.1.1.1.2)).blkI (hE.here.1.1.1.1.1.2)).wv (hE.here.1.2)).wv (hE.here.2)).blkI (hE.here.1.1.1.2)).blkI (hE.here.1.1.2))⟩
   ·
    go_simp
    obtain ⟨g30, hg30⟩ : ∃ g30, g30 = w11.heap.size := ⟨_, rfl⟩
    have hl30_2 : w.heap.size < g30 := by rw [hg30]; exact (hE.here.1.1.1.1.1.2).lt
    have hl30_3 : w.heap.size + 1 < g30 := by rw [hg30]; exact (hE.here.1.1.1.1.2).lt
    have hl30_4 : w.heap.size + 1 + 1 < g30 := by rw [hg30]; exact (hE.here.1.1.1.2).lt
    have hl30_6 : g10 < g30 := by rw [hg30]; exact (hE.here.1.2).lt
    replace hE := hE.blk 24 #[.bool false, .slice none 0 0] (g := g30) hg30.symm
    generalize w11.alloc (.cells #[.bool false, .slice none 0 0] 24) = W30 at hE ⊢
    rw [← hg30]
    clear hg30
    refine hK.out _ _ (hE.here.1.1.1.1.1.1.2.j4 (hE.here.1.1.1.1.1.2.j4 hE.here.1.1.2.c2)) (fun hHeld => ?_)
    clear hK K
    try simp only [PL]
    refine wpAnyH_ready (rs := [6, 10]) (by kernel_rfl) (by simp) (AllReadyH.cons rfl (fun K hK => ?_) (AllReadyH.cons rfl (fun K hK => ?_) (AllReadyH.nil)))
    ·
     go_simp
     have nt8 : nt ≤ 800 := by rw [(hE.here.1.2).len]; exact HLT.out
     have hc : Calls _ _ _ _ (WR2 (kQ a b) (rQ a b) _) := rfloor_v (ca := ct) (cb := cd) (hE.here.1.2) (hE.here.1.1.1.2) (by omega) (by omega) (by have := HBP.out; omega)
     clear nt8
     refine hc.mono ?_
     clear hc
     rintro e w31 ⟨sq, Aq, nq, cq, sr, Ar, nr, cr, rfl, hk, hr, hb⟩
     replace hE := hE.step hb
     clear hb
     replace hE := (hE.wv hk).wv hr
     clear hk hr
     go_wp2_with fail
     refine hK.out _ _ (hE.here.1.1.1.1.1.1.1.1.2.j4 (hE.here.1.1.1.1.1.1.1.2.j4 hE.here.1.1.1.1.2.c2)) (fun hHeld => ?_)
     clear hK K
     try simp only [PL]
     refine tk 7 ?_
     try simp only [PL]
     refine tk 8 ?_
     try simp only [PL]
     refine tk 9 ?_
     try simp only [PL]
     refine r1 10 (fun K hK => ?_)
     go_simp
     obtain ⟨g32, hg32⟩ : ∃ g32, g32 = w31.heap.size := ⟨_, rfl⟩
     have hl32_2 : w.heap.size < g32 := by rw [hg32]; exact (hE.here.1.1.1.1.1.1.1.1.2).lt
     have hl32_3 : w.heap.size + 1 < g32 := by rw [hg32]; exact (hE.here.1.1.1.1.1.1.1.2).lt
     have hl32_4 : w.heap.size + 1 + 1 < g32 := by rw [hg32]; exact (hE.here.1.1.1.1.1.1.2).lt
     have hl32_6 : g10 < g32 := by rw [hg32]; exact (hE.here.1.1.1.1.2).lt
     have hl32_8 : g30 < g32 := by rw [hg32]; exact (hE.here.1.1.2).lt
     replace hE := hE.blk 24 #[.bool false, .slice none 0 0] (g := g32) hg32.symm
     generalize w31.alloc (.cells #[.bool false, .slice none 0 0] 24) = W32 at hE ⊢
     rw [← hg32]
     clear hg32
     refine hK.out _ _ (hE.here.1.1.1.1.1.1.1.1.1.2.j4 (hE.here.1.1.1.1.1.1.1.1.2.j4 hE.here.1.1.1.1.1.2.c2)) (fun hHeld => ?_)
     clear hK K
     try simp only [PL]
     refine r1 12 (fun K hK => ?_)
     have hgl33 : w.heap.size ≤ g32 := by omega
     obtain ⟨x33_0, x33_1⟩ := (hE.here.2).c2
     obtain ⟨f33_0, f33_1⟩ := hE.here.2.f2
     replace hE := (((((((((((((Env.again (bel2 hE.bel hgl33 (.bool sq) (.slice Aq nq cq))).fv ((hE.here.1.1.1.1.1.1.1.1.1.1.1.2).sep2 hE.here.2 rfl (.bool sq) (.slice Aq nq cq) rfl)).fv ((hE.here.1.1.1.1.1.1.1.1.1.1.2).sep2 hE.here.2 rfl (.bool sq) (.slice Aq nq cq) rfl)).blkI ((hE.here.1.1.1.1.1.1.1.1.1.2).far2 (R := g32) (by omega) (.bool sq) (.slice Aq nq cq))).blkI ((hE.here.1.1.1.1.1.1.1.1.2).far2 (R := g32) (by omega) (.bool sq) (.slice Aq nq cq))).blkI ((hE.here.1.1.1.1.1.1.1.2).far2 (R := g32) (by omega) (.bool sq) (.slice Aq nq cq))).wv ((hE.here.1.1.1.1.1.1.2).sep2 hE.here.2 rfl (.bool sq) (.slice Aq nq cq) rfl)).blkI ((hE.here.1.1.1.1.1.2).far2 (R := g32) (by omega) (.bool sq) (.slice Aq nq cq))).wv ((hE.here.1.1.1.1.2).sep2 hE.here.2 rfl (.bool sq) (.slice Aq nq cq) rfl)).blkI ((hE.here.1.1.1.2).far2 (R := g32) (by omega) (.bool sq) (.slice Aq nq cq))).wv ((hE.here.1.1.2).sep2 hE.here.2 rfl (.bool sq) (.slice Aq nq cq) rfl)).wv ((hE.here.1.2).sep2 hE.here.2 rfl (.bool sq) (.slice Aq nq cq) rfl)).blkI ((hE.here.2).s2 (.bool sq) (.slice Aq nq cq)))
     go_simp
     clear x33_0 x33_1 f33_0 f33_1 hgl33
     generalize ((W32.setCell ⟨g32, 0, none⟩ (.bool sq)).setCell ⟨g32, 1, none⟩ (.slice Aq nq cq)) = W33 at hE ⊢
     refine hK.out _ _ (hE.here.1.1.1.1.1.1.1.1.1.2.j4 (hE.here.1.1.1.1.1.1.1.1.2.j4 hE.here.1.1.1.1.1.2.c2)) (fun hHeld => ?_)
     clear hK K
     try simp only [PL]
     refine r1 13 (fun K hK => ?_)
     have hgl34 : w.heap.size ≤ g30 := by omega
     obtain ⟨x34_0, x34_1⟩ := (hE.here.1.1.1.2).c2
     obtain ⟨f34_0, f34_1⟩ := hE.here.1.1.1.2.f2
     replace hE := (((((((((((((Env.again (bel2 hE.bel hgl34 (.bool sr) (.slice Ar nr cr))).fv ((hE.here.1.1.1.1.1.1.1.1.1.1.1.2).sep2 hE.here.1.1.1.2 rfl (.bool sr) (.slice Ar nr cr) rfl)).fv ((hE.here.1.1.1.1.1.1.1.1.1.1.2).sep2 hE.here.1.1.1.2 rfl (.bool sr) (.slice Ar nr cr) rfl)).blkI ((hE.here.1.1.1.1.1.1.1.1.1.2).far2 (R := g30) (by omega) (.bool sr) (.slice Ar nr cr))).blkI ((hE.here.1.1.1.1.1.1.1.1.2).far2 (R := g30) (by omega) (.bool sr) (.slice Ar nr cr))).blkI ((hE.here.1.1.1.1.1.1.1.2).far2 (R := g30) (by omega) (.bool sr) (.slice Ar nr cr))).wv ((hE.here.1.1.1.1.1.1.2).sep2 hE.here.1.1.1.2 rfl (.bool sr) (.slice Ar nr cr) rfl)).blkI ((hE.here.1.1.1.1.1.2).far2 (R := g30) (by omega) (.bool sr) (.slice Ar nr cr))).wv ((hE.here.1.1.1.1.2).sep2 hE.here.1.1.1.2 rfl (.bool sr) (.slice Ar nr cr) rfl)).blkI ((hE.here.1.1.1.2).s2 (.bool sr) (.slice Ar nr cr))).wv ((hE.here.1.1.2).sep2 hE.here.1.1.1.2 rfl (.bool sr) (.slice Ar nr cr) rfl)).wv ((hE.here.1.2).sep2 hE.here.1.1.1.2 rfl (.bool sr) (.slice Ar nr cr) rfl)).blkI ((hE.here.2).far2 (R := g30) (by omega) (.bool sr) (.slice Ar nr cr)))
     go_simp
     clear x34_0 x34_1 f34_0 f34_1 hgl34
     generalize ((W33.setCell ⟨g30, 0, none⟩ (.bool sr)).setCell ⟨g30, 1, none⟩ (.slice Ar nr cr)) = W34 at hE ⊢
     refine hK.out _ _ (hE.here.1.1.1.1.1.1.1.1.1.2.j4 (hE.here.1.1.1.1.1.1.1.1.2.j4 hE.here.1.1.1.1.1.2.c2)) (fun hHeld => ?_)
     clear hK K
     try simp only [PL]
     refine wpAnyH_done (by kernel_rfl) ?_ _
     go_wp2_with fail
     go_meet
     exact ⟨g32, g30, sq, Aq, nq, cq, sr, Ar, nr, cr, rfl, rfl, ((((((((((((Env.again hE.bel).fv (hE.here.1.1.1.1.1.1.1.1.1.1.1.2)).fv (hE.here.1.1.1.1.1.1.1.1.1.1.2)).blkI (hE.here.1.1.1.1.1.1.1.1.1.2)).blkI (hE.here.1.1.1.1.1.1.1.1.2)).blkI (hE.here.1.1.1.1.1.1.1.2)).wv (hE.here.1.1.1.1.1.1.2)).blkI (hE.here.1.1.1.1.1.2)).wv (hE.here.1.1.2)).wv (hE.here.1.2)).blkI (hE.here.2)).blkI (hE.here.1.1.1.2))⟩
    ·
     go_simp
     obtain ⟨g35, hg35⟩ : ∃ g35, g35 = W30.heap.size := ⟨_, rfl⟩
     have hl35_2 : w.heap.size < g35 := by rw [hg35]; exact (hE.here.1.1.1.1.1.1.2).lt
     have hl35_3 : w.heap.size + 1 < g35 := by rw [hg35]; exact (hE.here.1.1.1.1.1.2).lt
     have hl35_4 : w.heap.size + 1 + 1 < g35 := by rw [hg35]; exact (hE.here.1.1.1.1.2).lt
     have hl35_6 : g10 < g35 := by rw [hg35]; exact (hE.here.1.1.2).lt
     have hl35_8 : g30 < g35 := by rw [hg35]; exact (hE.here.2).lt
     replace hE := hE.blk 24 #[.bool false, .slice none 0 0] (g := g35) hg35.symm
     generalize W30.alloc (.cells #[.bool false, .slice none 0 0] 24) = W35 at hE ⊢
     rw [← hg35]
     clear hg35
     refine hK.out _ _ (hE.here.1.1.1.1.1.1.1.2.j4 (hE.here.1.1.1.1.1.1.2.j4 hE.here.1.1.1.2.c2)) (fun hHeld => ?_)
     clear hK K
     try simp only [PL]
     refine r1 6 (fun K hK => ?_)
     go_simp
     have nt8 : nt ≤ 800 := by rw [(hE.here.1.1.2).len]; exact HLT.out
     have hc : Calls _ _ _ _ (WR2 (kQ a b) (rQ a b) _) := rfloor_v (ca := ct) (cb := cd) (hE.here.1.1.2) (hE.here.1.1.1.1.2) (by omega) (by omega) (by have := HBP.out; omega)
     clear nt8
     refine hc.mono ?_
     clear hc
     rintro e w36 ⟨sq, Aq, nq, cq, sr, Ar, nr, cr, rfl, hk, hr, hb⟩
     replace hE := hE.step hb
     clear hb
     replace hE := (hE.wv hk).wv hr
     clear hk hr
     go_wp2_with fail
     refine hK.out _ _ (hE.here.1.1.1.1.1.1.1.1.1.2.j4 (hE.here.1.1.1.1.1.1.1.1.2.j4 hE.here.1.1.1.1.1.2.c2)) (fun hHeld => ?_)
     clear hK K
     try simp only [PL]
     refine tk 7 ?_
     try simp only [PL]
     refine tk 8 ?_
     try simp only [PL]
     refine tk 9 ?_
     try simp only [PL]
     refine r1 12 (fun K hK => ?_)
     have hgl37 : w.heap.size ≤ g35 := by omega
     obtain ⟨x37_0, x37_1⟩ := (hE.here.1.1.2).c2
     obtain ⟨f37_0, f37_1⟩ := hE.here.1.1.2.f2
     replace hE := (((((((((((((Env.again (bel2 hE.bel hgl37 (.bool sq) (.slice Aq nq cq))).fv ((hE.here.1.1.1.1.1.1.1.1.1.1.1.2).sep2 hE.here.1.1.2 rfl (.bool sq) (.slice Aq nq cq) rfl)).fv ((hE.here.1.1.1.1.1.1.1.1.1.1.2).sep2 hE.here.1.1.2 rfl (.bool sq) (.slice Aq nq cq) rfl)).blkI ((hE.here.1.1.1.1.1.1.1.1.1.2).far2 (R := g35) (by omega) (.bool sq) (.slice Aq nq cq))).blkI ((hE.here.1.1.1.1.1.1.1.1.2).far2 (R := g35) (by omega) (.bool sq) (.slice Aq nq cq))).blkI ((hE.here.1.1.1.1.1.1.1.2).far2 (R := g35) (by omega) (.bool sq) (.slice Aq nq cq))).wv ((hE.here.1.1.1.1.1.1.2).sep2 hE.here.1.1.2 rfl (.bool sq) (.slice Aq nq cq) rfl)).blkI ((hE.here.1.1.1.1.1.2).far2 (R := g35) (by omega) (.bool sq) (.slice Aq nq cq))).wv ((hE.here.1.1.1.1.2).sep2 hE.here.1.1.2 rfl (.bool sq) (.slice Aq nq cq) rfl)).blkI ((hE.here.1.1.1.2).far2 (R := g35) (by omega) (.bool sq) (.slice Aq nq cq))).blkI ((hE.here.1.1.2).s2 (.bool sq) (.slice Aq nq cq))).wv ((hE.here.1.2).sep2 hE.here.1.1.2 rfl (.bool sq) (.slice Aq nq cq) rfl)).wv ((hE.here.2).sep2 hE.here.1.1.2 rfl (.bool sq) (.slice Aq nq cq) rfl))
     go_simp
     clear x37_0 x37_1 f37_0 f37_1 hgl37
     generalize ((w36.setCell ⟨g35, 0, none⟩ (.bool sq)).setCell ⟨g35, 1, none⟩ (.slice Aq nq cq)) = W37 at hE ⊢
     refine hK.out _ _ (hE.here.1.1.1.1.1.1.1.1.1.2.j4 (hE.here.1.1.1.1.1.1.1.1.2.j4 hE.here.1.1.1.1.1.2.c2)) (fun hHeld => ?_)
     clear hK K
     try simp only [PL]
     refine r1 13 (fun K hK => ?_)
     have hgl38 : w.heap.size ≤ g30 := by omega
     obtain ⟨x38_0, x38_1⟩ := (hE.here.1.1.1.2).c2
     obtain ⟨f38_0, f38_1⟩ := hE.here.1.1.1.2.f2
     replace hE := (((((((((((((Env.again (bel2 hE.bel hgl38 (.bool sr) (.slice Ar nr cr))).fv ((hE.here.1.1.1.1.1.1.1.1.1.1.1.2).sep2 hE.here.1.1.1.2 rfl (.bool sr) (.slice Ar nr cr) rfl)).fv ((hE.here.1.1.1.1.1.1.1.1.1.1.2).sep2 hE.here.1.1.1.2 rfl (.bool sr) (.slice Ar nr cr) rfl)).blkI ((hE.here.1.1.1.1.1.1.1.1.1.2).far2 (R := g30) (by omega) (.bool sr) (.slice Ar nr cr))).blkI ((hE.here.1.1.1.1.1.1.1.1.2).far2 (R := g30) (by omega) (.bool sr) (.slice Ar nr cr))).blkI ((hE.here.1.1.1.1.1.1.1.2).far2 (R := g30) (by omega) (.bool sr) (.slice Ar nr cr))).wv ((hE.here.1.1.1.1.1.1.2).sep2 hE.here.1.1.1.2 rfl (.bool sr) (.slice Ar nr cr) rfl)).blkI ((hE.here.1.1.1.1.1.2).far2 (R := g30) (by omega) (.bool sr) (.slice Ar nr cr))).wv ((hE.here.1.1.1.1.2).sep2 hE.here.1.1.1.2 rfl (.bool sr) (.slice Ar nr cr) rfl)).blkI ((hE.here.1.1.1.2).s2 (.bool sr) (.slice Ar nr cr))).blkI ((hE.here.1.1.2).far2 (R := g30) (by omega) (.bool sr) (.slice Ar nr cr))).wv ((hE.here.1.2).sep2 hE.here.1.1.1.2 rfl (.bool sr) (.slice Ar nr cr) rfl)).wv ((hE.here.2).sep2 hE.here.1.1.1.2 rfl (.bool sr) (.slice Ar nr cr) rfl))
     go_simp
     clear x38_0 x38_1 f38_0 f38_1 hgl38
     generalize ((W37.setCell ⟨g30, 0, none⟩ (.bool sr)).setCell ⟨g30, 1, none⟩ (.slice Ar nr cr)) = W38 at hE ⊢
     refine hK.out _ _ (hE.here.1.1.1.1.1.1.1.1.1.2.j4 (hE.here.1.1.1.1.1.1.1.1.2.j4 hE.here.1.1.1.1.1.2.c2)) (fun hHeld => ?_)
     clear hK K
     try simp only [PL]
     refine wpAnyH_done (by kernel_rfl) ?_ _
     go_wp2_with fail
     go_meet
     exact ⟨g35, g30, sq, Aq, nq, cq, sr, Ar, nr, cr, rfl, rfl, ((((((((((((Env.again hE.bel).fv (hE.here.1.1.1.1.1.1.1.1.1.1.1.2)).fv (hE.here.1.1.1.1.1.1.1.1.1.1.2)).blkI (hE.here.1.1.1.1.1.1.1.1.1.2)).blkI (hE.here.1.1.1.1.1.1.1.1.2)).blkI (hE.here.1.1.1.1.1.1.1.2)).wv (hE.here.1.1.1.1.1.1.2)).blkI (hE.here.1.1.1.1.1.2)).wv (hE.here.1.2)).wv (hE.here.2)).blkI (hE.here.1.1.2)).blkI (hE.here.1.1.1.2))⟩
  ·
   go_simp
   obtain ⟨g39, hg39⟩ : ∃ g39, g39 = wd.heap.size := ⟨_, rfl⟩
   have hl39_2 : w.heap.size < g39 := by rw [hg39]; exact (hE.here.1.1.1.1.2).lt
   have hl39_3 : w.heap.size + 1 < g39 := by rw [hg39]; exact (hE.here.1.1.1.2).lt
   have hl39_4 : w.heap.size + 1 + 1 < g39 := by rw [hg39]; exact (hE.here.1.1.2).lt
   have hl39_6 : g10 < g39 := by rw [hg39]; exact (hE.here.2).lt
   replace hE := hE.blk 24 #[.bool false, .slice none 0 0] (g := g39) hg39.symm
   generalize wd.alloc (.cells #[.bool false, .slice none 0 0] 24) = W39 at hE ⊢
   rw [← hg39]
   clear hg39
   refine hK.out _ _ (hE.here.1.1.1.1.1.2.j4 (hE.here.1.1.1.1.2.j4 hE.here.1.2.c2)) (fun hHeld => ?_)
   clear hK K
   try simp only [PL]
   refine wpAnyH_ready (rs := [4, 11]) (by kernel_rfl) (by simp) (AllReadyH.cons rfl (fun K hK => ?_) (AllReadyH.cons rfl (fun K hK => ?_) (AllReadyH.nil)))
   ·
    go_simp
    refine (rproduct_w (c := ca) (d := db) (hE.here.1.1.1.1.1.1.1.2).1 (hE.here.1.1.1.1.1.1.2).2 (by omega) (by omega)).mono ?_
    rintro e w40 ⟨st, At, nt, ct, rfl, ht, hb⟩
    replace hE := hE.step hb
    clear hb
    replace hE := hE.wv ht
    clear ht
    go_wp2_with fail
    refine hK.out _ _ (hE.here.1.1.1.1.1.1.2.j4 (hE.here.1.1.1.1.1.2.j4 hE.here.1.1.2.c2)) (fun hHeld => ?_)
    clear hK K
    try simp only [PL]
    refine wpAnyH_ready (rs := [6, 11]) (by kernel_rfl) (by simp) (AllReadyH.cons rfl (fun K hK => ?_) (AllReadyH.cons rfl (fun K hK => ?_) (AllReadyH.nil)))
    ·
     go_simp
     have nt8 : nt ≤ 800 := by rw [(hE.here.2).len]; exact HLT.out
     have hc : Calls _ _ _ _ (WR2 (kQ a b) (rQ a b) _) := rfloor_v (ca := ct) (cb := cd) (hE.here.2) (hE.here.1.1.1.2) (by omega) (by omega) (by have := HBP.out; omega)
     clear nt8
     refine hc.mono ?_
     clear hc
     rintro e w41 ⟨sq, Aq, nq, cq, sr, Ar, nr, cr, rfl, hk, hr, hb⟩
     replace hE := hE.step hb
     clear hb
     replace hE := (hE.wv hk).wv hr
     clear hk hr
     go_wp2_with fail
     refine hK.out _ _ (hE.here.1.1.1.1.1.1.1.1.2.j4 (hE.here.1.1.1.1.1.1.1.2.j4 hE.here.1.1.1.1.2.c2)) (fun hHeld => ?_)
     clear hK K
     try simp only [PL]
     refine tk 7 ?_
     try simp only [PL]
     refine tk 8 ?_
     try simp only [PL]
     refine tk 9 ?_
     try simp only [PL]
     refine r1 11 (fun K hK => ?_)
     go_simp
     obtain ⟨g42, hg42⟩ : ∃ g42, g42 = w41.heap.size := ⟨_, rfl⟩
     have hl42_2 : w.heap.size < g42 := by rw [hg42]; exact (hE.here.1.1.1.1.1.1.1.1.2).lt
     have hl42_3 : w.heap.size + 1 < g42 := by rw [hg42]; exact (hE.here.1.1.1.1.1.1.1.2).lt
     have hl42_4 : w.heap.size + 1 + 1 < g42 := by rw [hg42]; exact (hE.here.1.1.1.1.1.1.2).lt
     have hl42_6 : g10 < g42 := by rw [hg42]; exact (hE.here.1.1.1.1.2).lt
     have hl42_7 : g39 < g42 := by rw [hg42]; exact (hE.here.1.1.1.2).lt
     replace hE := hE.blk 24 #[.bool false, .slice none 0 0] (g := g42) hg42.symm
     generalize w41.alloc (.cells #[.bool false, .slice none 0 0] 24) = W42 at hE ⊢
     rw [← hg42]
     clear hg42
     refine hK.out _ _ (hE.here.1.1.1.1.1.1.1.1.1.2.j4 (hE.here.1.1.1.1.1.1.1.1.2.j4 hE.here.1.1.1.1.1.2.c2)) (fun hHeld => ?_)
     clear hK K
     try simp only [PL]
     refine r1 12 (fun K hK => ?_)
     have hgl43 : w.heap.size ≤ g39 := by omega
     obtain ⟨x43_0, x43_1⟩ := (hE.here.1.1.1.1.2).c2
     obtain ⟨f43_0, f43_1⟩ := hE.here.1.1.1.1.2.f2
     replace hE := (((((((((((((Env.again (bel2 hE.bel hgl43 (.bool sq) (.slice Aq nq cq))).fv ((hE.here.1.1.1.1.1.1.1.1.1.1.1.2).sep2 hE.here.1.1.1.1.2 rfl (.bool sq) (.slice Aq nq cq) rfl)).fv ((hE.here.1.1.1.1.1.1.1.1.1.1.2).sep2 hE.here.1.1.1.1.2 rfl (.bool sq) (.slice Aq nq cq) rfl)).blkI ((hE.here.1.1.1.1.1.1.1.1.1.2).far2 (R := g39) (by omega) (.bool sq) (.slice Aq nq cq))).blkI ((hE.here.1.1.1.1.1.1.1.1.2).far2 (R := g39) (by omega) (.bool sq) (.slice Aq nq cq))).blkI ((hE.here.1.1.1.1.1.1.1.2).far2 (R := g39) (by omega) (.bool sq) (.slice Aq nq cq))).wv ((hE.here.1.1.1.1.1.1.2).sep2 hE.here.1.1.1.1.2 rfl (.bool sq) (.slice Aq nq cq) rfl)).blkI ((hE.here.1.1.1.1.1.2).far2 (R := g39) (by omega) (.bool sq) (.slice Aq nq cq))).blkI ((hE.here.1.1.1.1.2).s2 (.bool sq) (.slice Aq nq cq))).wv ((hE.here.1.1.1.2).sep2 hE.here.1.1.1.1.2 rfl (.bool sq) (.slice Aq nq cq) rfl)).wv ((hE.here.1.1.2).sep2 hE.here.1.1.1.1.2 rfl (.bool sq) (.slice Aq nq cq) rfl)).wv ((hE.here.1.2).sep2 hE.here.1.1.1.1.2 rfl (.bool sq) (.slice Aq nq cq) rfl)).blkI ((hE.here.2).far2 (R := g39) (by omega) (.bool sq) (.slice Aq nq cq)))
     go_simp
     clear x43_0 x43_1 f43_0 f43_1 hgl43
     generalize ((W42.setCell ⟨g39, 0, none⟩ (.bool sq)).setCell ⟨g39, 1, none⟩ (.slice Aq nq cq)) = W43 at hE ⊢
     refine hK.out _ _ (hE.here.1.1.1.1.1.1.1.1.1.2.j4 (hE.here.1.1.1.1.1.1.1.1.2.j4 hE.here.1.1.1.1.1.2.c2)) (fun hHeld => ?_)
     clear hK K
     try simp only [PL]
     refine r1 13 (fun K hK => ?_)
     have hgl44 : w.heap.size ≤ g42 := by omega
     obtain ⟨x44_0, x44_1⟩ := (hE.here.2).c2
     obtain ⟨f44_0, f44_1⟩ := hE.here.2.f2
     replace hE := (((((((((((((Env.again (bel2 hE.bel hgl44 (.bool sr) (.slice Ar nr cr))).fv ((hE.here.1.1.1.1.1.1.1.1.1.1.1.2).sep2 hE.here.2 rfl (.bool sr) (.slice Ar nr cr) rfl)).fv ((hE.here.1.1.1.1.1.1.1.1.1.1.2).sep2 hE.here.2 rfl (.bool sr) (.slice Ar nr cr) rfl)).blkI ((hE.here.1.1.1.1.1.1.1.1.1.2).far2 (R := g42) (by omega) (.bool sr) (.slice Ar nr cr))).blkI ((hE.here.1.1.1.1.1.1.1.1.2).far2 (R := g42) (by omega) (.bool sr) (.slice Ar nr cr))).blkI ((hE.here.1.1.1.1.1.1.1.2).far2 (R := g42) (by omega) (.bool sr) (.slice Ar nr cr))).wv ((hE.here.1.1.1.1.1.1.2).sep2 hE.here.2 rfl (.bool sr) (.slice Ar nr cr) rfl)).blkI ((hE.here.1.1.1.1.1.2).far2 (R := g42) (by omega) (.bool sr) (.slice Ar nr cr))).blkI ((hE.here.1.1.1.1.2).far2 (R := g42) (by omega) (.bool sr) (.slice Ar nr cr))).wv ((hE.here.1.1.1.2).sep2 hE.here.2 rfl (.bool sr) (.slice Ar nr cr) rfl)).wv ((hE.here.1.1.2).sep2 hE.here.2 rfl (.bool sr) (.slice Ar nr cr) rfl)).wv ((hE.here.1.2).sep2 hE.here.2 rfl (.bool sr) (.slice Ar nr cr) rfl)).blkI ((hE.here.2).s2 (.bool sr) (.slice Ar nr cr)))
     go_simp
     clear x44_0 x44_1 f44_0 f44_1 hgl44
     generalize ((W43.setCell ⟨g42, 0, none⟩ (.bool sr)).setCell ⟨g42, 1, none⟩ (.slice Ar nr cr)) = W44 at hE ⊢
     refine hK.out _ _ (hE.here.1.1.1.1.1.1.1.1.1.2.j4 (hE.here.1.1.1.1.1.1.1.1.2.j4 hE.here.1.1.1.1.1.2.c2)) (fun hHeld => ?_)
     clear hK K
     try simp only [PL]
     refine wpAnyH_done (by kernel_rfl) ?_ _
     go_wp2_with fail
     go_meet
     exact ⟨g39, g42, sq, Aq, nq, cq, sr, Ar, nr, cr, rfl, rfl, ((((((((((((Env.again hE.bel).fv (hE.here.1.1.1.1.1.1.1.1.1.1.1.2)).fv (hE.here.1.1.1.1.1.1.1.1.1.1.2)).blkI (hE.here.1.1.1.1.1.1.1.1.1.2)).blkI (hE.here.1.1.1.1.1.1.1.1.2)).blkI (hE.here.1.1.1.1.1.1.1.2)).wv (hE.here.1.1.1.1.1.1.2)).blkI (hE.here.1.1.1.1.1.2)).wv (hE.here.1.1.2)).wv (hE.here.1.2)).blkI (hE.here.1.1.1.1.2)).blkI (hE.here.2))⟩
    ·
     go_simp
     obtain ⟨g45, hg45⟩ : ∃ g45, g45 = w40.heap.size := ⟨_, rfl⟩
     have hl45_2 : w.heap.size < g45 := by rw [hg45]; exact (hE.here.1.1.1.1.1.1.2).lt
     have hl45_3 : w.heap.size + 1 < g45 := by rw [hg45]; exact (hE.here.1.1.1.1.1.2).lt
     have hl45_4 : w.heap.size + 1 + 1 < g45 := by rw [hg45]; exact (hE.here.1.1.1.1.2).lt
     have hl45_6 : g10 < g45 := by rw [hg45]; exact (hE.here.1.1.2).lt
     have hl45_7 : g39 < g45 := by rw [hg45]; exact (hE.here.1.2).lt
     replace hE := hE.blk 24 #[.bool false, .slice none 0 0] (g := g45) hg45.symm
     generalize w40.alloc (.cells #[.bool false, .slice none 0 0] 24) = W45 at hE ⊢
     rw [← hg45]
     clear hg45
     refine hK.out _ _ (hE.here.1.1.1.1.1.1.1.2.j4 (hE.here.1.1.1.1.1.1.2.j4 hE.here.1.1.1.2.c2)) (fun hHeld => ?_)
     clear hK K
     try simp only [PL]
     refine r1 6 (fun K hK => ?_)
     go_simp
     have nt8 : nt ≤ 800 := by rw [(hE.here.1.2).len]; exact HLT.out
     have hc : Calls _ _ _ _ (WR2 (kQ a b) (rQ a b) _) := rfloor_v (ca := ct) (cb := cd) (hE.here.1.2) (hE.here.1.1.1.1.2) (by omega) (by omega) (by have := HBP.out; omega)
     clear nt8
     refine hc.mono ?_
     clear hc
     rintro e w46 ⟨sq, Aq, nq, cq, sr, Ar, nr, cr, rfl, hk, hr, hb⟩
     replace hE := hE.step hb
     clear hb
     replace hE := (hE.wv hk).wv hr
     clear hk hr
     go_wp2_with fail
     refine hK.out _ _ (hE.here.1.1.1.1.1.1.1.1.1.2.j4 (hE.here.1.1.1.1.1.1.1.1.2.j4 hE.here.1.1.1.1.1.2.c2)) (fun hHeld => ?_)
     clear hK K
     try simp only [PL]
     refine tk 7 ?_
     try simp only [PL]
     refine tk 8 ?_
     try simp only [PL]
     refine tk 9 ?_
     try simp only [PL]
     refine r1 12 (fun K hK => ?_)
     have hgl47 : w.heap.size ≤ g39 := by omega
     obtain ⟨x47_0, x47_1⟩ := (hE.here.1.1.1.1.2).c2
     obtain ⟨f47_0, f47_1⟩ := hE.here.1.1.1.1.2.f2
     replace hE := (((((((((((((Env.again (bel2 hE.bel hgl47 (.bool sq) (.slice Aq nq cq))).fv ((hE.here.1.1.1.1.1.1.1.1.1.1.1.2).sep2 hE.here.1.1.1.1.2 rfl (.bool sq) (.slice Aq nq cq) rfl)).fv ((hE.here.1.1.1.1.1.1.1.1.1.1.2).sep2 hE.here.1.1.1.1.2 rfl (.bool sq) (.slice Aq nq cq) rfl)).blkI ((hE.here.1.1.1.1.1.1.1.1.1.2).far2 (R := g39) (by omega) (.bool sq) (.slice Aq nq cq))).blkI ((hE.here.1.1.1.1.1.1.1.1.2).far2 (R := g39) (by omega) (.bool sq) (.slice Aq nq cq))).blkI ((hE.here.1.1.1.1.1.1.1.2).far2 (R := g39) (by omega) (.bool sq) (.slice Aq nq cq))).wv ((hE.here.1.1.1.1.1.1.2).sep2 hE.here.1.1.1.1.2 rfl (.bool sq) (.slice Aq nq cq) rfl)).blkI ((hE.here.1.1.1.1.1.2).far2 (R := g39) (by omega) (.bool sq) (.slice Aq nq cq))).blkI ((hE.here.1.1.1.1.2).s2 (.bool sq) (.slice Aq nq cq))).wv ((hE.here.1.1.1.2).sep2 hE.here.1.1.1.1.2 rfl (.bool sq) (.slice Aq nq cq) rfl)).blkI ((hE.here.1.1.2).far2 (R := g39) (by omega) (.bool sq) (.slice Aq nq cq))).wv ((hE.here.1.2).sep2 hE.here.1.1.1.1.2 rfl (.bool sq) (.slice Aq nq cq) rfl)).wv ((hE.here.2).sep2 hE.here.1.1.1.1.2 rfl (.bool sq) (.slice Aq nq cq) rfl))
     go_simp
     clear x47_0 x47_1 f47_0 f47_1 hgl47
     generalize ((w46.setCell ⟨g39, 0, none⟩ (.bool sq)).setCell ⟨g39, 1, none⟩ (.slice Aq nq cq)) = W47 at hE ⊢
     refine hK.out _ _ (hE.here.1.1.1.1.1.1.1.1.1.2.j4 (hE.here.1.1.1.1.1.1.1.1.2.j4 hE.here.1.1.1.1.1.2.c2)) (fun hHeld => ?_)
     clear hK K
     try simp only [PL]
     refine r1 13 (fun K hK => ?_)
     have hgl48 : w.heap.size ≤ g45 := by omega
     obtain ⟨x48_0, x48_1⟩ := (hE.here.1.1.2).c2
     obtain ⟨f48_0, f48_1⟩ := hE.here.1.1.2.f2
     replace hE := (((((((((((((Env.again (bel2 hE.bel hgl48 (.bool sr) (.slice Ar nr cr))).fv ((hE.here.1.1.1.1.1.1.1.1.1.1.1.2).sep2 hE.here.1.1.2 rfl (.bool sr) (.slice Ar nr cr) rfl)).fv ((hE.here.1.1.1.1.1.1.1.1.1.1.2).sep2 hE.here.1.1.2 rfl (.bool sr) (.slice Ar nr cr) rfl)).blkI ((hE.here.1.1.1.1.1.1.1.1.1.2).far2 (R := g45) (by omega) (.bool sr) (.slice Ar nr cr))).blkI ((hE.here.1.1.1.1.1.1.1.1.2).far2 (R := g45) (by omega) (.bool sr) (.slice Ar nr cr))).blkI ((hE.here.1.1.1.1.1.1.1.2).far2 (R := g45) (by omega) (.bool sr) (.slice Ar nr cr))).wv ((hE.here.1.1.1.1.1.1.2).sep2 hE.here.1.1.2 rfl (.bool sr) (.slice Ar nr cr) rfl)).blkI ((hE.here.1.1.1.1.1.2).far2 (R := g45) (by omega) (.bool sr) (.slice Ar nr cr))).blkI ((hE.here.1.1.1.1.2).far2 (R := g45) (by omega) (.bool sr) (.slice Ar nr cr))).wv ((hE.here.1.1.1.2).sep2 hE.here.1.1.2 rfl (.bool sr) (.slice Ar nr cr) rfl)).blkI ((hE.here.1.1.2).s2 (.bool sr) (.slice Ar nr cr))).wv ((hE.here.1.2).sep2 hE.here.1.1.2 rfl (.bool sr) (.slice Ar nr cr) rfl)).wv ((hE.here.2).sep2 hE.here.1.1.2 rfl (.bool sr) (.slice Ar nr cr) rfl))
     go_simp
     clear x48_0 x48_1 f48_0 f48_1 hgl48
     generalize ((W47.setCell ⟨g45, 0, none⟩ (.bool sr)).setCell ⟨g45, 1, none⟩ (.slice Ar nr cr)) = W48 at hE ⊢
     refine hK.out _ _ (hE.here.1.1.1.1.1.1.1.1.1.2.j4 (hE.here.1.1.1.1.1.1.1.1.2.j4 hE.here.1.1.1.1.1.2.c2)) (fun hHeld => ?_)
     clear hK K
     try simp only [PL]
     refine wpAnyH_done (by kernel_rfl) ?_ _
     go_wp2_with fail
     go_meet
     exact ⟨g39, g45, sq, Aq, nq, cq, sr, Ar, nr, cr, rfl, rfl, ((((((((((((Env.again hE.bel).fv (hE.here.1.1.1.1.1.1.1.1.1.1.1.2)).fv (hE.here.1.1.1.1.1.1.1.1.1.1.2)).blkI (hE.here.1.1.1.1.1.1.1.1.1.2)).blkI (hE.here.1.1.1.1.1.1.1.1.2)).blkI (hE.here.1.1.1.1.1.1.1.2)).wv (hE.here.1.1.1.1.1.1.2)).blkI (hE.here.1.1.1.1.1.2)).wv (hE.here.1.2)).wv (hE.here.2)).blkI (hE.here.1.1.1.1.2)).blkI (hE.here.1.1.2))⟩
   ·
    go_simp
    obtain ⟨g49, hg49⟩ : ∃ g49, g49 = W39.heap.size := ⟨_, rfl⟩
    have hl49_2 : w.heap.size < g49 := by rw [hg49]; exact (hE.here.1.1.1.1.1.2).lt
    have hl49_3 : w.heap.size + 1 < g49 := by rw [hg49]; exact (hE.here.1.1.1.1.2).lt
    have hl49_4 : w.heap.size + 1 + 1 < g49 := by rw [hg49]; exact (hE.here.1.1.1.2).lt
    have hl49_6 : g10 < g49 := by rw [hg49]; exact (hE.here.1.2).lt
    have hl49_7 : g39 < g49 := by rw [hg49]; exact (hE.here.2).lt
    replace hE := hE.blk 24 #[.bool false, .slice none 0 0] (g := g49) hg49.symm
    generalize W39.alloc (.cells #[.bool false, .slice none 0 0] 24) = W49 at hE ⊢
    rw [← hg49]
    clear hg49
    refine hK.out _ _ (hE.here.1.1.1.1.1.1.2.j4 (hE.here.1.1.1.1.1.2.j4 hE.here.1.1.2.c2)) (fun hHeld => ?_)
    clear hK K
    try simp only [PL]
    refine r1 4 (fun K hK => ?_)
    go_simp
    refine (rproduct_w (c := ca) (d := db) (hE.here.1.1.1.1.1.1.1.1.2).1 (hE.here.1.1.1.1.1.1.1.2).2 (by omega) (by omega)).mono ?_
    rintro e w50 ⟨st, At, nt, ct, rfl, ht, hb⟩
    replace hE := hE.step hb
    clear hb
    replace hE := hE.wv ht
    clear ht
    go_wp2_with fail
    refine hK.out _ _ (hE.here.1.1.1.1.1.1.1.2.j4 (hE.here.1.1.1.1.1.1.2.j4 hE.here.1.1.1.2.c2)) (fun hHeld => ?_)
    clear hK K
    try simp only [PL]
    refine r1 6 (fun K hK => ?_)
    go_simp
    have nt8 : nt ≤ 800 := by rw [(hE.here.2).len]; exact HLT.out
    have hc : Calls _ _ _ _ (WR2 (kQ a b) (rQ a b) _) := rfloor_v (ca := ct) (cb := cd) (hE.here.2) (hE.here.1.1.1.1.2) (by omega) (by omega) (by have := HBP.out; omega)
    clear nt8
    refine hc.mono ?_
    clear hc
    rintro e w51 ⟨sq, Aq, nq, cq, sr, Ar, nr, cr, rfl, hk, hr, hb⟩
    replace hE := hE.step hb
    clear hb
    replace hE := (hE.wv hk).wv hr
    clear hk hr
    go_wp2_with fail
    refine hK.out _ _ (hE.here.1.1.1.1.1.1.1.1.1.2.j4 (hE.here.1.1.1.1.1.1.1.1.2.j4 hE.here.1.1.1.1.1.2.c2)) (fun hHeld => ?_)
    clear hK K
    try simp only [PL]
    refine tk 7 ?_
    try simp only [PL]
    refine tk 8 ?_
    try simp only [PL]
    refine tk 9 ?_
    try simp only [PL]
    refine r1 12 (fun K hK => ?_)
    have hgl52 : w.heap.size ≤ g39 := by omega
    obtain ⟨x52_0, x52_1⟩ := (hE.here.1.1.1.1.2).c2
    obtain ⟨f52_0, f52_1⟩ := hE.here.1.1.1.1.2.f2
    replace hE := (((((((((((((Env.again (bel2 hE.bel hgl52 (.bool sq) (.slice Aq nq cq))).fv ((hE.here.1.1.1.1.1.1.1.1.1.1.1.2).sep2 hE.here.1.1.1.1.2 rfl (.bool sq) (.slice Aq nq cq) rfl)).fv ((hE.here.1.1.1.1.1.1.1.1.1.1.2).sep2 hE.here.1.1.1.1.2 rfl (.bool sq) (.slice Aq nq cq) rfl)).blkI ((hE.here.1.1.1.1.1.1.1.1.1.2).far2 (R := g39) (by omega) (.bool sq) (.slice Aq nq cq))).blkI ((hE.here.1.1.1.1.1.1.1.1.2).far2 (R := g39) (by omega) (.bool sq) (.slice Aq nq cq))).blkI ((hE.here.1.1.1.1.1.1.1.2).far2 (R := g39) (by omega) (.bool sq) (.slice Aq nq cq))).wv ((hE.here.1.1.1.1.1.1.2).sep2 hE.here.1.1.1.1.2 rfl (.bool sq) (.slice Aq nq cq) rfl)).blkI ((hE.here.1.1.1.1.1.2).far2 (R := g39) (by omega) (.bool sq) (.slice Aq nq cq))).blkI ((hE.here.1.1.1.1.2).s2 (.bool sq) (.slice Aq nq cq))).blkI ((hE.here.1.1.1.2).far2 (R := g39) (by omega) (.bool sq) (.slice Aq nq cq))).wv ((hE.here.1.1.2).sep2 hE.here.1.1.1.1.2 rfl (.bool sq) (.slice Aq nq cq) rfl)).wv ((hE.here.1.2).sep2 hE.here.1.1.1.1.2 rfl (.bool sq) (.slice Aq nq cq) rfl)).wv ((hE.here.2).sep2 hE.here.1.1.1.1.2 rfl (.bool sq) (.slice Aq nq cq) rfl))
    go_simp
    clear x52_0 x52_1 f52_0 f52_1 hgl52
    generalize ((w51.setCell ⟨g39, 0, none⟩ (.bool sq)).setCell ⟨g39, 1, none⟩ (.slice Aq nq cq)) = W52 at hE ⊢
    refine hK.out _ _ (hE.here.1.1.1.1.1.1.1.1.1.2.j4 (hE.here.1.1.1.1.1.1.1.1.2.j4 hE.here.1.1.1.1.1.2.c2)) (fun hHeld => ?_)
    clear hK K
    try simp only [PL]
    refine r1 13 (fun K hK => ?_)
    have hgl53 : w.heap.size ≤ g49 := by omega
    obtain ⟨x53_0, x53_1⟩ := (hE.here.1.1.1.2).c2
    obtain ⟨f53_0, f53_1⟩ := hE.here.1.1.1.2.f2
    replace hE := (((((((((((((Env.again (bel2 hE.bel hgl53 (.bool sr) (.slice Ar nr cr))).fv ((hE.here.1.1.1.1.1.1.1.1.1.1.1.2).sep2 hE.here.1.1.1.2 rfl (.bool sr) (.slice Ar nr cr) rfl)).fv ((hE.here.1.1.1.1.1.1.1.1.1.1.2).sep2 hE.here.1.1.1.2 rfl (.bool sr) (.slice Ar nr cr) rfl)).blkI ((hE.here.1.1.1.1.1.1.1.1.1.2).far2 (R := g49) (by omega) (.bool sr) (.slice Ar nr cr))).blkI ((hE.here.1.1.1.1.1.1.1.1.2).far2 (R := g49) (by omega) (.bool sr) (.slice Ar nr cr))).blkI ((hE.here.1.1.1.1.1.1.1.2).far2 (R := g49) (by omega) (.bool sr) (.slice Ar nr cr))).wv ((hE.here.1.1.1.1.1.1.2).sep2 hE.here.1.1.1.2 rfl (.bool sr) (.slice Ar nr cr) rfl)).blkI ((hE.here.1.1.1.1.1.2).far2 (R := g49) (by omega) (.bool sr) (.slice Ar nr cr))).blkI ((hE.here.1.1.1.1.2).far2 (R := g49) (by omega) (.bool sr) (.slice Ar nr cr))).blkI ((hE.here.1.1.1.2).s2 (.bool sr) (.slice Ar nr cr))).wv ((hE.here.1.1.2).sep2 hE.here.1.1.1.2 rfl (.bool sr) (.slice Ar nr cr) rfl)).wv ((hE.here.1.2).sep2 hE.here.1.1.1.2 rfl (.bool sr) (.slice Ar nr cr) rfl)).wv ((hE.here.2).sep2 hE.here.1.1.1.2 rfl (.bool sr) (.slice Ar nr cr) rfl))
    go_simp
    clear x53_0 x53_1 f53_0 f53_1 hgl53
    generalize ((W52.setCell ⟨g49, 0, none⟩ (.bool sr)).setCell ⟨g49, 1, none⟩ (.slice Ar nr cr)) = W53 at hE ⊢
    refine hK.out _ _ (hE.here.1.1.1.1.1.1.1.1.1.2.j4 (hE.here.1.1.1.1.1.1.1.1.2.j4 hE.here.1.1.1.1.1.2.c2)) (fun hHeld => ?_)
    clear hK K
    try simp only [PL]
    refine wpAnyH_done (by kernel_rfl) ?_ _
    go_wp2_with fail
    go_meet
    exact ⟨g39, g49, sq, Aq, nq, cq, sr, Ar, nr, cr, rfl, rfl, ((((((((((((Env.again hE.bel).fv (hE.here.1.1.1.1.1.1.1.1.1.1.1.2)).fv (hE.here.1.1.1.1.1.1.1.1.1.1.2)).blkI (hE.here.1.1.1.1.1.1.1.1.1.2)).blkI (hE.here.1.1.1.1.1.1.1.1.2)).blkI (hE.here.1.1.1.1.1.1.1.2)).wv (hE.here.1.1.1.1.1.1.2)).blkI (hE.here.1.1.1.1.1.2)).wv (hE.here.1.2)).wv (hE.here.2)).blkI (hE.here.1.1.1.1.2)).blkI (hE.here.1.1.1.2))⟩
  ·
   go_simp
   obtain ⟨g54, hg54⟩ : ∃ g54, g54 = wd.heap.size := ⟨_, rfl⟩
   have hl54_2 : w.heap.size < g54 := by rw [hg54]; exact (hE.here.1.1.1.1.2).lt
   have hl54_3 : w.heap.size + 1 < g54 := by rw [hg54]; exact (hE.here.1.1.1.2).lt
   have hl54_4 : w.heap.size + 1 + 1 < g54 := by rw [hg54]; exact (hE.here.1.1.2).lt
   have hl54_6 : g10 < g54 := by rw [hg54]; exact (hE.here.2).lt
   replace hE := hE.blk 24 #[.bool false, .slice none 0 0] (g := g54) hg54.symm
   generalize wd.alloc (.cells #[.bool false, .slice none 0 0] 24) = W54 at hE ⊢
   rw [← hg54]
   clear hg54
   refine hK.out _ _ (hE.here.1.1.1.1.1.2.j4 (hE.here.1.1.1.1.2.j4 hE.here.1.2.c2)) (fun hHeld => ?_)
   clear hK K
   try simp only [PL]
   refine wpAnyH_ready (rs := [4, 10]) (by kernel_rfl) (by simp) (AllReadyH.cons rfl (fun K hK => ?_) (AllReadyH.cons rfl (fun K hK => ?_) (AllReadyH.nil)))
   ·
    go_simp
    refine (rproduct_w (c := ca) (d := db) (hE.here.1.1.1.1.1.1.1.2).1 (hE.here.1.1.1.1.1.1.2).2 (by omega) (by omega)).mono ?_
    rintro e w55 ⟨st, At, nt, ct, rfl, ht, hb⟩
    replace hE := hE.step hb
    clear hb
    replace hE := hE.wv ht
    clear ht
    go_wp2_with fail
    refine hK.out _ _ (hE.here.1.1.1.1.1.1.2.j4 (hE.here.1.1.1.1.1.2.j4 hE.here.1.1.2.c2)) (fun hHeld => ?_)
    clear hK K
    try simp only [PL]
    refine wpAnyH_ready (rs := [6, 10]) (by kernel_rfl) (by simp) (AllReadyH.cons rfl (fun K hK => ?_) (AllReadyH.cons rfl (fun K hK => ?_) (AllReadyH.nil)))
    ·
     go_simp
     have nt8 : nt ≤ 800 := by rw [(hE.here.2).len]; exact HLT.out
     have hc : Calls _ _ _ _ (WR2 (kQ a b) (rQ a b) _) := rfloor_v (ca := ct) (cb := cd) (hE.here.2) (hE.here.1.1.1.2) (by omega) (by omega) (by have := HBP.out; omega)
     clear nt8
     refine hc.mono ?_
     clear hc
     rintro e w56 ⟨sq, Aq, nq, cq, sr, Ar, nr, cr, rfl, hk, hr, hb⟩
     replace hE := hE.step hb
     clear hb
     replace hE := (hE.wv hk).wv hr
     clear hk hr
     go_wp2_with fail
     refine hK.out _ _ (hE.here.1.1.1.1.1.1.1.1.2.j4 (hE.here.1.1.1.1.1.1.1.2.j4 hE.here.1.1.1.1.2.c2)) (fun hHeld => ?_)
     clear hK K
     try simp only [PL]
     refine tk 7 ?_
     try simp only [PL]
     refine tk 8 ?_
     try simp only [PL]
     refine tk 9 ?_
     try simp only [PL]
     refine r1 10 (fun K hK => ?_)
     go_simp
     obtain ⟨g57, hg57⟩ : ∃ g57, g57 = w56.heap.size := ⟨_, rfl⟩
     have hl57_2 : w.heap.size < g57 := by rw [hg57]; exact (hE.here.1.1.1.1.1.1.1.1.2).lt
     have hl57_3 : w.heap.size + 1 < g57 := by rw [hg57]; exact (hE.here.1.1.1.1.1.1.1.2).lt
     have hl57_4 : w.heap.size + 1 + 1 < g57 := by rw [hg57]; exact (hE.here.1.1.1.1.1.1.2).lt
     have hl57_6 : g10 < g57 := by rw [hg57]; exact (hE.here.1.1.1.1.2).lt
     have hl57_7 : g54 < g57 := by rw [hg57]; exact (hE.here.1.1.1.2).lt
     replace hE := hE.blk 24 #[.bool false, .slice none 0 0] (g := g57) hg57.symm
     generalize w56.alloc (.cells #[.bool false, .slice none 0 0] 24) = W57 at hE ⊢
     rw [← hg57]
     clear hg57
     refine hK.out _ _ (hE.here.1.1.1.1.1.1.1.1.1.2.j4 (hE.here.1.1.1.1.1.1.1.1.2.j4 hE.here.1.1.1.1.1.2.c2)) (fun hHeld => ?_)
     clear hK K
     try simp only [PL]
     refine r1 12 (fun K hK => ?_)
     have hgl58 : w.heap.size ≤ g57 := by omega
     obtain ⟨x58_0, x58_1⟩ := (hE.here.2).c2
     obtain ⟨f58_0, f58_1⟩ := hE.here.2.f2
     replace hE := (((((((((((((Env.again (bel2 hE.bel hgl58 (.bool sq) (.slice Aq nq cq))).fv ((hE.here.1.1.1.1.1.1.1.1.1.1.1.2).sep2 hE.here.2 rfl (.bool sq) (.slice Aq nq cq) rfl)).fv ((hE.here.1.1.1.1.1.1.1.1.1.1.2).sep2 hE.here.2 rfl (.bool sq) (.slice Aq nq cq) rfl)).blkI ((hE.here.1.1.1.1.1.1.1.1.1.2).far2 (R := g57) (by omega) (.bool sq) (.slice Aq nq cq))).blkI ((hE.here.1.1.1.1.1.1.1.1.2).far2 (R := g57) (by omega) (.bool sq) (.slice Aq nq cq))).blkI ((hE.here.1.1.1.1.1.1.1.2).far2 (R := g57) (by omega) (.bool sq) (.slice Aq nq cq))).wv ((hE.here.1.1.1.1.1.1.2).sep2 hE.here.2 rfl (.bool sq) (.slice Aq nq cq) rfl)).blkI ((hE.here.1.1.1.1.1.2).far2 (R := g57) (by omega) (.bool sq) (.slice Aq nq cq))).blkI ((hE.here.1.1.1.1.2).far2 (R := g57) (by omega) (.bool sq) (.slice Aq nq cq))).wv ((hE.here.1.1.1.2).sep2 hE.here.2 rfl (.bool sq) (.slice Aq nq cq) rfl)).wv ((hE.here.1.1.2).sep2 hE.here.2 rfl (.bool sq) (.slice Aq nq cq) rfl)).wv ((hE.here.1.2).sep2 hE.here.2 rfl (.bool sq) (.slice Aq nq cq) rfl)).blkI ((hE.here.2).s2 (.bool sq) (.slice Aq nq cq)))
     go_simp
     clear x58_0 x58_1 f58_0 f58_1 hgl58
     generalize ((W57.setCell ⟨g57, 0, none⟩ (.bool sq)).setCell ⟨g57, 1, none⟩ (.slice Aq nq cq)) = W58 at hE ⊢
     refine hK.out _ _ (hE.here.1.1.1.1.1.1.1.1.1.2.j4 (hE.here.1.1.1.1.1.1.1.1.2.j4 hE.here.1.1.1.1.1.2.c2)) (fun hHeld => ?_)
     clear hK K
     try simp only [PL]
     refine r1 13 (fun K hK => ?_)
     have hgl59 : w.heap.size ≤ g54 := by omega
     obtain ⟨x59_0, x59_1⟩ := (hE.here.1.1.1.1.2).c2
     obtain ⟨f59_0, f59_1⟩ := hE.here.1.1.1.1.2.f2
     replace hE := (((((((((((((Env.again (bel2 hE.bel hgl59 (.bool sr) (.slice Ar nr cr))).fv ((hE.here.1.1.1.1.1.1.1.1.1.1.1.2).sep2 hE.here.1.1.1.1.2 rfl (.bool sr) (.slice Ar nr cr) rfl)).fv ((hE.here.1.1.1.1.1.1.1.1.1.1.2).sep2 hE.here.1.1.1.1.2 rfl (.bool sr) (.slice Ar nr cr) rfl)).blkI ((hE.here.1.1.1.1.1.1.1.1.1.2).far2 (R := g54) (by omega) (.bool sr) (.slice Ar nr cr))).blkI ((hE.here.1.1.1.1.1.1.1.1.2).far2 (R := g54) (by omega) (.bool sr) (.slice Ar nr cr))).blkI ((hE.here.1.1.1.1.1.1.1.2).far2 (R := g54) (by omega) (.bool sr) (.slice Ar nr cr))).wv ((hE.here.1.1.1.1.1.1.2).sep2 hE.here.1.1.1.1.2 rfl (.bool sr) (.slice Ar nr cr) rfl)).blkI ((hE.here.1.1.1.1.1.2).far2 (R := g54) (by omega) (.bool sr) (.slice Ar nr cr))).blkI ((hE.here.1.1.1.1.2).s2 (.bool sr) (.slice Ar nr cr))).wv ((hE.here.1.1.1.2).sep2 hE.here.1.1.1.1.2 rfl (.bool sr) (.slice Ar nr cr) rfl)).wv ((hE.here.1.1.2).sep2 hE.here.1.1.1.1.2 rfl (.bool sr) (.slice Ar nr cr) rfl)).wv ((hE.here.1.2).sep2 hE.here.1.1.1.1.2 rfl (.bool sr) (.slice Ar nr cr) rfl)).blkI ((hE.here.2).far2 (R := g54) (by omega) (.bool sr) (.slice Ar nr cr)))
     go_simp
     clear x59_0 x59_1 f59_0 f59_1 hgl59
     generalize ((W58.setCell ⟨g54, 0, none⟩ (.bool sr)).setCell ⟨g54, 1, none⟩ (.slice Ar nr cr)) = W59 at hE ⊢
     refine hK.out _ _ (hE.here.1.1.1.1.1.1.1.1.1.2.j4 (hE.here.1.1.1.1.1.1.1.1.2.j4 hE.here.1.1.1.1.1.2.c2)) (fun hHeld => ?_)
     clear hK K
     try simp only [PL]
     refine wpAnyH_done (by kernel_rfl) ?_ _
     go_wp2_with fail
     go_meet
     exact ⟨g57, g54, sq, Aq, nq, cq, sr, Ar, nr, cr, rfl, rfl, ((((((((((((Env.again hE.bel).fv (hE.here.1.1.1.1.1.1.1.1.1.1.1.2)).fv (hE.here.1.1.1.1.1.1.1.1.1.1.2)).blkI (hE.here.1.1.1.1.1.1.1.1.1.2)).blkI (hE.here.1.1.1.1.1.1.1.1.2)).blkI (hE.here.1.1.1.1.1.1.1.2)).wv (hE.here.1.1.1.1.1.1.2)).blkI (hE.here.1.1.1.1.1.2)).wv (hE.here.1.1.2)).wv (hE.here.1.2)).blkI (hE.here.2)).blkI (hE.here.1.1.1.1.2))⟩
    ·
     go_simp
     obtain ⟨g60, hg60⟩ : ∃ g60, g60 = w55.heap.size := ⟨_, rfl⟩
     have hl60_2 : w.heap.size < g60 := by rw [hg60]; exact (hE.here.1.1.1.1.1.1.2).lt
     have hl60_3 : w.heap.size + 1 < g60 := by rw [hg60]; exact (hE.here.1.1.1.1.1.2).lt
     have hl60_4 : w.heap.size + 1 + 1 < g60 := by rw [hg60]; exact (hE.here.1.1.1.1.2).lt
     have hl60_6 : g10 < g60 := by rw [hg60]; exact (hE.here.1.1.2).lt
     have hl60_7 : g54 < g60 := by rw [hg60]; exact (hE.here.1.2).lt
     replace hE := hE.blk 24 #[.bool false, .slice none 0 0] (g := g60) hg60.symm
     generalize w55.alloc (.cells #[.bool false, .slice none 0 0] 24) = W60 at hE ⊢
     rw [← hg60]
     clear hg60
     refine hK.out _ _ (hE.here.1.1.1.1.1.1.1.2.j4 (hE.here.1.1.1.1.1.1.2.j4 hE.here.1.1.1.2.c2)) (fun hHeld => ?_)
     clear hK K
     try simp only [PL]
     refine r1 6 (fun K hK => ?_)
     go_simp
     have nt8 : nt ≤ 800 := by rw [(hE.here.1.2).len]; exact HLT.out
     have hc : Calls _ _ _ _ (WR2 (kQ a b) (rQ a b) _) := rfloor_v (ca := ct) (cb := cd) (hE.here.1.2) (hE.here.1.1.1.1.2) (by omega) (by omega) (by have := HBP.out; omega)
     clear nt8
     refine hc.mono ?_
     clear hc
     rintro e w61 ⟨sq, Aq, nq, cq, sr, Ar, nr, cr, rfl, hk, hr, hb⟩
     replace hE := hE.step hb
     clear hb
     replace hE := (hE.wv hk).wv hr
     clear hk hr
     go_wp2_with fail
     refine hK.out _ _ (hE.here.1.1.1.1.1.1.1.1.1.2.j4 (hE.here.1.1.1.1.1.1.1.1.2.j4 hE.here.1.1.1.1.1.2.c2)) (fun hHeld => ?_)
     clear hK K
     try simp only [PL]
     refine tk 7 ?_
     try simp only [PL]
     refine tk 8 ?_
     try simp only [PL]
     refine tk 9 ?_
     try simp only [PL]
     refine r1 12 (fun K hK => ?_)
     have hgl62 : w.heap.size ≤ g60 := by omega
     obtain ⟨x62_0, x62_1⟩ := (hE.here.1.1.2).c2
     obtain ⟨f62_0, f62_1⟩ := hE.here.1.1.2.f2
     replace hE := (((((((((((((Env.again (bel2 hE.bel hgl62 (.bool sq) (.slice Aq nq cq))).fv ((hE.here.1.1.1.1.1.1.1.1.1.1.1.2).sep2 hE.here.1.1.2 rfl (.bool sq) (.slice Aq nq cq) rfl)).fv ((hE.here.1.1.1.1.1.1.1.1.1.1.2).sep2 hE.here.1.1.2 rfl (.bool sq) (.slice Aq nq cq) rfl)).blkI ((hE.here.1.1.1.1.1.1.1.1.1.2).far2 (R := g60) (by omega) (.bool sq) (.slice Aq nq cq))).blkI ((hE.here.1.1.1.1.1.1.1.1.2).far2 (R := g60) (by omega) (.bool sq) (.slice Aq nq cq))).blkI ((hE.here.1.1.1.1.1.1.1.2).far2 (R := g60) (by omega) (.bool sq) (.slice Aq nq cq))).wv ((hE.here.1.1.1.1.1.1.2).sep2 hE.here.1.1.2 rfl (.bool sq) (.slice Aq nq cq) rfl)).blkI ((hE.here.1.1.1.1.1.2).far2 (R := g60) (by omega) (.bool sq) (.slice Aq nq cq))).blkI ((hE.here.1.1.1.1.2).far2 (R := g60) (by omega) (.bool sq) (.slice Aq nq cq))).wv ((hE.here.1.1.1.2).sep2 hE.here.1.1.2 rfl (.bool sq) (.slice Aq nq cq) rfl)).blkI ((hE.here.1.1.2).s2 (.bool sq) (.slice Aq nq cq))).wv ((hE.here.1.2).sep2 hE.here.1.1.2 rfl (.bool sq) (.slice Aq nq cq) rfl)).wv ((hE.here.2).sep2 hE.here.1.1.2 rfl (.bool sq) (.slice Aq nq cq) rfl))
     go_simp
     clear x62_0 x62_1 f62_0 f62_1 hgl62
     generalize ((w61.setCell ⟨g60, 0, none⟩ (.bool sq)).setCell ⟨g60, 1, none⟩ (.slice Aq nq cq)) = W62 at hE ⊢
     refine hK.out _ _ (hE.here.1.1.1.1.1.1.1.1.1.2.j4 (hE.here.1.1.1.1.1.1.1.1.2.j4 hE.here.1.1.1.1.1.2.c2)) (fun hHeld => ?_)
     clear hK K
     try simp only [PL]
     refine r1 13 (fun K hK => ?_)
     have hgl63 : w.heap.size ≤ g54 := by omega
     obtain ⟨x63_0, x63_1⟩ := (hE.here.1.1.1.1.2).c2
     obtain ⟨f63_0, f63_1⟩ := hE.here.1.1.1.1.2.f2
     replace hE := (((((((((((((Env.again (bel2 hE.bel hgl63 (.bool sr) (.slice Ar nr cr))).fv ((hE.here.1.1.1.1.1.1.1.1.1.1.1.2).sep2 hE.here.1.1.1.1.2 rfl (.bool sr) (.slice Ar nr cr) rfl)).fv ((hE.here.1.1.1.1.1.1.1.1.1.1.2).sep2 hE.here.1.1.1.1.2 rfl (.bool sr) (.slice Ar nr cr) rfl)).blkI ((hE.here.1.1.1.1.1.1.1.1.1.2).far2 (R := g54) (by omega) (.bool sr) (.slice Ar nr cr))).blkI ((hE.here.1.1.1.1.1.1.1.1.2).far2 (R := g54) (by omega) (.bool sr) (.slice Ar nr cr))).blkI ((hE.here.1.1.1.1.1.1.1.2).far2 (R := g54) (by omega) (.bool sr) (.slice Ar nr cr))).wv ((hE.here.1.1.1.1.1.1.2).sep2 hE.here.1.1.1.1.2 rfl (.bool sr) (.slice Ar nr cr) rfl)).blkI ((hE.here.1.1.1.1.1.2).far2 (R := g54) (by omega) (.bool sr) (.slice Ar nr cr))).blkI ((hE.here.1.1.1.1.2).s2 (.bool sr) (.slice Ar nr cr))).wv ((hE.here.1.1.1.2).sep2 hE.here.1.1.1.1.2 rfl (.bool sr) (.slice Ar nr cr) rfl)).blkI ((hE.here.1.1.2).far2 (R := g54) (by omega) (.bool sr) (.slice Ar nr cr))).wv ((hE.here.1.2).sep2 hE.here.1.1.1.1.2 rfl (.bool sr) (.slice Ar nr cr) rfl)).wv ((hE.here.2).sep2 hE.here.1.1.1.1.2 rfl (.bool sr) (.slice Ar nr cr) rfl))
     go_simp
     clear x63_0 x63_1 f63_0 f63_1 hgl63
     generalize ((W62.setCell ⟨g54, 0, none⟩ (.bool sr)).setCell ⟨g54, 1, none⟩ (.slice Ar nr cr)) = W63 at hE ⊢
     refine hK.out _ _ (hE.here.1.1.1.1.1.1.1.1.1.2.j4 (hE.here.1.1.1.1.1.1.1.1.2.j4 hE.here.1.1.1.1.1.2.c2)) (fun hHeld => ?_)
     clear hK K
     try simp only [PL]
     refine wpAnyH_done (by kernel_rfl) ?_ _
     go_wp2_with fail
     go_meet
     exact ⟨g60, g54, sq, Aq, nq, cq, sr, Ar, nr, cr, rfl, rfl, ((((((((((((Env.again hE.bel).fv (hE.here.1.1.1.1.1.1.1.1.1.1.1.2)).fv (hE.here.1.1.1.1.1.1.1.1.1.1.2)).blkI (hE.here.1.1.1.1.1.1.1.1.1.2)).blkI (hE.here.1.1.1.1.1.1.1.1.2)).blkI (hE.here.1.1.1.1.1.1.1.2)).wv (hE.here.1.1.1.1.1.1.2)).blkI (hE.here.1.1.1.1.1.2)).wv (hE.here.1.2)).wv (hE.here.2)).blkI (hE.here.1.1.2)).blkI (hE.here.1.1.1.1.2))⟩
   ·
    go_simp
    obtain ⟨g64, hg64⟩ : ∃ g64, g64 = W54.heap.size := ⟨_, rfl⟩
    have hl64_2 : w.heap.size < g64 := by rw [hg64]; exact (hE.here.1.1.1.1.1.2).lt
    have hl64_3 : w.heap.size + 1 < g64 := by rw [hg64]; exact (hE.here.1.1.1.1.2).lt
    have hl64_4 : w.heap.size + 1 + 1 < g64 := by rw [hg64]; exact (hE.here.1.1.1.2).lt
    have hl64_6 : g10 < g64 := by rw [hg64]; exact (hE.here.1.2).lt
    have hl64_7 : g54 < g64 := by rw [hg64]; exact (hE.here.2).lt
    replace hE := hE.blk 24 #[.bool false, .slice none 0 0] (g := g64) hg64.symm
    generalize W54.alloc (.cells #[.bool false, .slice none 0 0] 24) = W64 at hE ⊢
    rw [← hg64]
    clear hg64
    refine hK.out _ _ (hE.here.1.1.1.1.1.1.2.j4 (hE.here.1.1.1.1.1.2.j4 hE.here.1.1.2.c2)) (fun hHeld => ?_)
    clear hK K
    try simp only [PL]
    refine r1 4 (fun K hK => ?_)
    go_simp
    refine (rproduct_w (c := ca) (d := db) (hE.here.1.1.1.1.1.1.1.1.2).1 (hE.here.1.1.1.1.1.1.1.2).2 (by omega) (by omega)).mono ?_
    rintro e w65 ⟨st, At, nt, ct, rfl, ht, hb⟩
    replace hE := hE.step hb
    clear hb
    replace hE := hE.wv ht
    clear ht
    go_wp2_with fail
    refine hK.out _ _ (hE.here.1.1.1.1.1.1.1.2.j4 (hE.here.1.1.1.1.1.1.2.j4 hE.here.1.1.1.2.c2)) (fun hHeld => ?_)
    clear hK K
    try simp only [PL]
    refine r1 6 (fun K hK => ?_)
    go_simp
    have nt8 : nt ≤ 800 := by rw [(hE.here.2).len]; exact HLT.out
    have hc : Calls _ _ _ _ (WR2 (kQ a b) (rQ a b) _) := rfloor_v (ca := ct) (cb := cd) (hE.here.2) (hE.here.1.1.1.1.2) (by omega) (by omega) (by have := HBP.out; omega)
    clear nt8
    refine hc.mono ?_
    clear hc
    rintro e w66 ⟨sq, Aq, nq, cq, sr, Ar, nr, cr, rfl, hk, hr, hb⟩
    replace hE := hE.step hb
    clear hb
    replace hE := (hE.wv hk).wv hr
    clear hk hr
    go_wp2_with fail
    refine hK.out _ _ (hE.here.1.1.1.1.1.1.1.1.1.2.j4 (hE.here.1.1.1.1.1.1.1.1.2.j4 hE.here.1.1.1.1.1.2.c2)) (fun hHeld => ?_)
    clear hK K
    try simp only [PL]
    refine tk 7 ?_
    try simp only [PL]
    refine tk 8 ?_
    try simp only [PL]
    refine tk 9 ?_
    try simp only [PL]
    refine r1 12 (fun K hK => ?_)
    have hgl67 : w.heap.size ≤ g64 := by omega
    obtain ⟨x67_0, x67_1⟩ := (hE.here.1.1.1.2).c2
    obtain ⟨f67_0, f67_1⟩ := hE.here.1.1.1.2.f2
    replace hE := (((((((((((((Env.again (bel2 hE.bel hgl67 (.bool sq) (.slice Aq nq cq))).fv ((hE.here.1.1.1.1.1.1.1.1.1.1.1.2).sep2 hE.here.1.1.1.2 rfl (.bool sq) (.slice Aq nq cq) rfl)).fv ((hE.here.1.1.1.1.1.1.1.1.1.1.2).sep2 hE.here.1.1.1.2 rfl (.bool sq) (.slice Aq nq cq) rfl)).blkI ((hE.here.1.1.1.1.1.1.1.1.1.2).far2 (R := g64) (by omega) (.bool sq) (.slice Aq nq cq))).blkI ((hE.here.1.1.1.1.1.1.1.1.2).far2 (R := g64) (by omega) (.bool sq) (.slice Aq nq cq))).blkI ((hE.here.1.1.1.1.1.1.1.2).far2 (R := g64) (by omega) (.bool sq) (.slice Aq nq cq))).wv ((hE.here.1.1.1.1.1.1.2).sep2 hE.here.1.1.1.2 rfl (.bool sq) (.slice Aq nq cq) rfl)).blkI ((hE.here.1.1.1.1.1.2).far2 (R := g64) (by omega) (.bool sq) (.slice Aq nq cq))).blkI ((hE.here.1.1.1.1.2).far2 (R := g64) (by omega) (.bool sq) (.slice Aq nq cq))).blkI ((hE.here.1.1.1.2).s2 (.bool sq) (.slice Aq nq cq))).wv ((hE.here.1.1.2).sep2 hE.here.1.1.1.2 rfl (.bool sq) (.slice Aq nq cq) rfl)).wv ((hE.here.1.2).sep2 hE.here.1.1.1.2 rfl (.bool sq) (.slice Aq nq cq) rfl)).wv ((hE.here.2).sep2 hE.here.1.1.1.2 rfl (.bool sq) (.slice Aq nq cq) rfl))
    go_simp
    clear x67_0 x67_1 f67_0 f67_1 hgl67
    generalize ((w66.setCell ⟨g64, 0, none⟩ (.bool sq)).setCell ⟨g64, 1, none⟩ (.slice Aq nq cq)) = W67 at hE ⊢
    refine hK.out _ _ (hE.here.1.1.1.1.1.1.1.1.1.2.j4 (hE.here.1.1.1.1.1.1.1.1.2.j4 hE.here.1.1.1.1.1.2.c2)) (fun hHeld => ?_)
    clear hK K
    try simp only [PL]
    refine r1 13 (fun K hK => ?_)
    have hgl68 : w.heap.size ≤ g54 := by omega
    obtain ⟨x68_0, x68_1⟩ := (hE.here.1.1.1.1.2).c2
    obtain ⟨f68_0, f68_1⟩ := hE.here.1.1.1.1.2.f2
    replace hE := (((((((((((((Env.again (bel2 hE.bel hgl68 (.bool sr) (.slice Ar nr cr))).fv ((hE.here.1.1.1.1.1.1.1.1.1.1.1.2).sep2 hE.here.1.1.1.1.2 rfl (.bool sr) (.slice Ar nr cr) rfl)).fv ((hE.here.1.1.1.1.1.1.1.1.1.1.2).sep2 hE.here.1.1.1.1.2 rfl (.bool sr) (.slice Ar nr cr) rfl)).blkI ((hE.here.1.1.1.1.1.1.1.1.1.2).far2 (R := g54) (by omega) (.bool sr) (.slice Ar nr cr))).blkI ((hE.here.1.1.1.1.1.1.1.1.2).far2 (R := g54) (by omega) (.bool sr) (.slice Ar nr cr))).blkI ((hE.here.1.1.1.1.1.1.1.2).far2 (R := g54) (by omega) (.bool sr) (.slice Ar nr cr))).wv ((hE.here.1.1.1.1.1.1.2).sep2 hE.here.1.1.1.1.2 rfl (.bool sr) (.slice Ar nr cr) rfl)).blkI ((hE.here.1.1.1.1.1.2).far2 (R := g54) (by omega) (.bool sr) (.slice Ar nr cr))).blkI ((hE.here.1.1.1.1.2).s2 (.bool sr) (.slice Ar nr cr))).blkI ((hE.here.1.1.1.2).far2 (R := g54) (by omega) (.bool sr) (.slice Ar nr cr))).wv ((hE.here.1.1.2).sep2 hE.here.1.1.1.1.2 rfl (.bool sr) (.slice Ar nr cr) rfl)).wv ((hE.here.1.2).sep2 hE.here.1.1.1.1.2 rfl (.bool sr) (.slice Ar nr cr) rfl)).wv ((hE.here.2).sep2 hE.here.1.1.1.1.2 rfl (.bool sr) (.slice Ar nr cr) rfl))
    go_simp
    clear x68_0 x68_1 f68_0 f68_1 hgl68
    generalize ((W67.setCell ⟨g54, 0, none⟩ (.bool sr)).setCell ⟨g54, 1, none⟩ (.slice Ar nr cr)) = W68 at hE ⊢
    refine hK.out _ _ (hE.here.1.1.1.1.1.1.1.1.1.2.j4 (hE.here.1.1.1.1.1.1.1.1.2.j4 hE.here.1.1.1.1.1.2.c2)) (fun hHeld => ?_)
    clear hK K
    try simp only [PL]
    refine wpAnyH_done (by kernel_rfl) ?_ _
    go_wp2_with fail
    go_meet
    exact ⟨g64, g54, sq, Aq, nq, cq, sr, Ar, nr, cr, rfl, rfl, ((((((((((((Env.again hE.bel).fv (hE.here.1.1.1.1.1.1.1.1.1.1.1.2)).fv (hE.here.1.1.1.1.1.1.1.1.1.1.2)).blkI (hE.here.1.1.1.1.1.1.1.1.1.2)).blkI (hE.here.1.1.1.1.1.1.1.1.2)).blkI (hE.here.1.1.1.1.1.1.1.2)).wv (hE.here.1.1.1.1.1.1.2)).blkI (hE.here.1.1.1.1.1.2)).wv (hE.here.1.2)).wv (hE.here.2)).blkI (hE.here.1.1.1.2)).blkI (hE.here.1.1.1.1.2))⟩
 case rest =>
 clear hE
 obtain ⟨G2_10, G2_11, sq, Aq, nq, cq, sr, Ar, nr, cr, rfl, rfl, hE⟩ := hcut
 generalize wc = wk2 at hE ⊢
 go_upto_region 3 with (fail)
 have nq8 : nq ≤ 801 := by rw [(hE.here.1.1.1.2).len]; exact HLK.out
 have nr8 : nr ≤ 800 := by rw [(hE.here.1.1.2).len]; exact HLR.out
 go_cut [10] from 28 to 31 (fun p0 wx => ∃ G3_3 sp Ap np cp, p0 = .pointer (some ⟨G3_3, 0, none⟩) ∧ Env w (fun V => (((((((((((((True ∧ FV V a sa Aa na ta Ba ma) ∧ FV V b sb Ab nb tb Bb mb) ∧ Blk 26 (w.heap.size) #[.bool sa, .slice Aa na ca, .bool ta, .slice Ba ma da] V) ∧ Blk 26 (w.heap.size + 1) #[.bool sb, .slice Ab nb cb, .bool tb, .slice Bb mb db] V) ∧ Blk 24 (w.heap.size + 1 + 1) #[.bool false, .slice none 0 0] V) ∧ WV V (botQ a b) sd Ad nd) ∧ Blk 24 (g10) #[.bool sd, .slice Ad nd cd] V) ∧ WV V (kQ a b) sq Aq nq) ∧ WV V (rQ a b) sr Ar nr) ∧ Blk 24 (G2_10) #[.bool sq, .slice Aq nq cq] V) ∧ Blk 24 (G2_11) #[.bool sr, .slice Ar nr cr] V) ∧ WV V (kQ a b + 1) sp Ap np) ∧ Blk 24 (G3_3) #[.bool sp, .slice Ap np cp] V)) wx)
 case first =>
  replace hE := hE.drew
  refine wp_region_held_drew (S := fun w' => w'.cell? ⟨G2_10, 0, none⟩ = some (.bool sq) ∧ w'.cell? ⟨G2_10, 1, none⟩ = some (.slice Aq nq cq)) (by kernel_rfl) (hE.here.1.2.c2) (fun hHeld => ?_)
  generalize wk2.drew = wd at *
  refine tk 0 ?_
  try simp only [PL]
  refine wpAnyH_ready (rs := [1, 3]) (by kernel_rfl) (by simp) (AllReadyH.cons rfl (fun K hK => ?_) (AllReadyH.cons rfl (fun K hK => ?_) (AllReadyH.nil)))
  ·
   go_simp
   refine (rfromInt_v 1 _ (by decide) (by decide)).mono ?_
   rintro e w69 ⟨so, Ao, no, co, rfl, ho, hb⟩
   replace hE := hE.step hb
   clear hb
   replace hE := hE.wv ho
   clear ho
   go_wp2_with fail
   refine hK.out _ _ (hE.here.1.1.2.c2) (fun hHeld => ?_)
   clear hK K
   try simp only [PL]
   refine wpAnyH_ready (rs := [2, 3]) (by kernel_rfl) (by simp) (AllReadyH.cons rfl (fun K hK => ?_) (AllReadyH.cons rfl (fun K hK => ?_) (AllReadyH.nil)))
   ·
    go_simp
    have no4 : no ≤ 4 := small_len (hE.here.2) (by decide) (by decide)
    have hc := rsum_w (c := cq) (d := co) (hE.here.1.1.1.1.2) (hE.here.2) (by omega) (by omega)
    clear no4
    refine (hc).mono ?_
    rintro e w70 ⟨sp, Ap, np, cp, rfl, hp, hb⟩
    replace hE := hE.step hb
    clear hb
    replace hE := hE.wv hp
    clear hp
    clear hc
    go_wp2_with fail
    refine hK.out _ _ (hE.here.1.1.1.2.c2) (fun hHeld => ?_)
    clear hK K
    try simp only [PL]
    refine r1 3 (fun K hK => ?_)
    go_simp
    obtain ⟨g71, hg71⟩ : ∃ g71, g71 = w70.heap.size := ⟨_, rfl⟩
    have hl71_2 : w.heap.size < g71 := by rw [hg71]; exact (hE.here.1.1.1.1.1.1.1.1.1.1.2).lt
    have hl71_3 : w.heap.size + 1 < g71 := by rw [hg71]; exact (hE.here.1.1.1.1.1.1.1.1.1.2).lt
    have hl71_4 : w.heap.size + 1 + 1 < g71 := by rw [hg71]; exact (hE.here.1.1.1.1.1.1.1.1.2).lt
    have hl71_6 : g10 < g71 := by rw [hg71]; exact (hE.here.1.1.1.1.1.1.2).lt
    have hl71_9 : G2_10 < g71 := by rw [hg71]; exact (hE.here.1.1.1.2).lt
    have hl71_10 : G2_11 < g71 := by rw [hg71]; exact (hE.here.1.1.2).lt
    replace hE := hE.blk 24 #[.bool false, .slice none 0 0] (g := g71) hg71.symm
    generalize w70.alloc (.cells #[.bool false, .slice none 0 0] 24) = W71 at hE ⊢
    rw [← hg71]
    clear hg71
    refine hK.out _ _ (hE.here.1.1.1.1.2.c2) (fun hHeld => ?_)
    clear hK K
    try simp only [PL]
    refine r1 4 (fun K hK => ?_)
    have hgl72 : w.heap.size ≤ g71 := by omega
    obtain ⟨x72_0, x72_1⟩ := (hE.here.2).c2
    obtain ⟨f72_0, f72_1⟩ := hE.here.2.f2
    replace hE := (((((((((((((((Env.again (bel2 hE.bel hgl72 (.bool sp) (.slice Ap np cp))).fv ((hE.here.1.1.1.1.1.1.1.1.1.1.1.1.1.2).sep2 hE.here.2 rfl (.bool sp) (.slice Ap np cp) rfl)).fv ((hE.here.1.1.1.1.1.1.1.1.1.1.1.1.2).sep2 hE.here.2 rfl (.bool sp) (.slice Ap np cp) rfl)).blkI ((hE.here.1.1.1.1.1.1.1.1.1.1.1.2).far2 (R := g71) (by omega) (.bool sp) (.slice Ap np cp))).blkI ((hE.here.1.1.1.1.1.1.1.1.1.1.2).far2 (R := g71) (by omega) (.bool sp) (.slice Ap np cp))).blkI ((hE.here.1.1.1.1.1.1.1.1.1.2).far2 (R := g71) (by omega) (.bool sp) (.slice Ap np cp))).wv ((hE.here.1.1.1.1.1.1.1.1.2).sep2 hE.here.2 rfl (.bool sp) (.slice Ap np cp) rfl)).blkI ((hE.here.1.1.1.1.1.1.1.2).far2 (R := g71) (by omega) (.bool sp) (.slice Ap np cp))).wv ((hE.here.1.1.1.1.1.1.2).sep2 hE.here.2 rfl (.bool sp) (.slice Ap np cp) rfl)).wv ((hE.here.1.1.1.1.1.2).sep2 hE.here.2 rfl (.bool sp) (.slice Ap np cp) rfl)).blkI ((hE.here.1.1.1.1.2).far2 (R := g71) (by omega) (.bool sp) (.slice Ap np cp))).blkI ((hE.here.1.1.1.2).far2 (R := g71) (by omega) (.bool sp) (.slice Ap np cp))).wv ((hE.here.1.1.2).sep2 hE.here.2 rfl (.bool sp) (.slice Ap np cp) rfl)).wv ((hE.here.1.2).sep2 hE.here.2 rfl (.bool sp) (.slice Ap np cp) rfl)).blkI ((hE.here.2).s2 (.bool sp) (.slice Ap np cp)))
    go_simp
    clear x72_0 x72_1 f72_0 f72_1 hgl72
    generalize ((W71.setCell ⟨g71, 0, none⟩ (.bool sp)).setCell ⟨g71, 1, none⟩ (.slice Ap np cp)) = W72 at hE ⊢
    refine hK.out _ _ (hE.here.1.1.1.1.2.c2) (fun hHeld => ?_)
    clear hK K
    try simp only [PL]
    refine wpAnyH_done (by kernel_rfl) ?_ _
    go_wp2_with fail
    go_meet
    exact ⟨g71, sp, Ap, np, cp, rfl, ((((((((((((((Env.again hE.bel).fv (hE.here.1.1.1.1.1.1.1.1.1.1.1.1.1.2)).fv (hE.here.1.1.1.1.1.1.1.1.1.1.1.1.2)).blkI (hE.here.1.1.1.1.1.1.1.1.1.1.1.2)).blkI (hE.here.1.1.1.1.1.1.1.1.1.1.2)).blkI (hE.here.1.1.1.1.1.1.1.1.1.2)).wv (hE.here.1.1.1.1.1.1.1.1.2)).blkI (hE.here.1.1.1.1.1.1.1.2)).wv (hE.here.1.1.1.1.1.1.2)).wv (hE.here.1.1.1.1.1.2)).blkI (hE.here.1.1.1.1.2)).blkI (hE.here.1.1.1.2)).wv (hE.here.1.2)).blkI (hE.here.2))⟩
   ·
    go_simp
    obtain ⟨g73, hg73⟩ : ∃ g73, g73 = w69.heap.size := ⟨_, rfl⟩
    have hl73_2 : w.heap.size < g73 := by rw [hg73]; exact (hE.here.1.1.1.1.1.1.1.1.1.2).lt
    have hl73_3 : w.heap.size + 1 < g73 := by rw [hg73]; exact (hE.here.1.1.1.1.1.1.1.1.2).lt
    have hl73_4 : w.heap.size + 1 + 1 < g73 := by rw [hg73]; exact (hE.here.1.1.1.1.1.1.1.2).lt
    have hl73_6 : g10 < g73 := by rw [hg73]; exact (hE.here.1.1.1.1.1.2).lt
    have hl73_9 : G2_10 < g73 := by rw [hg73]; exact (hE.here.1.1.2).lt
    have hl73_10 : G2_11 < g73 := by rw [hg73]; exact (hE.here.1.2).lt
    replace hE := hE.blk 24 #[.bool false, .slice none 0 0] (g := g73) hg73.symm
    generalize w69.alloc (.cells #[.bool false, .slice none 0 0] 24) = W73 at hE ⊢
    rw [← hg73]
    clear hg73
    refine hK.out _ _ (hE.here.1.1.1.2.c2) (fun hHeld => ?_)
    clear hK K
    try simp only [PL]
    refine r1 2 (fun K hK => ?_)
    go_simp
    have no4 : no ≤ 4 := small_len (hE.here.1.2) (by decide) (by decide)
    have hc := rsum_w (c := cq) (d := co) (hE.here.1.1.1.1.1.2) (hE.here.1.2) (by omega) (by omega)
    clear no4
    refine (hc).mono ?_
    rintro e w74 ⟨sp, Ap, np, cp, rfl, hp, hb⟩
    replace hE := hE.step hb
    clear hb
    replace hE := hE.wv hp
    clear hp
    clear hc
    go_wp2_with fail
    refine hK.out _ _ (hE.here.1.1.1.1.2.c2) (fun hHeld => ?_)
    clear hK K
    try simp only [PL]
    refine r1 4 (fun K hK => ?_)
    have hgl75 : w.heap.size ≤ g73 := by omega
    obtain ⟨x75_0, x75_1⟩ := (hE.here.1.2).c2
    obtain ⟨f75_0, f75_1⟩ := hE.here.1.2.f2
    replace hE := (((((((((((((((Env.again (bel2 hE.bel hgl75 (.bool sp) (.slice Ap np cp))).fv ((hE.here.1.1.1.1.1.1.1.1.1.1.1.1.1.2).sep2 hE.here.1.2 rfl (.bool sp) (.slice Ap np cp) rfl)).fv ((hE.here.1.1.1.1.1.1.1.1.1.1.1.1.2).sep2 hE.here.1.2 rfl (.bool sp) (.slice Ap np cp) rfl)).blkI ((hE.here.1.1.1.1.1.1.1.1.1.1.1.2).far2 (R := g73) (by omega) (.bool sp) (.slice Ap np cp))).blkI ((hE.here.1.1.1.1.1.1.1.1.1.1.2).far2 (R := g73) (by omega) (.bool sp) (.slice Ap np cp))).blkI ((hE.here.1.1.1.1.1.1.1.1.1.2).far2 (R := g73) (by omega) (.bool sp) (.slice Ap np cp))).wv ((hE.here.1.1.1.1.1.1.1.1.2).sep2 hE.here.1.2 rfl (.bool sp) (.slice Ap np cp) rfl)).blkI ((hE.here.1.1.1.1.1.1.1.2).far2 (R := g73) (by omega) (.bool sp) (.slice Ap np cp))).wv ((hE.here.1.1.1.1.1.1.2).sep2 hE.here.1.2 rfl (.bool sp) (.slice Ap np cp) rfl)).wv ((hE.here.1.1.1.1.1.2).sep2 hE.here.1.2 rfl (.bool sp) (.slice Ap np cp) rfl)).blkI ((hE.here.1.1.1.1.2).far2 (R := g73) (by omega) (.bool sp) (.slice Ap np cp))).blkI ((hE.here.1.1.1.2).far2 (R := g73) (by omega) (.bool sp) (.slice Ap np cp))).wv ((hE.here.1.1.2).sep2 hE.here.1.2 rfl (.bool sp) (.slice Ap np cp) rfl)).blkI ((hE.here.1.2).s2 (.bool sp) (.slice Ap np cp))).wv ((hE.here.2).sep2 hE.here.1.2 rfl (.bool sp) (.slice Ap np cp) rfl))
    go_simp
    clear x75_0 x75_1 f75_0 f75_1 hgl75
    generalize ((w74.setCell ⟨g73, 0, none⟩ (.bool sp)).setCell ⟨g73, 1, none⟩ (.slice Ap np cp)) = W75 at hE ⊢
    refine hK.out _ _ (hE.here.1.1.1.1.2.c2) (fun hHeld => ?_)
    clear hK K
    try simp only [PL]
    refine wpAnyH_done (by kernel_rfl) ?_ _
    go_wp2_with fail
    go_meet
    exact ⟨g73, sp, Ap, np, cp, rfl, ((((((((((((((Env.again hE.bel).fv (hE.here.1.1.1.1.1.1.1.1.1.1.1.1.1.2)).fv (hE.here.1.1.1.1.1.1.1.1.1.1.1.1.2)).blkI (hE.here.1.1.1.1.1.1.1.1.1.1.1.2)).blkI (hE.here.1.1.1.1.1.1.1.1.1.1.2)).blkI (hE.here.1.1.1.1.1.1.1.1.1.2)).wv (hE.here.1.1.1.1.1.1.1.1.2)).blkI (hE.here.1.1.1.1.1.1.1.2)).wv (hE.here.1.1.1.1.1.1.2)).wv (hE.here.1.1.1.1.1.2)).blkI (hE.here.1.1.1.1.2)).blkI (hE.here.1.1.1.2)).wv (hE.here.2)).blkI (hE.here.1.2))⟩
  ·
   go_simp
   obtain ⟨g76, hg76⟩ : ∃ g76, g76 = wd.heap.size := ⟨_, rfl⟩
   have hl76_2 : w.heap.size < g76 := by rw [hg76]; exact (hE.here.1.1.1.1.1.1.1.1.2).lt
   have hl76_3 : w.heap.size + 1 < g76 := by rw [hg76]; exact (hE.here.1.1.1.1.1.1.1.2).lt
   have hl76_4 : w.heap.size + 1 + 1 < g76 := by rw [hg76]; exact (hE.here.1.1.1.1.1.1.2).lt
   have hl76_6 : g10 < g76 := by rw [hg76]; exact (hE.here.1.1.1.1.2).lt
   have hl76_9 : G2_10 < g76 := by rw [hg76]; exact (hE.here.1.2).lt
   have hl76_10 : G2_11 < g76 := by rw [hg76]; exact (hE.here.2).lt
   replace hE := hE.blk 24 #[.bool false, .slice none 0 0] (g := g76) hg76.symm
   generalize wd.alloc (.cells #[.bool false, .slice none 0 0] 24) = W76 at hE ⊢
   rw [← hg76]
   clear hg76
   refine hK.out _ _ (hE.here.1.1.2.c2) (fun hHeld => ?_)
   clear hK K
   try simp only [PL]
   refine r1 1 (fun K hK => ?_)
   go_simp
   refine (rfromInt_v 1 _ (by decide) (by decide)).mono ?_
   rintro e w77 ⟨so, Ao, no, co, rfl, ho, hb⟩
   replace hE := hE.step hb
   clear hb
   replace hE := hE.wv ho
   clear ho
   go_wp2_with fail
   refine hK.out _ _ (hE.here.1.1.1.2.c2) (fun hHeld => ?_)
   clear hK K
   try simp only [PL]
   refine r1 2 (fun K hK => ?_)
   go_simp
   have no4 : no ≤ 4 := small_len (hE.here.2) (by decide) (by decide)
   have hc := rsum_w (c := cq) (d := co) (hE.here.1.1.1.1.1.2) (hE.here.2) (by omega) (by omega)
   clear no4
   refine (hc).mono ?_
   rintro e w78 ⟨sp, Ap, np, cp, rfl, hp, hb⟩
   replace hE := hE.step hb
   clear hb
   replace hE := hE.wv hp
   clear hp
   clear hc
   go_wp2_with fail
   refine hK.out _ _ (hE.here.1.1.1.1.2.c2) (fun hHeld => ?_)
   clear hK K
   try simp only [PL]
   refine r1 4 (fun K hK => ?_)
   have hgl79 : w.heap.size ≤ g76 := by omega
   obtain ⟨x79_0, x79_1⟩ := (hE.here.1.1.2).c2
   obtain ⟨f79_0, f79_1⟩ := hE.here.1.1.2.f2
   replace hE := (((((((((((((((Env.again (bel2 hE.bel hgl79 (.bool sp) (.slice Ap np cp))).fv ((hE.here.1.1.1.1.1.1.1.1.1.1.1.1.1.2).sep2 hE.here.1.1.2 rfl (.bool sp) (.slice Ap np cp) rfl)).fv ((hE.here.1.1.1.1.1.1.1.1.1.1.1.1.2).sep2 hE.here.1.1.2 rfl (.bool sp) (.slice Ap np cp) rfl)).blkI ((hE.here.1.1.1.1.1.1.1.1.1.1.1.2).far2 (R := g76) (by omega) (.bool sp) (.slice Ap np cp))).blkI ((hE.here.1.1.1.1.1.1.1.1.1.1.2).far2 (R := g76) (by omega) (.bool sp) (.slice Ap np cp))).blkI ((hE.here.1.1.1.1.1.1.1.1.1.2).far2 (R := g76) (by omega) (.bool sp) (.slice Ap np cp))).wv ((hE.here.1.1.1.1.1.1.1.1.2).sep2 hE.here.1.1.2 rfl (.bool sp) (.slice Ap np cp) rfl)).blkI ((hE.here.1.1.1.1.1.1.1.2).far2 (R := g76) (by omega) (.bool sp) (.slice Ap np cp))).wv ((hE.here.1.1.1.1.1.1.2).sep2 hE.here.1.1.2 rfl (.bool sp) (.slice Ap np cp) rfl)).wv ((hE.here.1.1.1.1.1.2).sep2 hE.here.1.1.2 rfl (.bool sp) (.slice Ap np cp) rfl)).blkI ((hE.here.1.1.1.1.2).far2 (R := g76) (by omega) (.bool sp) (.slice Ap np cp))).blkI ((hE.here.1.1.1.2).far2 (R := g76) (by omega) (.bool sp) (.slice Ap np cp))).blkI ((hE.here.1.1.2).s2 (.bool sp) (.slice Ap np cp))).wv ((hE.here.1.2).sep2 hE.here.1.1.2 rfl (.bool sp) (.slice Ap np cp) rfl)).wv ((hE.here.2).sep2 hE.here.1.1.2 rfl (.bool sp) (.slice Ap np cp) rfl))
   go_simp
   clear x79_0 x79_1 f79_0 f79_1 hgl79
   generalize ((w78.setCell ⟨g76, 0, none⟩ (.bool sp)).setCell ⟨g76, 1, none⟩ (.slice Ap np cp)) = W79 at hE ⊢
   refine hK.out _ _ (hE.here.1.1.1.1.2.c2) (fun hHeld => ?_)
   clear hK K
   try simp only [PL]
   refine wpAnyH_done (by kernel_rfl) ?_ _
   go_wp2_with fail
   go_meet
   exact ⟨g76, sp, Ap, np, cp, rfl, ((((((((((((((Env.again hE.bel).fv (hE.here.1.1.1.1.1.1.1.1.1.1.1.1.1.2)).fv (hE.here.1.1.1.1.1.1.1.1.1.1.1.1.2)).blkI (hE.here.1.1.1.1.1.1.1.1.1.1.1.2)).blkI (hE.here.1.1.1.1.1.1.1.1.1.1.2)).blkI (hE.here.1.1.1.1.1.1.1.1.1.2)).wv (hE.here.1.1.1.1.1.1.1.1.2)).blkI (hE.here.1.1.1.1.1.1.1.2)).wv (hE.here.1.1.1.1.1.1.2)).wv (hE.here.1.1.1.1.1.2)).blkI (hE.here.1.1.1.1.2)).blkI (hE.here.1.1.1.2)).wv (hE.here.2)).blkI (hE.here.1.1.2))⟩
 case rest =>
 clear hE
 obtain ⟨G3_3, sp, Ap, np, cp, rfl, hE⟩ := hcut
 generalize wc = wk3 at hE ⊢
 go_upto_region 4 with (fail)
 by_cases hr0 : rQ a b = 0
 ·
  obtain rfl : nr = 0 := by rw [(hE.here.1.1.1.1.2).len, hr0]; exact ln_zero
  have ev : roundZ m a b = kQ a b := by unfold roundZ; rw [if_pos hr0]
  have EV := Lib.hid ev
  clear ev hr0
  obtain ⟨k80, k81⟩ := (hE.here.1.1.2).c2
  go_upto_region 5 with (fail)
  clear k80 k81
  have hf := hE.here.1.1.1.1.1.2
  have hz : roundZ m a b = (kQ a b) := by rw [EV.out]
  rw [← hz] at hf
  clear hz
  replace hE := hE.wv hf
  clear hf
  obtain ⟨k82, k83⟩ := (hE.here.1.1.1.1.2).c2
  obtain ⟨k84, k85⟩ := (hE.here.1.2).c2
  have hRl : w.heap.size ≤ w.heap.size + 1 + 1 := by omega
  obtain ⟨WW, hWW, hB, hV, hBel⟩ := ret_whole hE hE.here.1.1.1.1.1.1.1.1.1.2 hRl hE.here.2 cq
  obtain ⟨x0, x1⟩ := (hE.here.1.1.1.1.1.1.1.1.1.2).c2
  obtain ⟨fz0, fz1⟩ := hE.here.1.1.1.1.1.1.1.1.1.2.f2
  have HWW := Lib.hid hWW
  clear hWW
  go_wp2_with fail
  clear x0 x1
  rw [← HWW.out]
  obtain ⟨y0, y1⟩ := hB.c2
  refine bodyPost_ret (v := .agg #[.bool sq, .slice Aq nq cq]) (by simp [results, Tryz.results70, go_sem, y0, y1]) rfl ?_
  exact ⟨sq, Aq, nq, cq, rfl, hV, hBel⟩
 ·
  have t0 : 0 < nr := by rw [(hE.here.1.1.1.1.2).len]; exact (ln_pos b16_two).2 (by omega)
  have t1 : ((nr : Int) == 0) = false := beq_eq_false_iff_ne.2 (by omega)
  have t2 : (nr == 0) = false := beq_eq_false_iff_ne.2 (by omega)
  clear t0
  have eu : ∀ v, upQ m a b = v → roundZ m a b = if v then kQ a b + 1 else kQ a b := fun v h => by unfold roundZ; rw [if_neg hr0, h]
  have EU := Lib.hid eu
  have HR0 := Lib.hid hr0
  clear eu hr0
  obtain ⟨k86, k87⟩ := (hE.here.1.1.2).c2
  go_upto_region 6 with (fail)
  clear k86 k87
  clear t1 t2
  have hup : upQ m a b = upB m sa (oddQ a b) (cmpZ (rQ a b + rQ a b) (botQ a b)) := by unfold upQ; rw [SG.out]
  have UP := Lib.hid hup
  clear hup
  rcases (show m = 1 ∨ m = 2 ∨ m = 3 ∨ m = 4 ∨ m = 5 ∨ m = 6 by omega) with rfl | rfl | rfl | rfl | rfl | rfl
  ·
   cases sa
   ·
    have ev := EU.out false (by rw [UP.out]; rfl)
    have EV := Lib.hid ev
    clear ev
    obtain ⟨k88, k89, k90, k91⟩ := (hE.here.1.1.1.1.1.1.1.1.1.1.2).c4
    go_upto_region 8 with (fail)
    go_upto_region 9 with (fail)
    clear k88 k89 k90 k91
    have hf := hE.here.1.1.1.1.1.2
    have hz : roundZ 1 a b = (kQ a b) := by rw [EV.out, if_neg (by decide)]
    rw [← hz] at hf
    clear hz
    replace hE := hE.wv hf
    clear hf
    obtain ⟨k92, k93⟩ := (hE.here.1.1.1.1.2).c2
    obtain ⟨k94, k95⟩ := (hE.here.1.2).c2
    have hRl : w.heap.size ≤ w.heap.size + 1 + 1 := by omega
    obtain ⟨WW, hWW, hB, hV, hBel⟩ := ret_whole hE hE.here.1.1.1.1.1.1.1.1.1.2 hRl hE.here.2 cq
    obtain ⟨x0, x1⟩ := (hE.here.1.1.1.1.1.1.1.1.1.2).c2
    obtain ⟨fz0, fz1⟩ := hE.here.1.1.1.1.1.1.1.1.1.2.f2
    have HWW := Lib.hid hWW
    clear hWW
    go_wp2_with fail
    clear x0 x1
    rw [← HWW.out]
    obtain ⟨y0, y1⟩ := hB.c2
    refine bodyPost_ret (v := .agg #[.bool sq, .slice Aq nq cq]) (by simp [results, Tryz.results70, go_sem, y0, y1]) rfl ?_
    exact ⟨sq, Aq, nq, cq, rfl, hV, hBel⟩
   ·
    have ev := EU.out true (by rw [UP.out]; rfl)
    have EV := Lib.hid ev
    clear ev
    obtain ⟨k96, k97, k98, k99⟩ := (hE.here.1.1.1.1.1.1.1.1.1.1.2).c4
    go_upto_region 7 with (fail)
    clear k96 k97 k98 k99
    have hf := hE.here.1.2
    have hz : roundZ 1 a b = (kQ a b + 1) := by rw [EV.out, if_pos rfl]
    rw [← hz] at hf
    clear hz
    replace hE := hE.wv hf
    clear hf
    obtain ⟨k100, k101⟩ := (hE.here.1.1.1.1.2).c2
    obtain ⟨k102, k103⟩ := (hE.here.1.2).c2
    have hRl : w.heap.size ≤ w.heap.size + 1 + 1 := by omega
    obtain ⟨WW, hWW, hB, hV, hBel⟩ := ret_whole hE hE.here.1.1.1.1.1.1.1.1.1.2 hRl hE.here.2 cp
    obtain ⟨x0, x1⟩ := (hE.here.1.1.1.1.1.1.1.1.1.2).c2
    obtain ⟨fz0, fz1⟩ := hE.here.1.1.1.1.1.1.1.1.1.2.f2
    have HWW := Lib.hid hWW
    clear hWW
    go_wp2_with fail
    clear x0 x1
    rw [← HWW.out]
    obtain ⟨y0, y1⟩ := hB.c2
    refine bodyPost_ret (v := .agg #[.bool sp, .slice Ap np cp]) (by simp [results, Tryz.results70, go_sem, y0, y1]) rfl ?_
    exact ⟨sp, Ap, np, cp, rfl, hV, hBel⟩
  ·
   cases sa
   ·
    have ev := EU.out true (by rw [UP.out]; rfl)
    have EV := Lib.hid ev
    clear ev
    obtain ⟨k104, k105, k106, k107⟩ := (hE.here.1.1.1.1.1.1.1.1.1.1.2).c4
    go_upto_region 7 with (fail)
    clear k104 k105 k106 k107
    have hf := hE.here.1.2
    have hz : roundZ 2 a b = (kQ a b + 1) := by rw [EV.out, if_pos rfl]
    rw [← hz] at hf
    clear hz
    replace hE := hE.wv hf
    clear hf
    obtain ⟨k108, k109⟩ := (hE.here.1.1.1.1.2).c2
    obtain ⟨k110, k111⟩ := (hE.here.1.2).c2
    have hRl : w.heap.size ≤ w.heap.size + 1 + 1 := by omega
    obtain ⟨WW, hWW, hB, hV, hBel⟩ := ret_whole hE hE.here.1.1.1.1.1.1.1.1.1.2 hRl hE.here.2 cp
    obtain ⟨x0, x1⟩ := (hE.here.1.1.1.1.1.1.1.1.1.2).c2
    obtain ⟨fz0, fz1⟩ := hE.here.1.1.1.1.1.1.1.1.1.2.f2
    have HWW := Lib.hid hWW
    clear hWW
    go_wp2_with fail
    clear x0 x1
    rw [← HWW.out]
    obtain ⟨y0, y1⟩ := hB.c2
    refine bodyPost_ret (v := .agg #[.bool sp, .slice Ap np cp]) (by simp [results, Tryz.results70, go_sem, y0, y1]) rfl ?_
    exact ⟨sp, Ap, np, cp, rfl, hV, hBel⟩
   ·
    have ev := EU.out false (by rw [UP.out]; rfl)
    have EV := Lib.hid ev
    clear ev
    obtain ⟨k112, k113, k114, k115⟩ := (hE.here.1.1.1.1.1.1.1.1.1.1.2).c4
    go_upto_region 8 with (fail)
    go_upto_region 9 with (fail)
    clear k112 k113 k114 k115
    have hf := hE.here.1.1.1.1.1.2
    have hz : roundZ 2 a b = (kQ a b) := by rw [EV.out, if_neg (by decide)]
    rw [← hz] at hf
    clear hz
    replace hE := hE.wv hf
    clear hf
    obtain ⟨k116, k117⟩ := (hE.here.1.1.1.1.2).c2
    obtain ⟨k118, k119⟩ := (hE.here.1.2).c2
    have hRl : w.heap.size ≤ w.heap.size + 1 + 1 := by omega
    obtain ⟨WW, hWW, hB, hV, hBel⟩ := ret_whole hE hE.here.1.1.1.1.1.1.1.1.1.2 hRl hE.here.2 cq
    obtain ⟨x0, x1⟩ := (hE.here.1.1.1.1.1.1.1.1.1.2).c2
    obtain ⟨fz0, fz1⟩ := hE.here.1.1.1.1.1.1.1.1.1.2.f2
    have HWW := Lib.hid hWW
    clear hWW
    go_wp2_with fail
    clear x0 x1
    rw [← HWW.out]
    obtain ⟨y0, y1⟩ := hB.c2
    refine bodyPost_ret (v := .agg #[.bool sq, .slice Aq nq cq]) (by simp [results, Tryz.results70, go_sem, y0, y1]) rfl ?_
    exact ⟨sq, Aq, nq, cq, rfl, hV, hBel⟩
  ·
   have ev := EU.out false (by rw [UP.out]; rfl)
   have EV := Lib.hid ev
   clear ev
   obtain ⟨k120, k121, k122, k123⟩ := (hE.here.1.1.1.1.1.1.1.1.1.1.2).c4
   go_upto_region 9 with (fail)
   clear k120 k121 k122 k123
   have hf := hE.here.1.1.1.1.1.2
   have hz : roundZ 3 a b = (kQ a b) := by rw [EV.out, if_neg (by decide)]
   rw [← hz] at hf
   clear hz
   replace hE := hE.wv hf
   clear hf
   obtain ⟨k124, k125⟩ := (hE.here.1.1.1.1.2).c2
   obtain ⟨k126, k127⟩ := (hE.here.1.2).c2
   have hRl : w.heap.size ≤ w.heap.size + 1 + 1 := by omega
   obtain ⟨WW, hWW, hB, hV, hBel⟩ := ret_whole hE hE.here.1.1.1.1.1.1.1.1.1.2 hRl hE.here.2 cq
   obtain ⟨x0, x1⟩ := (hE.here.1.1.1.1.1.1.1.1.1.2).c2
   obtain ⟨fz0, fz1⟩ := hE.here.1.1.1.1.1.1.1.1.1.2.f2
   have HWW := Lib.hid hWW
   clear hWW
   go_wp2_with fail
   clear x0 x1
   rw [← HWW.out]
   obtain ⟨y0, y1⟩ := hB.c2
   refine bodyPost_ret (v := .agg #[.bool sq, .slice Aq nq cq]) (by simp [results, Tryz.results70, go_sem, y0, y1]) rfl ?_
   exact ⟨sq, Aq, nq, cq, rfl, hV, hBel⟩
  ·
   have ev := EU.out true (by rw [UP.out]; rfl)
   have EV := Lib.hid ev
   clear ev
   obtain ⟨k128, k129, k130, k131⟩ := (hE.here.1.1.1.1.1.1.1.1.1.1.2).c4
   go_upto_region 7 with (fail)
   clear k128 k129 k130 k131
   have hf := hE.here.1.2
   have hz : roundZ 4 a b = (kQ a b + 1) := by rw [EV.out, if_pos rfl]
   rw [← hz] at hf
   clear hz
   replace hE := hE.wv hf
   clear hf
   obtain ⟨k132, k133⟩ := (hE.here.1.1.1.1.2).c2
   obtain ⟨k134, k135⟩ := (hE.here.1.2).c2
   have hRl : w.heap.size ≤ w.heap.size + 1 + 1 := by omega
   obtain ⟨WW, hWW, hB, hV, hBel⟩ := ret_whole hE hE.here.1.1.1.1.1.1.1.1.1.2 hRl hE.here.2 cp
   obtain ⟨x0, x1⟩ := (hE.here.1.1.1.1.1.1.1.1.1.2).c2
   obtain ⟨fz0, fz1⟩ := hE.here.1.1.1.1.1.1.1.1.1.2.f2
   have HWW := Lib.hid hWW
   clear hWW
   go_wp2_with fail
   clear x0 x1
   rw [← HWW.out]
   obtain ⟨y0, y1⟩ := hB.c2
   refine bodyPost_ret (v := .agg #[.bool sp, .slice Ap np cp]) (by simp [results, Tryz.results70, go_sem, y0, y1]) rfl ?_
   exact ⟨sp, Ap, np, cp, rfl, hV, hBel⟩
  ·
   obtain ⟨hv, hhv⟩ : ∃ x, x = cmpZ (rQ a b + rQ a b) (botQ a b) := ⟨_, rfl⟩
   have HV := Lib.hid hhv
   clear hhv
   obtain ⟨od, hod⟩ : ∃ x, x = oddQ a b := ⟨_, rfl⟩
   have HOD := Lib.hid hod
   clear hod
   obtain ⟨k136, k137, k138, k139⟩ := (hE.here.1.1.1.1.1.1.1.1.1.1.2).c4
   go_upto_region 10 with (fail)
   clear k136 k137 k138 k139
   replace hE := hE.drew
   refine wp_region_held_drew (S := fun w' => w'.cell? ⟨G2_11, 0, none⟩ = some (.bool sr) ∧ w'.cell? ⟨G2_11, 1, none⟩ = some (.slice Ar nr cr) ∧ w'.cell? ⟨g10, 0, none⟩ = some (.bool sd) ∧ w'.cell? ⟨g10, 1, none⟩ = some (.slice Ad nd cd)) (by kernel_rfl) (hE.here.1.1.2.j2 hE.here.1.1.1.1.1.1.2.c2) (fun hHeld => ?_)
   refine tk 0 ?_
   try simp only [PL]
   refine tk 1 ?_
   try simp only [PL]
   refine tk 3 ?_
   try simp only [PL]
   refine r1 2 (fun K hK => ?_)
   go_simp
   refine (rsum_w (c := cr) (d := cr) (hE.here.1.1.1.1.2) (hE.here.1.1.1.1.2) (by omega) (by omega)).mono ?_
   rintro e w140 ⟨sw, Aw, nw, cw, rfl, hw, hb⟩
   replace hE := hE.step hb
   clear hb
   replace hE := hE.wv hw
   clear hw
   go_wp2_with fail
   refine hK.out _ _ (hE.here.1.1.1.2.j2 hE.here.1.1.1.1.1.1.1.2.c2) (fun hHeld => ?_)
   clear hK K
   try simp only [PL]
   refine r1 4 (fun K hK => ?_)
   go_simp
   have nw8 : nw ≤ 900 := by rw [(hE.here.2).len]; exact Nat.le_trans (ln_addZ (m := 800) HLR.out HLR.out) (by decide)
   have hc := rorder1_v (cp := cw) (cq := cd) (hE.here.2) (hE.here.1.1.1.1.1.1.1.1.2) (by omega) (by omega)
   rw [← HV.out] at hc
   clear nw8
   refine (hc).mono ?_
   rintro e w141 ⟨rfl, hb⟩
   replace hE := hE.step hb
   clear hb
   clear hc
   go_wp2_with fail
   refine hK.out _ _ (hE.here.1.1.1.2.j2 hE.here.1.1.1.1.1.1.1.2.c2) (fun hHeld => ?_)
   clear hK K
   try simp only [PL]
   refine tk 5 ?_
   try simp only [PL]
   refine wpAnyH_done (by kernel_rfl) ?_ _
   go_upto_region 11 with (fail)
   by_cases hnq : nq = 0
   ·
    have ez : kQ a b = 0 := by
     rcases Classical.em (kQ a b = 0) with h | h
     · exact h
     · exact absurd hnq (by have h1 := (hE.here.1.1.1.1.1.1.2).len; have h2 := (ln_pos b16_two).2 (show 0 < (kQ a b).natAbs by omega); omega)
    obtain rfl : od = false := by rw [HOD.out]; unfold oddQ; rw [ez]; rfl
    have t3 : decide (0 < (nq : Int)) = false := decide_eq_false (by omega)
    have t4 : decide (0 < nq) = false := decide_eq_false (by omega)
    clear ez hnq
    obtain ⟨k142, k143⟩ := (hE.here.1.1.1.1.2).c2
    go_upto_region 12 with (fail)
    clear k142 k143
    rcases (show hv < 0 ∨ hv = 0 ∨ 0 < hv by omega) with h9 | h9 | h9
    ·
     have t6 : decide (0 < hv) = false := decide_eq_false (by omega)
     have t7 : (hv == 0) = false := beq_eq_false_iff_ne.2 (by omega)
     have t8 : decide (hv = 0) = false := decide_eq_false (by omega)
     clear h9
     have ev := EU.out false (by rw [UP.out, ← HV.out, ← HOD.out]; unfold upB; simp [t6, t8])
     have EV := Lib.hid ev
     clear ev
     obtain ⟨k144, k145, k146, k147⟩ := (hE.here.1.1.1.1.1.1.1.1.1.1.1.2).c4
     go_upto_region 14 with (fail)
     clear k144 k145 k146 k147
     have hf := hE.here.1.1.1.1.1.1.2
     have hz : roundZ 5 a b = (kQ a b) := by rw [EV.out, if_neg (by decide)]
     rw [← hz] at hf
     clear hz
     replace hE := hE.wv hf
     clear hf
     obtain ⟨k148, k149⟩ := (hE.here.1.1.1.1.1.2).c2
     obtain ⟨k150, k151⟩ := (hE.here.1.1.2).c2
     have hRl : w.heap.size ≤ w.heap.size + 1 + 1 := by omega
     obtain ⟨WW, hWW, hB, hV, hBel⟩ := ret_whole hE hE.here.1.1.1.1.1.1.1.1.1.1.2 hRl hE.here.2 cq
     obtain ⟨x0, x1⟩ := (hE.here.1.1.1.1.1.1.1.1.1.1.2).c2
     obtain ⟨fz0, fz1⟩ := hE.here.1.1.1.1.1.1.1.1.1.1.2.f2
     have HWW := Lib.hid hWW
     clear hWW
     go_wp2_with fail
     clear x0 x1
     rw [← HWW.out]
     obtain ⟨y0, y1⟩ := hB.c2
     refine bodyPost_ret (v := .agg #[.bool sq, .slice Aq nq cq]) (by simp [results, Tryz.results70, go_sem, y0, y1]) rfl ?_
     exact ⟨sq, Aq, nq, cq, rfl, hV, hBel⟩
    ·
     have t6 : decide (0 < hv) = false := decide_eq_false (by omega)
     have t7 : (hv == 0) = true := beq_iff_eq.2 (by omega)
     have t8 : decide (hv = 0) = true := decide_eq_true (by omega)
     clear h9
     cases sa
     ·
      have ev := EU.out true (by rw [UP.out, ← HV.out, ← HOD.out]; unfold upB; simp [t6, t8])
      have EV := Lib.hid ev
      clear ev
      obtain ⟨k152, k153, k154, k155⟩ := (hE.here.1.1.1.1.1.1.1.1.1.1.1.2).c4
      go_upto_region 13 with (fail)
      clear k152 k153 k154 k155
      have hf := hE.here.1.1.2
      have hz : roundZ 5 a b = (kQ a b + 1) := by rw [EV.out, if_pos rfl]
      rw [← hz] at hf
      clear hz
      replace hE := hE.wv hf
      clear hf
      obtain ⟨k156, k157⟩ := (hE.here.1.1.1.1.1.2).c2
      obtain ⟨k158, k159⟩ := (hE.here.1.1.2).c2
      have hRl : w.heap.size ≤ w.heap.size + 1 + 1 := by omega
      obtain ⟨WW, hWW, hB, hV, hBel⟩ := ret_whole hE hE.here.1.1.1.1.1.1.1.1.1.1.2 hRl hE.here.2 cp
      obtain ⟨x0, x1⟩ := (hE.here.1.1.1.1.1.1.1.1.1.1.2).c2
      obtain ⟨fz0, fz1⟩ := hE.here.1.1.1.1.1.1.1.1.1.1.2.f2
      have HWW := Lib.hid hWW
      clear hWW
      go_wp2_with fail
      clear x0 x1
      rw [← HWW.out]
      obtain ⟨y0, y1⟩ := hB.c2
      refine bodyPost_ret (v := .agg #[.bool sp, .slice Ap np cp]) (by simp [results, Tryz.results70, go_sem, y0, y1]) rfl ?_
      exact ⟨sp, Ap, np, cp, rfl, hV, hBel⟩
     ·
      have ev := EU.out false (by rw [UP.out, ← HV.out, ← HOD.out]; unfold upB; simp [t6, t8])
      have EV := Lib.hid ev
      clear ev
      obtain ⟨k160, k161, k162, k163⟩ := (hE.here.1.1.1.1.1.1.1.1.1.1.1.2).c4
      go_upto_region 14 with (fail)
      clear k160 k161 k162 k163
      have hf := hE.here.1.1.1.1.1.1.2
      have hz : roundZ 5 a b = (kQ a b) := by rw [EV.out, if_neg (by decide)]
      rw [← hz] at hf
      clear hz
      replace hE := hE.wv hf
      clear hf
      obtain ⟨k164, k165⟩ := (hE.here.1.1.1.1.1.2).c2
      obtain ⟨k166, k167⟩ := (hE.here.1.1.2).c2
      have hRl : w.heap.size ≤ w.heap.size + 1 + 1 := by omega
      obtain ⟨WW, hWW, hB, hV, hBel⟩ := ret_whole hE hE.here.1.1.1.1.1.1.1.1.1.1.2 hRl hE.here.2 cq
      obtain ⟨x0, x1⟩ := (hE.here.1.1.1.1.1.1.1.1.1.1.2).c2
      obtain ⟨fz0, fz1⟩ := hE.here.1.1.1.1.1.1.1.1.1.1.2.f2
      have HWW := Lib.hid hWW
      clear hWW
      go_wp2_with fail
      clear x0 x1
      rw [← HWW.out]
      obtain ⟨y0, y1⟩ := hB.c2
      refine bodyPost_ret (v := .agg #[.bool sq, .slice Aq nq cq]) (by simp [results, Tryz.results70, go_sem, y0, y1]) rfl ?_
      exact ⟨sq, Aq, nq, cq, rfl, hV, hBel⟩
    ·
     have t6 : decide (0 < hv) = true := decide_eq_true (by omega)
     have t7 : (hv == 0) = false := beq_eq_false_iff_ne.2 (by omega)
     have t8 : decide (hv = 0) = false := decide_eq_false (by omega)
     clear h9
     have ev := EU.out true (by rw [UP.out, ← HV.out, ← HOD.out]; unfold upB; simp [t6, t8])
     have EV := Lib.hid ev
     clear ev
     obtain ⟨k168, k169, k170, k171⟩ := (hE.here.1.1.1.1.1.1.1.1.1.1.1.2).c4
     go_upto_region 13 with (fail)
     clear k168 k169 k170 k171
     have hf := hE.here.1.1.2
     have hz : roundZ 5 a b = (kQ a b + 1) := by rw [EV.out, if_pos rfl]
     rw [← hz] at hf
     clear hz
     replace hE := hE.wv hf
     clear hf
     obtain ⟨k172, k173⟩ := (hE.here.1.1.1.1.1.2).c2
     obtain ⟨k174, k175⟩ := (hE.here.1.1.2).c2
     have hRl : w.heap.size ≤ w.heap.size + 1 + 1 := by omega
     obtain ⟨WW, hWW, hB, hV, hBel⟩ := ret_whole hE hE.here.1.1.1.1.1.1.1.1.1.1.2 hRl hE.here.2 cp
     obtain ⟨x0, x1⟩ := (hE.here.1.1.1.1.1.1.1.1.1.1.2).c2
     obtain ⟨fz0, fz1⟩ := hE.here.1.1.1.1.1.1.1.1.1.1.2.f2
     have HWW := Lib.hid hWW
     clear hWW
     go_wp2_with fail
     clear x0 x1
     rw [← HWW.out]
     obtain ⟨y0, y1⟩ := hB.c2
     refine bodyPost_ret (v := .agg #[.bool sp, .slice Ap np cp]) (by simp [results, Tryz.results70, go_sem, y0, y1]) rfl ?_
     exact ⟨sp, Ap, np, cp, rfl, hV, hBel⟩
   ·
    obtain ⟨b2, o2_, dl, hAq, hbl, hcell, hdl⟩ := limb_zero (hE.here.1.1.1.1.1.1.2) (by omega)
    subst hAq
    have hod2 : (((dl : Nat) : Int).tmod 2 == 1) = od := by
     rw [HOD.out, Int.tmod_eq_emod_of_nonneg (by omega)]; unfold oddQ; rw [← hdl, Bool.eq_iff_iff, beq_iff_eq, beq_iff_eq]; omega
    have hod3 : (((dl : Nat) : Int) % 2 == 1) = od := by
     rw [HOD.out]; unfold oddQ; rw [← hdl, Bool.eq_iff_iff, beq_iff_eq, beq_iff_eq]; omega
    have t3 : decide (0 < (nq : Int)) = true := decide_eq_true (by omega)
    have t4 : decide (0 < nq) = true := decide_eq_true (by omega)
    have t5 : 0 < nq := by omega
    clear hdl hnq
    obtain ⟨k176, k177⟩ := (hE.here.1.1.1.1.2).c2
    go_upto_region 12 with (fail)
    clear k176 k177
    clear hod2 hod3 t3 t4 t5 hbl hcell
    rcases (show hv < 0 ∨ hv = 0 ∨ 0 < hv by omega) with h9 | h9 | h9
    ·
     have t6 : decide (0 < hv) = false := decide_eq_false (by omega)
     have t7 : (hv == 0) = false := beq_eq_false_iff_ne.2 (by omega)
     have t8 : decide (hv = 0) = false := decide_eq_false (by omega)
     clear h9
     have ev := EU.out false (by rw [UP.out, ← HV.out, ← HOD.out]; unfold upB; simp [t6, t8])
     have EV := Lib.hid ev
     clear ev
     obtain ⟨k178, k179, k180, k181⟩ := (hE.here.1.1.1.1.1.1.1.1.1.1.1.2).c4
     go_upto_region 14 with (fail)
     clear k178 k179 k180 k181
     have hf := hE.here.1.1.1.1.1.1.2
     have hz : roundZ 5 a b = (kQ a b) := by rw [EV.out, if_neg (by decide)]
     rw [← hz] at hf
     clear hz
     replace hE := hE.wv hf
     clear hf
     obtain ⟨k182, k183⟩ := (hE.here.1.1.1.1.1.2).c2
     obtain ⟨k184, k185⟩ := (hE.here.1.1.2).c2
     have hRl : w.heap.size ≤ w.heap.size + 1 + 1 := by omega
     obtain ⟨WW, hWW, hB, hV, hBel⟩ := ret_whole hE hE.here.1.1.1.1.1.1.1.1.1.1.2 hRl hE.here.2 cq
     obtain ⟨x0, x1⟩ := (hE.here.1.1.1.1.1.1.1.1.1.1.2).c2
     obtain ⟨fz0, fz1⟩ := hE.here.1.1.1.1.1.1.1.1.1.1.2.f2
     have HWW := Lib.hid hWW
     clear hWW
     go_wp2_with fail
     clear x0 x1
     rw [← HWW.out]
     obtain ⟨y0, y1⟩ := hB.c2
     refine bodyPost_ret (v := .agg #[.bool sq, .slice (some ⟨b2, o2_, none⟩) nq cq]) (by simp [results, Tryz.results70, go_sem, y0, y1]) rfl ?_
     exact ⟨sq, (some ⟨b2, o2_, none⟩), nq, cq, rfl, hV, hBel⟩
    ·
     have t6 : decide (0 < hv) = false := decide_eq_false (by omega)
     have t7 : (hv == 0) = true := beq_iff_eq.2 (by omega)
     have t8 : decide (hv = 0) = true := decide_eq_true (by omega)
     clear h9
     cases sa
     ·
      have ev := EU.out true (by rw [UP.out, ← HV.out, ← HOD.out]; unfold upB; simp [t6, t8])
      have EV := Lib.hid ev
      clear ev
      obtain ⟨k186, k187, k188, k189⟩ := (hE.here.1.1.1.1.1.1.1.1.1.1.1.2).c4
      go_upto_region 13 with (fail)
      clear k186 k187 k188 k189
      have hf := hE.here.1.1.2
      have hz : roundZ 5 a b = (kQ a b + 1) := by rw [EV.out, if_pos rfl]
      rw [← hz] at hf
      clear hz
      replace hE := hE.wv hf
      clear hf
      obtain ⟨k190, k191⟩ := (hE.here.1.1.1.1.1.2).c2
      obtain ⟨k192, k193⟩ := (hE.here.1.1.2).c2
      have hRl : w.heap.size ≤ w.heap.size + 1 + 1 := by omega
      obtain ⟨WW, hWW, hB, hV, hBel⟩ := ret_whole hE hE.here.1.1.1.1.1.1.1.1.1.1.2 hRl hE.here.2 cp
      obtain ⟨x0, x1⟩ := (hE.here.1.1.1.1.1.1.1.1.1.1.2).c2
      obtain ⟨fz0, fz1⟩ := hE.here.1.1.1.1.1.1.1.1.1.1.2.f2
      have HWW := Lib.hid hWW
      clear hWW
      go_wp2_with fail
      clear x0 x1
      rw [← HWW.out]
      obtain ⟨y0, y1⟩ := hB.c2
      refine bodyPost_ret (v := .agg #[.bool sp, .slice Ap np cp]) (by simp [results, Tryz.results70, go_sem, y0, y1]) rfl ?_
      exact ⟨sp, Ap, np, cp, rfl, hV, hBel⟩
     ·
      have ev := EU.out false (by rw [UP.out, ← HV.out, ← HOD.out]; unfold upB; simp [t6, t8])
      have EV := Lib.hid ev
      clear ev
      obtain ⟨k194, k195, k196, k197⟩ := (hE.here.1.1.1.1.1.1.1.1.1.1.1.2).c4
      go_upto_region 14 with (fail)
      clear k194 k195 k196 k197
      have hf := hE.here.1.1.1.1.1.1.2
      have hz : roundZ 5 a b = (kQ a b) := by rw [EV.out, if_neg (by decide)]
      rw [← hz] at hf
      clear hz
      replace hE := hE.wv hf
      clear hf
      obtain ⟨k198, k199⟩ := (hE.here.1.1.1.1.1.2).c2
      obtain ⟨k200, k201⟩ := (hE.here.1.1.2).c2
      have hRl : w.heap.size ≤ w.heap.size + 1 + 1 := by omega
      obtain ⟨WW, hWW, hB, hV, hBel⟩ := ret_whole hE hE.here.1.1.1.1.1.1.1.1.1.1.2 hRl hE.here.2 cq
      obtain ⟨x0, x1⟩ := (hE.here.1.1.1.1.1.1.1.1.1.1.2).c2
      obtain ⟨fz0, fz1⟩ := hE.here.1.1.1.1.1.1.1.1.1.1.2.f2
      have HWW := Lib.hid hWW
      clear hWW
      go_wp2_with fail
      clear x0 x1
      rw [← HWW.out]
      obtain ⟨y0, y1⟩ := hB.c2
      refine bodyPost_ret (v := .agg #[.bool sq, .slice (some ⟨b2, o2_, none⟩) nq cq]) (by simp [results, Tryz.results70, go_sem, y0, y1]) rfl ?_
      exact ⟨sq, (some ⟨b2, o2_, none⟩), nq, cq, rfl, hV, hBel⟩
    ·
     have t6 : decide (0 < hv) = true := decide_eq_true (by omega)
     have t7 : (hv == 0) = false := beq_eq_false_iff_ne.2 (by omega)
     have t8 : decide (hv = 0) = false := decide_eq_false (by omega)
     clear h9
     have ev := EU.out true (by rw [UP.out, ← HV.out, ← HOD.out]; unfold upB; simp [t6, t8])
     have EV := Lib.hid ev
     clear ev
     obtain ⟨k202, k203, k204, k205⟩ := (hE.here.1.1.1.1.1.1.1.1.1.1.1.2).c4
     go_upto_region 13 with (fail)
     clear k202 k203 k204 k205
     have hf := hE.here.1.1.2
     have hz : roundZ 5 a b = (kQ a b + 1) := by rw [EV.out, if_pos rfl]
     rw [← hz] at hf
     clear hz
     replace hE := hE.wv hf
     clear hf
     obtain ⟨k206, k207⟩ := (hE.here.1.1.1.1.1.2).c2
     obtain ⟨k208, k209⟩ := (hE.here.1.1.2).c2
     have hRl : w.heap.size ≤ w.heap.size + 1 + 1 := by omega
     obtain ⟨WW, hWW, hB, hV, hBel⟩ := ret_whole hE hE.here.1.1.1.1.1.1.1.1.1.1.2 hRl hE.here.2 cp
     obtain ⟨x0, x1⟩ := (hE.here.1.1.1.1.1.1.1.1.1.1.2).c2
     obtain ⟨fz0, fz1⟩ := hE.here.1.1.1.1.1.1.1.1.1.1.2.f2
     have HWW := Lib.hid hWW
     clear hWW
     go_wp2_with fail
     clear x0 x1
     rw [← HWW.out]
     obtain ⟨y0, y1⟩ := hB.c2
     refine bodyPost_ret (v := .agg #[.bool sp, .slice Ap np cp]) (by simp [results, Tryz.results70, go_sem, y0, y1]) rfl ?_
     exact ⟨sp, Ap, np, cp, rfl, hV, hBel⟩
  ·
   obtain ⟨hv, hhv⟩ : ∃ x, x = cmpZ (rQ a b + rQ a b) (botQ a b) := ⟨_, rfl⟩
   have HV := Lib.hid hhv
   clear hhv
   obtain ⟨od, hod⟩ : ∃ x, x = oddQ a b := ⟨_, rfl⟩
   have HOD := Lib.hid hod
   clear hod
   obtain ⟨k210, k211, k212, k213⟩ := (hE.here.1.1.1.1.1.1.1.1.1.1.2).c4
   go_upto_region 10 with (fail)
   clear k210 k211 k212 k213
   replace hE := hE.drew
   refine wp_region_held_drew (S := fun w' => w'.cell? ⟨G2_11, 0, none⟩ = some (.bool sr) ∧ w'.cell? ⟨G2_11, 1, none⟩ = some (.slice Ar nr cr) ∧ w'.cell? ⟨g10, 0, none⟩ = some (.bool sd) ∧ w'.cell? ⟨g10, 1, none⟩ = some (.slice Ad nd cd)) (by kernel_rfl) (hE.here.1.1.2.j2 hE.here.1.1.1.1.1.1.2.c2) (fun hHeld => ?_)
   refine tk 0 ?_
   try simp only [PL]
   refine tk 1 ?_
   try simp only [PL]
   refine tk 3 ?_
   try simp only [PL]
   refine r1 2 (fun K hK => ?_)
   go_simp
   refine (rsum_w (c := cr) (d := cr) (hE.here.1.1.1.1.2) (hE.here.1.1.1.1.2) (by omega) (by omega)).mono ?_
   rintro e w214 ⟨sw, Aw, nw, cw, rfl, hw, hb⟩
   replace hE := hE.step hb
   clear hb
   replace hE := hE.wv hw
   clear hw
   go_wp2_with fail
   refine hK.out _ _ (hE.here.1.1.1.2.j2 hE.here.1.1.1.1.1.1.1.2.c2) (fun hHeld => ?_)
   clear hK K
   try simp only [PL]
   refine r1 4 (fun K hK => ?_)
   go_simp
   have nw8 : nw ≤ 900 := by rw [(hE.here.2).len]; exact Nat.le_trans (ln_addZ (m := 800) HLR.out HLR.out) (by decide)
   have hc := rorder1_v (cp := cw) (cq := cd) (hE.here.2) (hE.here.1.1.1.1.1.1.1.1.2) (by omega) (by omega)
   rw [← HV.out] at hc
   clear nw8
   refine (hc).mono ?_
   rintro e w215 ⟨rfl, hb⟩
   replace hE := hE.step hb
   clear hb
   clear hc
   go_wp2_with fail
   refine hK.out _ _ (hE.here.1.1.1.2.j2 hE.here.1.1.1.1.1.1.1.2.c2) (fun hHeld => ?_)
   clear hK K
   try simp only [PL]
   refine tk 5 ?_
   try simp only [PL]
   refine wpAnyH_done (by kernel_rfl) ?_ _
   go_upto_region 11 with (fail)
   by_cases hnq : nq = 0
   ·
    have ez : kQ a b = 0 := by
     rcases Classical.em (kQ a b = 0) with h | h
     · exact h
     · exact absurd hnq (by have h1 := (hE.here.1.1.1.1.1.1.2).len; have h2 := (ln_pos b16_two).2 (show 0 < (kQ a b).natAbs by omega); omega)
    obtain rfl : od = false := by rw [HOD.out]; unfold oddQ; rw [ez]; rfl
    have t3 : decide (0 < (nq : Int)) = false := decide_eq_false (by omega)
    have t4 : decide (0 < nq) = false := decide_eq_false (by omega)
    clear ez hnq
    obtain ⟨k216, k217⟩ := (hE.here.1.1.1.1.2).c2
    go_upto_region 12 with (fail)
    clear k216 k217
    rcases (show hv < 0 ∨ hv = 0 ∨ 0 < hv by omega) with h9 | h9 | h9
    ·
     have t6 : decide (0 < hv) = false := decide_eq_false (by omega)
     have t7 : (hv == 0) = false := beq_eq_false_iff_ne.2 (by omega)
     have t8 : decide (hv = 0) = false := decide_eq_false (by omega)
     clear h9
     have ev := EU.out false (by rw [UP.out, ← HV.out, ← HOD.out]; unfold upB; simp [t6, t8])
     have EV := Lib.hid ev
     clear ev
     obtain ⟨k218, k219, k220, k221⟩ := (hE.here.1.1.1.1.1.1.1.1.1.1.1.2).c4
     go_upto_region 14 with (fail)
     clear k218 k219 k220 k221
     have hf := hE.here.1.1.1.1.1.1.2
     have hz : roundZ 6 a b = (kQ a b) := by rw [EV.out, if_neg (by decide)]
     rw [← hz] at hf
     clear hz
     replace hE := hE.wv hf
     clear hf
     obtain ⟨k222, k223⟩ := (hE.here.1.1.1.1.1.2).c2
     obtain ⟨k224, k225⟩ := (hE.here.1.1.2).c2
     have hRl : w.heap.size ≤ w.heap.size + 1 + 1 := by omega
     obtain ⟨WW, hWW, hB, hV, hBel⟩ := ret_whole hE hE.here.1.1.1.1.1.1.1.1.1.1.2 hRl hE.here.2 cq
     obtain ⟨x0, x1⟩ := (hE.here.1.1.1.1.1.1.1.1.1.1.2).c2
     obtain ⟨fz0, fz1⟩ := hE.here.1.1.1.1.1.1.1.1.1.1.2.f2
     have HWW := Lib.hid hWW
     clear hWW
     go_wp2_with fail
     clear x0 x1
     rw [← HWW.out]
     obtain ⟨y0, y1⟩ := hB.c2
     refine bodyPost_ret (v := .agg #[.bool sq, .slice Aq nq cq]) (by simp [results, Tryz.results70, go_sem, y0, y1]) rfl ?_
     exact ⟨sq, Aq, nq, cq, rfl, hV, hBel⟩
    ·
     have t6 : decide (0 < hv) = false := decide_eq_false (by omega)
     have t7 : (hv == 0) = true := beq_iff_eq.2 (by omega)
     have t8 : decide (hv = 0) = true := decide_eq_true (by omega)
     clear h9
     have ev := EU.out false (by rw [UP.out, ← HV.out, ← HOD.out]; unfold upB; simp [t6, t8])
     have EV := Lib.hid ev
     clear ev
     obtain ⟨k226, k227, k228, k229⟩ := (hE.here.1.1.1.1.1.1.1.1.1.1.1.2).c4
     go_upto_region 14 with (fail)
     clear k226 k227 k228 k229
     have hf := hE.here.1.1.1.1.1.1.2
     have hz : roundZ 6 a b = (kQ a b) := by rw [EV.out, if_neg (by decide)]
     rw [← hz] at hf
     clear hz
     replace hE := hE.wv hf
     clear hf
     obtain ⟨k230, k231⟩ := (hE.here.1.1.1.1.1.2).c2
     obtain ⟨k232, k233⟩ := (hE.here.1.1.2).c2
     have hRl : w.heap.size ≤ w.heap.size + 1 + 1 := by omega
     obtain ⟨WW, hWW, hB, hV, hBel⟩ := ret_whole hE hE.here.1.1.1.1.1.1.1.1.1.1.2 hRl hE.here.2 cq
     obtain ⟨x0, x1⟩ := (hE.here.1.1.1.1.1.1.1.1.1.1.2).c2
     obtain ⟨fz0, fz1⟩ := hE.here.1.1.1.1.1.1.1.1.1.1.2.f2
     have HWW := Lib.hid hWW
     clear hWW
     go_wp2_with fail
     clear x0 x1
     rw [← HWW.out]
     obtain ⟨y0, y1⟩ := hB.c2
     refine bodyPost_ret (v := .agg #[.bool sq, .slice Aq nq cq]) (by simp [results, Tryz.results70, go_sem, y0, y1]) rfl ?_
     exact ⟨sq, Aq, nq, cq, rfl, hV, hBel⟩
    ·
     have t6 : decide (0 < hv) = true := decide_eq_true (by omega)
     have t7 : (hv == 0) = false := beq_eq_false_iff_ne.2 (by omega)
     have t8 : decide (hv = 0) = false := decide_eq_false (by omega)
     clear h9
     have ev := EU.out true (by rw [UP.out, ← HV.out, ← HOD.out]; unfold upB; simp [t6, t8])
     have EV := Lib.hid ev
     clear ev
     obtain ⟨k234, k235, k236, k237⟩ := (hE.here.1.1.1.1.1.1.1.1.1.1.1.2).c4
     go_upto_region 13 with (fail)
     clear k234 k235 k236 k237
     have hf := hE.here.1.1.2
     have hz : roundZ 6 a b = (kQ a b + 1) := by rw [EV.out, if_pos rfl]
     rw [← hz] at hf
     clear hz
     replace hE := hE.wv hf
     clear hf
     obtain ⟨k238, k239⟩ := (hE.here.1.1.1.1.1.2).c2
     obtain ⟨k240, k241⟩ := (hE.here.1.1.2).c2
     have hRl : w.heap.size ≤ w.heap.size + 1 + 1 := by omega
     obtain ⟨WW, hWW, hB, hV, hBel⟩ := ret_whole hE hE.here.1.1.1.1.1.1.1.1.1.1.2 hRl hE.here.2 cp
     obtain ⟨x0, x1⟩ := (hE.here.1.1.1.1.1.1.1.1.1.1.2).c2
     obtain ⟨fz0, fz1⟩ := hE.here.1.1.1.1.1.1.1.1.1.1.2.f2
     have HWW := Lib.hid hWW
     clear hWW
     go_wp2_with fail
     clear x0 x1
     rw [← HWW.out]
     obtain ⟨y0, y1⟩ := hB.c2
     refine bodyPost_ret (v := .agg #[.bool sp, .slice Ap np cp]) (by simp [results, Tryz.results70, go_sem, y0, y1]) rfl ?_
     exact ⟨sp, Ap, np, cp, rfl, hV, hBel⟩
   ·
    obtain ⟨b2, o2_, dl, hAq, hbl, hcell, hdl⟩ := limb_zero (hE.here.1.1.1.1.1.1.2) (by omega)
    subst hAq
    have hod2 : (((dl : Nat) : Int).tmod 2 == 1) = od := by
     rw [HOD.out, Int.tmod_eq_emod_of_nonneg (by omega)]; unfold oddQ; rw [← hdl, Bool.eq_iff_iff, beq_iff_eq, beq_iff_eq]; omega
    have hod3 : (((dl : Nat) : Int) % 2 == 1) = od := by
     rw [HOD.out]; unfold oddQ; rw [← hdl, Bool.eq_iff_iff, beq_iff_eq, beq_iff_eq]; omega
    have t3 : decide (0 < (nq : Int)) = true := decide_eq_true (by omega)
    have t4 : decide (0 < nq) = true := decide_eq_true (by omega)
    have t5 : 0 < nq := by omega
    clear hdl hnq
    obtain ⟨k242, k243⟩ := (hE.here.1.1.1.1.2).c2
    go_upto_region 12 with (fail)
    clear k242 k243
    clear hod2 hod3 t3 t4 t5 hbl hcell
    rcases (show hv < 0 ∨ hv = 0 ∨ 0 < hv by omega) with h9 | h9 | h9
    ·
     have t6 : decide (0 < hv) = false := decide_eq_false (by omega)
     have t7 : (hv == 0) = false := beq_eq_false_iff_ne.2 (by omega)
     have t8 : decide (hv = 0) = false := decide_eq_false (by omega)
     clear h9
     have ev := EU.out false (by rw [UP.out, ← HV.out, ← HOD.out]; unfold upB; simp [t6, t8])
     have EV := Lib.hid ev
     clear ev
     obtain ⟨k244, k245, k246, k247⟩ := (hE.here.1.1.1.1.1.1.1.1.1.1.1.2).c4
     go_upto_region 14 with (fail)
     clear k244 k245 k246 k247
     have hf := hE.here.1.1.1.1.1.1.2
     have hz : roundZ 6 a b = (kQ a b) := by rw [EV.out, if_neg (by decide)]
     rw [← hz] at hf
     clear hz
     replace hE := hE.wv hf
     clear hf
     obtain ⟨k248, k249⟩ := (hE.here.1.1.1.1.1.2).c2
     obtain ⟨k250, k251⟩ := (hE.here.1.1.2).c2
     have hRl : w.heap.size ≤ w.heap.size + 1 + 1 := by omega
     obtain ⟨WW, hWW, hB, hV, hBel⟩ := ret_whole hE hE.here.1.1.1.1.1.1.1.1.1.1.2 hRl hE.here.2 cq
     obtain ⟨x0, x1⟩ := (hE.here.1.1.1.1.1.1.1.1.1.1.2).c2
     obtain ⟨fz0, fz1⟩ := hE.here.1.1.1.1.1.1.1.1.1.1.2.f2
     have HWW := Lib.hid hWW
     clear hWW
     go_wp2_with fail
     clear x0 x1
     rw [← HWW.out]
     obtain ⟨y0, y1⟩ := hB.c2
     refine bodyPost_ret (v := .agg #[.bool sq, .slice (some ⟨b2, o2_, none⟩) nq cq]) (by simp [results, Tryz.results70, go_sem, y0, y1]) rfl ?_
     exact ⟨sq, (some ⟨b2, o2_, none⟩), nq, cq, rfl, hV, hBel⟩
    ·
     have t6 : decide (0 < hv) = false := decide_eq_false (by omega)
     have t7 : (hv == 0) = true := beq_iff_eq.2 (by omega)
     have t8 : decide (hv = 0) = true := decide_eq_true (by omega)
     clear h9
     cases od
     ·
      have ev := EU.out false (by rw [UP.out, ← HV.out, ← HOD.out]; unfold upB; simp [t6, t8])
      have EV := Lib.hid ev
      clear ev
      obtain ⟨k252, k253, k254, k255⟩ := (hE.here.1.1.1.1.1.1.1.1.1.1.1.2).c4
      go_upto_region 14 with (fail)
      clear k252 k253 k254 k255
      have hf := hE.here.1.1.1.1.1.1.2
      have hz : roundZ 6 a b = (kQ a b) := by rw [EV.out, if_neg (by decide)]
      rw [← hz] at hf
      clear hz
      replace hE := hE.wv hf
      clear hf
      obtain ⟨k256, k257⟩ := (hE.here.1.1.1.1.1.2).c2
      obtain ⟨k258, k259⟩ := (hE.here.1.1.2).c2
      have hRl : w.heap.size ≤ w.heap.size + 1 + 1 := by omega
      obtain ⟨WW, hWW, hB, hV, hBel⟩ := ret_whole hE hE.here.1.1.1.1.1.1.1.1.1.1.2 hRl hE.here.2 cq
      obtain ⟨x0, x1⟩ := (hE.here.1.1.1.1.1.1.1.1.1.1.2).c2
      obtain ⟨fz0, fz1⟩ := hE.here.1.1.1.1.1.1.1.1.1.1.2.f2
      have HWW := Lib.hid hWW
      clear hWW
      go_wp2_with fail
      clear x0 x1
      rw [← HWW.out]
      obtain ⟨y0, y1⟩ := hB.c2
      refine bodyPost_ret (v := .agg #[.bool sq, .slice (some ⟨b2, o2_, none⟩) nq cq]) (by simp [results, Tryz.results70, go_sem, y0, y1]) rfl ?_
      exact ⟨sq, (some ⟨b2, o2_, none⟩), nq, cq, rfl, hV, hBel⟩
     ·
      have ev := EU.out true (by rw [UP.out, ← HV.out, ← HOD.out]; unfold upB; simp [t6, t8])
      have EV := Lib.hid ev
      clear ev
      obtain ⟨k260, k261, k262, k263⟩ := (hE.here.1.1.1.1.1.1.1.1.1.1.1.2).c4
      go_upto_region 13 with (fail)
      clear k260 k261 k262 k263
      have hf := hE.here.1.1.2
      have hz : roundZ 6 a b = (kQ a b + 1) := by rw [EV.out, if_pos rfl]
      rw [← hz] at hf
      clear hz
      replace hE := hE.wv hf
      clear hf
      obtain ⟨k264, k265⟩ := (hE.here.1.1.1.1.1.2).c2
      obtain ⟨k266, k267⟩ := (hE.here.1.1.2).c2
      have hRl : w.heap.size ≤ w.heap.size + 1 + 1 := by omega
      obtain ⟨WW, hWW, hB, hV, hBel⟩ := ret_whole hE hE.here.1.1.1.1.1.1.1.1.1.1.2 hRl hE.here.2 cp
      obtain ⟨x0, x1⟩ := (hE.here.1.1.1.1.1.1.1.1.1.1.2).c2
      obtain ⟨fz0, fz1⟩ := hE.here.1.1.1.1.1.1.1.1.1.1.2.f2
      have HWW := Lib.hid hWW
      clear hWW
      go_wp2_with fail
      clear x0 x1
      rw [← HWW.out]
      obtain ⟨y0, y1⟩ := hB.c2
      refine bodyPost_ret (v := .agg #[.bool sp, .slice Ap np cp]) (by simp [results, Tryz.results70, go_sem, y0, y1]) rfl ?_
      exact ⟨sp, Ap, np, cp, rfl, hV, hBel⟩
    ·
     have t6 : decide (0 < hv) = true := decide_eq_true (by omega)
     have t7 : (hv == 0) = false := beq_eq_false_iff_ne.2 (by omega)
     have t8 : decide (hv = 0) = false := decide_eq_false (by omega)
     clear h9
     have ev := EU.out true (by rw [UP.out, ← HV.out, ← HOD.out]; unfold upB; simp [t6, t8])
     have EV := Lib.hid ev
     clear ev
     obtain ⟨k268, k269, k270, k271⟩ := (hE.here.1.1.1.1.1.1.1.1.1.1.1.2).c4
     go_upto_region 13 with (fail)
     clear k268 k269 k270 k271
     have hf := hE.here.1.1.2
     have hz : roundZ 6 a b = (kQ a b + 1) := by rw [EV.out, if_pos rfl]
     rw [← hz] at hf
     clear hz
     replace hE := hE.wv hf
     clear hf
     obtain ⟨k272, k273⟩ := (hE.here.1.1.1.1.1.2).c2
     obtain ⟨k274, k275⟩ := (hE.here.1.1.2).c2
     have hRl : w.heap.size ≤ w.heap.size + 1 + 1 := by omega
     obtain ⟨WW, hWW, hB, hV, hBel⟩ := ret_whole hE hE.here.1.1.1.1.1.1.1.1.1.1.2 hRl hE.here.2 cp
     obtain ⟨x0, x1⟩ := (hE.here.1.1.1.1.1.1.1.1.1.1.2).c2
     obtain ⟨fz0, fz1⟩ := hE.here.1.1.1.1.1.1.1.1.1.1.2.f2
     have HWW := Lib.hid hWW
     clear hWW
     go_wp2_with fail
     clear x0 x1
     rw [← HWW.out]
     obtain ⟨y0, y1⟩ := hB.c2
     refine bodyPost_ret (v := .agg #[.bool sp, .slice Ap np cp]) (by simp [results, Tryz.results70, go_sem, y0, y1]) rfl ?_
     exact ⟨sp, Ap, np, cp, rfl, hV, hBel⟩
end Go.Proofs.YtifikcemcflgjaaGreat
