/-
  Parts.
-/
import Derived.Test.YtclbiihcbfnjmaaGreatK2
import Derived.Test.YtclbiihcbfnjmaaGreatK8
import Derived.Test.YtclbiihcbfnjmaaGreatPLin
set_option linter.unusedSimpArgs false
set_option maxRecDepth 100000
set_option maxHeartbeats 8000000
namespace Go.Proofs.YtclbiihcbfnjmaaGreat
open Go.RowKit

structure KeyBox (T : Prop) : Prop where
 out : T
theorem viaKey {G T : Prop} (h : KeyBox T → G) (k : T) : G := h ⟨k⟩
theorem plinear_walk (b : Bh) (x : Ct) (w : World) (z : Int) (hb : b.rd w) (hx : x.rd w) (hT : I64 x.T) (h64 : I64 z)  :
  Calls Tryz.prog 6 #[.agg b.C, .agg x.C, .int .i64 z] w (fun e w' => e = .returned (.bool true) ∧ Below w.heap.size w w') := by
 by_cases hU : UsP b x
 ·
  obtain ⟨hbb, hxb, hok, N, h16, hN⟩ := hU.get;have hvB := Ct.vlB hb hok hN (show N ≤ 80 by omega);have hvL := Ct.vlB (x := x.liveOf) hb (Ct.liveOf_ok hok) hN (show N ≤ 80 by omega);have hvD := Ct.vlB (x := x.deadOf) hb (Ct.deadOf_ok hok) hN (show N ≤ 80 by omega);have hvl := Ct.vl hb hx hok hN (show N ≤ 80 by omega);have hal := hok.2.2.2.2.1;have hak := hok.2.2.2.2.2;have hn120 := hal.1;have hm120 := hak.1;have Hhb := Lib.hid hb;clear hb;have Hhx := Lib.hid hx;clear hx;have HhU := Lib.hid hU;clear hU;have HhvB := Lib.hid hvB;clear hvB;have HhvL := Lib.hid hvL;clear hvL;have HhvD := Lib.hid hvD;clear hvD;have Hhvl := Lib.hid hvl;clear hvl;have Hhal := Lib.hid hal;clear hal;have Hhak := Lib.hid hak;clear hak;have hE := ((Env.start w).blk 31 b.C (g := w.heap.size) rfl).blk 36 x.C (g := w.heap.size + 1) (by simp)
  obtain ⟨W0, hW0⟩ : ∃ W0, W0 = ((w.alloc (.cells b.C 31)).alloc (.cells x.C 36)) := ⟨_, rfl⟩
  rw [← hW0] at hE;have HW0 := Lib.hid hW0;clear hW0
  go_enter Tryz.func6, Tryz.ntmps6
  go_upto_region 1 with (fail)
  rw [← HW0.out];go_wp2_with fail
  refine hE.br (awakeP_t _) ?_;clear hE;intro w1 hE;obtain ⟨k2, k3, k4, k5, k6, k7, k8⟩ := (hE.here.1.2).c7;have k9 := (hE.here.2).cell 0;have k10 := (hE.here.2).cell 1;have k11 := (hE.here.2).cell 2;have k12 := (hE.here.2).cell 3;have k13 := (hE.here.2).cell 4;have k14 := (hE.here.2).cell 5;have k15 := (hE.here.2).cell 6;have k16 := (hE.here.2).cell 7;have k17 := (hE.here.2).cell 8;go_wp2_with fail
  refine hE.br (pusable_t (Bh.rd_below Hhb.out hE.bel) (Ct.rd_below Hhx.out hE.bel) hT HhU.out) ?_;clear hE k2 k3 k4 k5 k6 k7 k8 k9 k10 k11 k12 k13 k14 k15 k16 k17;intro w18 hE
  by_cases hz : z < 0
  ·
   have t1 : decide (z < 0) = true := decide_eq_true hz;go_wp2_with fail
   go_ret
   exact ⟨rfl, hE.bel⟩
  have t1 : decide (z < 0) = false := decide_eq_false hz
  obtain ⟨t, rfl⟩ : ∃ t : Nat, z = (t : Int) := ⟨z.toNat, by omega⟩
  go_upto_region 5 with (fail)
  have ht64 : t ≤ 9223372036854775807 := by have := h64.2; omega
  clear t1 hz;replace hE := hE.drew;refine wp_region_held_drew (S := fun V => Blk 36 (w.heap.size + 1) x.C V) (by kernel_rfl) (hE.here.2) (fun hHeld => ?_)
  generalize w18.drew = wd at *
  apply viaKey;intro hk5_0;apply viaKey;intro hk5_1;apply viaKey;intro hk5_2;apply viaKey;intro hk5_3
  ·
   refine tk 0 ?_ (hy := by
    intro w hSw;have kc0 := (hSw).cell 0;have kc1 := (hSw).cell 1;have kc2 := (hSw).cell 2;have kc3 := (hSw).cell 3;have kc4 := (hSw).cell 4;have kc5 := (hSw).cell 5;have kc6 := (hSw).cell 6;have kc7 := (hSw).cell 7;have kc8 := (hSw).cell 8;clear hSw
    first | (go_simp; done) | (go_simp; with_reducible rfl))
   try simp only [PL]
   refine tk 1 ?_ (hy := by
    intro w hSw;have kc0 := (hSw).cell 0;have kc1 := (hSw).cell 1;have kc2 := (hSw).cell 2;have kc3 := (hSw).cell 3;have kc4 := (hSw).cell 4;have kc5 := (hSw).cell 5;have kc6 := (hSw).cell 6;have kc7 := (hSw).cell 7;have kc8 := (hSw).cell 8;clear hSw
    first | (go_simp; done) | (go_simp; with_reducible rfl))
   try simp only [PL]
   refine tk 2 ?_ (hy := by
    intro w hSw;have kc0 := (hSw).cell 0;have kc1 := (hSw).cell 1;have kc2 := (hSw).cell 2;have kc3 := (hSw).cell 3;have kc4 := (hSw).cell 4;have kc5 := (hSw).cell 5;have kc6 := (hSw).cell 6;have kc7 := (hSw).cell 7;have kc8 := (hSw).cell 8;clear hSw
    first | (go_simp; done) | (go_simp; with_reducible rfl))
   try simp only [PL]
   refine wpAnyH_ready (rs := [3, 4, 5]) (by kernel_rfl) (by simp) (AllReadyH.cons rfl (fun K hK => ?_) (AllReadyH.cons rfl (fun K hK => ?_) (AllReadyH.cons rfl (fun K hK => ?_) (AllReadyH.nil))))
   ·
    go_simp
    obtain ⟨G3, hG⟩ : ∃ g, g = wd.heap.size := ⟨_, rfl⟩
    have hw3 : w.heap.size ≤ G3 := by rw [hG]; exact hE.bel.size
    have hb3_0 : w.heap.size < G3 := by rw [hG]; exact (hE.here.1.2).lt
    have hb3_1 : w.heap.size + 1 < G3 := by rw [hG]; exact (hE.here.2).lt
    replace hE := hE.blk 36 qz9 (g := G3) hG.symm;generalize wd.alloc (.cells qz9 36) = WA at hE ⊢;rw [← hG];clear hG;refine hK.out _ _ (hE.here.1.2) (fun hHeld => ?_);clear hK K;try simp only [PL]
    refine wpAnyH_ready (rs := [4, 5]) (by kernel_rfl) (by simp) (AllReadyH.cons rfl (fun K hK => ?_) (AllReadyH.cons rfl (fun K hK => ?_) (AllReadyH.nil)))
    ·
     go_simp
     obtain ⟨G4, hG⟩ : ∃ g, g = WA.heap.size := ⟨_, rfl⟩
     have hw4 : w.heap.size ≤ G4 := by rw [hG]; exact hE.bel.size
     have hb4_0 : w.heap.size < G4 := by rw [hG]; exact (hE.h2).lt
     have hb4_1 : w.heap.size + 1 < G4 := by rw [hG]; exact (hE.here.1.2).lt
     have hn3_4 : G3 ≠ G4 := by have h9 := (hE.here.2).lt; omega
     replace hE := hE.blk 36 qz9 (g := G4) hG.symm;generalize WA.alloc (.cells qz9 36) = WA at hE ⊢;rw [← hG];clear hG;refine hK.out _ _ (hE.h2) (fun hHeld => ?_);clear hK K;try simp only [PL]
     have hE2 := (((((Env.again hE.bel).blkI (hE.h3)).blkI (hE.h2)).blkI (hE.here.1.2)).blkI (hE.here.2));clear hE hHeld
     revert hE2; revert hn3_4; revert hb4_1; revert hb4_0; revert hw4; revert hb3_1; revert hb3_0; revert hw3; revert WA; revert G4; revert G3
     exact hk5_1.out
    ·
     go_simp
     obtain ⟨G5, hG⟩ : ∃ g, g = WA.heap.size := ⟨_, rfl⟩
     have hw5 : w.heap.size ≤ G5 := by rw [hG]; exact hE.bel.size
     have hb5_0 : w.heap.size < G5 := by rw [hG]; exact (hE.h2).lt
     have hb5_1 : w.heap.size + 1 < G5 := by rw [hG]; exact (hE.here.1.2).lt
     have hn3_5 : G3 ≠ G5 := by have h9 := (hE.here.2).lt; omega
     replace hE := hE.blk 36 qz9 (g := G5) hG.symm;generalize WA.alloc (.cells qz9 36) = WA at hE ⊢;rw [← hG];clear hG;refine hK.out _ _ (hE.h2) (fun hHeld => ?_);clear hK K;try simp only [PL]
     have hE2 := (((((Env.again hE.bel).blkI (hE.h3)).blkI (hE.h2)).blkI (hE.here.1.2)).blkI (hE.here.2));clear hE hHeld
     revert hE2; revert hn3_5; revert hb5_1; revert hb5_0; revert hw5; revert hb3_1; revert hb3_0; revert hw3; revert WA; revert G5; revert G3
     exact hk5_2.out
   ·
    go_simp
    obtain ⟨G4, hG⟩ : ∃ g, g = wd.heap.size := ⟨_, rfl⟩
    have hw4 : w.heap.size ≤ G4 := by rw [hG]; exact hE.bel.size
    have hb4_0 : w.heap.size < G4 := by rw [hG]; exact (hE.here.1.2).lt
    have hb4_1 : w.heap.size + 1 < G4 := by rw [hG]; exact (hE.here.2).lt
    replace hE := hE.blk 36 qz9 (g := G4) hG.symm;generalize wd.alloc (.cells qz9 36) = WA at hE ⊢;rw [← hG];clear hG;refine hK.out _ _ (hE.here.1.2) (fun hHeld => ?_);clear hK K;try simp only [PL]
    refine wpAnyH_ready (rs := [3, 5]) (by kernel_rfl) (by simp) (AllReadyH.cons rfl (fun K hK => ?_) (AllReadyH.cons rfl (fun K hK => ?_) (AllReadyH.nil)))
    ·
     go_simp
     obtain ⟨G3, hG⟩ : ∃ g, g = WA.heap.size := ⟨_, rfl⟩
     have hw3 : w.heap.size ≤ G3 := by rw [hG]; exact hE.bel.size
     have hb3_0 : w.heap.size < G3 := by rw [hG]; exact (hE.h2).lt
     have hb3_1 : w.heap.size + 1 < G3 := by rw [hG]; exact (hE.here.1.2).lt
     have hn3_4 : G3 ≠ G4 := by have h9 := (hE.here.2).lt; omega
     replace hE := hE.blk 36 qz9 (g := G3) hG.symm;generalize WA.alloc (.cells qz9 36) = WA at hE ⊢;rw [← hG];clear hG;refine hK.out _ _ (hE.h2) (fun hHeld => ?_);clear hK K;try simp only [PL]
     have hE2 := (((((Env.again hE.bel).blkI (hE.h3)).blkI (hE.h2)).blkI (hE.here.2)).blkI (hE.here.1.2));clear hE hHeld;exact hk5_1.out G3 G4 WA hw3 hb3_0 hb3_1 hw4 hb4_0 hb4_1 hn3_4 hE2
    ·
     go_simp
     obtain ⟨G5, hG⟩ : ∃ g, g = WA.heap.size := ⟨_, rfl⟩
     have hw5 : w.heap.size ≤ G5 := by rw [hG]; exact hE.bel.size
     have hb5_0 : w.heap.size < G5 := by rw [hG]; exact (hE.h2).lt
     have hb5_1 : w.heap.size + 1 < G5 := by rw [hG]; exact (hE.here.1.2).lt
     have hn4_5 : G4 ≠ G5 := by have h9 := (hE.here.2).lt; omega
     replace hE := hE.blk 36 qz9 (g := G5) hG.symm;generalize WA.alloc (.cells qz9 36) = WA at hE ⊢;rw [← hG];clear hG;refine hK.out _ _ (hE.h2) (fun hHeld => ?_);clear hK K;try simp only [PL]
     have hE2 := (((((Env.again hE.bel).blkI (hE.h3)).blkI (hE.h2)).blkI (hE.here.1.2)).blkI (hE.here.2));clear hE hHeld
     revert hE2; revert hn4_5; revert hb5_1; revert hb5_0; revert hw5; revert hb4_1; revert hb4_0; revert hw4; revert WA; revert G5; revert G4
     exact hk5_3.out
   ·
    go_simp
    obtain ⟨G5, hG⟩ : ∃ g, g = wd.heap.size := ⟨_, rfl⟩
    have hw5 : w.heap.size ≤ G5 := by rw [hG]; exact hE.bel.size
    have hb5_0 : w.heap.size < G5 := by rw [hG]; exact (hE.here.1.2).lt
    have hb5_1 : w.heap.size + 1 < G5 := by rw [hG]; exact (hE.here.2).lt
    replace hE := hE.blk 36 qz9 (g := G5) hG.symm;generalize wd.alloc (.cells qz9 36) = WA at hE ⊢;rw [← hG];clear hG;refine hK.out _ _ (hE.here.1.2) (fun hHeld => ?_);clear hK K;try simp only [PL]
    refine wpAnyH_ready (rs := [3, 4]) (by kernel_rfl) (by simp) (AllReadyH.cons rfl (fun K hK => ?_) (AllReadyH.cons rfl (fun K hK => ?_) (AllReadyH.nil)))
    ·
     go_simp
     obtain ⟨G3, hG⟩ : ∃ g, g = WA.heap.size := ⟨_, rfl⟩
     have hw3 : w.heap.size ≤ G3 := by rw [hG]; exact hE.bel.size
     have hb3_0 : w.heap.size < G3 := by rw [hG]; exact (hE.h2).lt
     have hb3_1 : w.heap.size + 1 < G3 := by rw [hG]; exact (hE.here.1.2).lt
     have hn3_5 : G3 ≠ G5 := by have h9 := (hE.here.2).lt; omega
     replace hE := hE.blk 36 qz9 (g := G3) hG.symm;generalize WA.alloc (.cells qz9 36) = WA at hE ⊢;rw [← hG];clear hG;refine hK.out _ _ (hE.h2) (fun hHeld => ?_);clear hK K;try simp only [PL]
     have hE2 := (((((Env.again hE.bel).blkI (hE.h3)).blkI (hE.h2)).blkI (hE.here.2)).blkI (hE.here.1.2));clear hE hHeld;exact hk5_2.out G3 G5 WA hw3 hb3_0 hb3_1 hw5 hb5_0 hb5_1 hn3_5 hE2
    ·
     go_simp
     obtain ⟨G4, hG⟩ : ∃ g, g = WA.heap.size := ⟨_, rfl⟩
     have hw4 : w.heap.size ≤ G4 := by rw [hG]; exact hE.bel.size
     have hb4_0 : w.heap.size < G4 := by rw [hG]; exact (hE.h2).lt
     have hb4_1 : w.heap.size + 1 < G4 := by rw [hG]; exact (hE.here.1.2).lt
     have hn4_5 : G4 ≠ G5 := by have h9 := (hE.here.2).lt; omega
     replace hE := hE.blk 36 qz9 (g := G4) hG.symm;generalize WA.alloc (.cells qz9 36) = WA at hE ⊢;rw [← hG];clear hG;refine hK.out _ _ (hE.h2) (fun hHeld => ?_);clear hK K;try simp only [PL]
     have hE2 := (((((Env.again hE.bel).blkI (hE.h3)).blkI (hE.h2)).blkI (hE.here.2)).blkI (hE.here.1.2));clear hE hHeld;exact hk5_3.out G4 G5 WA hw4 hb4_0 hb4_1 hw5 hb5_0 hb5_1 hn4_5 hE2
  ·
   intro G4 G5 wJ hw4 hb4_0 hb4_1 hw5 hb5_0 hb5_1 hn4_5 hE;have hHeld : (fun V => Blk 36 (w.heap.size + 1) x.C V) wJ := hE.h2;refine r1 3 (fun K hK => ?_);go_simp
   obtain ⟨G3, hG⟩ : ∃ g, g = wJ.heap.size := ⟨_, rfl⟩
   have hw3 : w.heap.size ≤ G3 := by rw [hG]; exact hE.bel.size
   have hb3_0 : w.heap.size < G3 := by rw [hG]; exact (hE.h3).lt
   have hb3_1 : w.heap.size + 1 < G3 := by rw [hG]; exact (hE.h2).lt
   have hn3_4 : G3 ≠ G4 := by have h9 := (hE.here.1.2).lt; omega
   have hn3_5 : G3 ≠ G5 := by have h9 := (hE.here.2).lt; omega
   replace hE := hE.blk 36 qz9 (g := G3) hG.symm;generalize wJ.alloc (.cells qz9 36) = WA at hE ⊢;rw [← hG];clear hG;refine hK.out _ _ (hE.h3) (fun hHeld => ?_);clear hK K;try simp only [PL]
   have hE2 := ((((((Env.again hE.bel).blkI (hE.h4)).blkI (hE.h3)).blkI (hE.here.2)).blkI (hE.h2)).blkI (hE.here.1.2));clear hE hHeld
   revert hE2; revert hn4_5; revert hn3_5; revert hn3_4; revert hb5_1; revert hb5_0; revert hw5; revert hb4_1; revert hb4_0; revert hw4; revert hb3_1; revert hb3_0; revert hw3; revert WA; revert G5; revert G4; revert G3
   exact hk5_0.out
  ·
   intro G3 G5 wJ hw3 hb3_0 hb3_1 hw5 hb5_0 hb5_1 hn3_5 hE;have hHeld : (fun V => Blk 36 (w.heap.size + 1) x.C V) wJ := hE.h2;refine r1 4 (fun K hK => ?_);go_simp
   obtain ⟨G4, hG⟩ : ∃ g, g = wJ.heap.size := ⟨_, rfl⟩
   have hw4 : w.heap.size ≤ G4 := by rw [hG]; exact hE.bel.size
   have hb4_0 : w.heap.size < G4 := by rw [hG]; exact (hE.h3).lt
   have hb4_1 : w.heap.size + 1 < G4 := by rw [hG]; exact (hE.h2).lt
   have hn3_4 : G3 ≠ G4 := by have h9 := (hE.here.1.2).lt; omega
   have hn4_5 : G4 ≠ G5 := by have h9 := (hE.here.2).lt; omega
   replace hE := hE.blk 36 qz9 (g := G4) hG.symm;generalize wJ.alloc (.cells qz9 36) = WA at hE ⊢;rw [← hG];clear hG;refine hK.out _ _ (hE.h3) (fun hHeld => ?_);clear hK K;try simp only [PL]
   have hE2 := ((((((Env.again hE.bel).blkI (hE.h4)).blkI (hE.h3)).blkI (hE.h2)).blkI (hE.here.2)).blkI (hE.here.1.2));clear hE hHeld;exact hk5_0.out G3 G4 G5 WA hw3 hb3_0 hb3_1 hw4 hb4_0 hb4_1 hw5 hb5_0 hb5_1 hn3_4 hn3_5 hn4_5 hE2
  ·
   intro G3 G4 wJ hw3 hb3_0 hb3_1 hw4 hb4_0 hb4_1 hn3_4 hE;have hHeld : (fun V => Blk 36 (w.heap.size + 1) x.C V) wJ := hE.h2;refine r1 5 (fun K hK => ?_);go_simp
   obtain ⟨G5, hG⟩ : ∃ g, g = wJ.heap.size := ⟨_, rfl⟩
   have hw5 : w.heap.size ≤ G5 := by rw [hG]; exact hE.bel.size
   have hb5_0 : w.heap.size < G5 := by rw [hG]; exact (hE.h3).lt
   have hb5_1 : w.heap.size + 1 < G5 := by rw [hG]; exact (hE.h2).lt
   have hn3_5 : G3 ≠ G5 := by have h9 := (hE.here.1.2).lt; omega
   have hn4_5 : G4 ≠ G5 := by have h9 := (hE.here.2).lt; omega
   replace hE := hE.blk 36 qz9 (g := G5) hG.symm;generalize wJ.alloc (.cells qz9 36) = WA at hE ⊢;rw [← hG];clear hG;refine hK.out _ _ (hE.h3) (fun hHeld => ?_);clear hK K;try simp only [PL]
   have hE2 := ((((((Env.again hE.bel).blkI (hE.h4)).blkI (hE.h3)).blkI (hE.h2)).blkI (hE.here.1.2)).blkI (hE.here.2));clear hE hHeld;exact hk5_0.out G3 G4 G5 WA hw3 hb3_0 hb3_1 hw4 hb4_0 hb4_1 hw5 hb5_0 hb5_1 hn3_4 hn3_5 hn4_5 hE2
  ·
   intro G3 G4 G5 wJ hw3 hb3_0 hb3_1 hw4 hb4_0 hb4_1 hw5 hb5_0 hb5_1 hn3_4 hn3_5 hn4_5 hE;have hHeld : (fun V => Blk 36 (w.heap.size + 1) x.C V) wJ := hE.h3;refine r1 6 (fun K hK => ?_)
   have hgl19 : w.heap.size ≤ G3 := by omega
   have hgr19 := (sets_grown [.int .i64 x.E, .int .i64 x.Y, .int .i64 x.T, .bool x.p.s, .slice x.p.A x.p.n x.p.c, .bool x.p.t, .slice x.p.B x.p.m x.p.d, .slice x.A x.n x.c, .slice x.B x.m x.d] 0 wJ ⟨_, hE.h2, rfl⟩).1;change wJ.grownBy (((((((((wJ.setCell ⟨G3, 0, none⟩ (.int .i64 x.E)).setCell ⟨G3, 1, none⟩ (.int .i64 x.Y)).setCell ⟨G3, 2, none⟩ (.int .i64 x.T)).setCell ⟨G3, 3, none⟩ (.bool x.p.s)).setCell ⟨G3, 4, none⟩ (.slice x.p.A x.p.n x.p.c)).setCell ⟨G3, 5, none⟩ (.bool x.p.t)).setCell ⟨G3, 6, none⟩ (.slice x.p.B x.p.m x.p.d)).setCell ⟨G3, 7, none⟩ (.slice x.A x.n x.c)).setCell ⟨G3, 8, none⟩ (.slice x.B x.m x.d)) _ at hgr19;have x19_0 := (hE.h2).cell 0;have f19_0 := (hE.h2).frozen 0;have x19_1 := (hE.h2).cell 1;have f19_1 := (hE.h2).frozen 1;have x19_2 := (hE.h2).cell 2;have f19_2 := (hE.h2).frozen 2;have x19_3 := (hE.h2).cell 3;have f19_3 := (hE.h2).frozen 3;have x19_4 := (hE.h2).cell 4;have f19_4 := (hE.h2).frozen 4;have x19_5 := (hE.h2).cell 5;have f19_5 := (hE.h2).frozen 5;have x19_6 := (hE.h2).cell 6;have f19_6 := (hE.h2).frozen 6;have x19_7 := (hE.h2).cell 7;have f19_7 := (hE.h2).frozen 7;have x19_8 := (hE.h2).cell 8;have f19_8 := (hE.h2).frozen 8;replace hE := ((((((Env.again (Go.Proofs.YtclbiihcbfnjmaaGreat.Below.grownB hE.bel hgr19 hE.bel.size hgl19)).blkI (Blk.grownB (hE.h4) hgr19 (by omega))).blkI (Blk.grownB (hE.h3) hgr19 (by omega))).blkI (show Blk 36 G3 x.C _ by simpa using ((((((((((((((((((hE.h2).set_ 0 (.int .i64 x.E))).set_ 1 (.int .i64 x.Y))).set_ 2 (.int .i64 x.T))).set_ 3 (.bool x.p.s))).set_ 4 (.slice x.p.A x.p.n x.p.c))).set_ 5 (.bool x.p.t))).set_ 6 (.slice x.p.B x.p.m x.p.d))).set_ 7 (.slice x.A x.n x.c))).set_ 8 (.slice x.B x.m x.d)))).blkI (Blk.grownB (hE.here.1.2) hgr19 (by omega))).blkI (Blk.grownB (hE.here.2) hgr19 (by omega)));go_simp;clear x19_0 f19_0 x19_1 f19_1 x19_2 f19_2 x19_3 f19_3 x19_4 f19_4 x19_5 f19_5 x19_6 f19_6 x19_7 f19_7 x19_8 f19_8 hgl19 hgr19;generalize (((((((((wJ.setCell ⟨G3, 0, none⟩ (.int .i64 x.E)).setCell ⟨G3, 1, none⟩ (.int .i64 x.Y)).setCell ⟨G3, 2, none⟩ (.int .i64 x.T)).setCell ⟨G3, 3, none⟩ (.bool x.p.s)).setCell ⟨G3, 4, none⟩ (.slice x.p.A x.p.n x.p.c)).setCell ⟨G3, 5, none⟩ (.bool x.p.t)).setCell ⟨G3, 6, none⟩ (.slice x.p.B x.p.m x.p.d)).setCell ⟨G3, 7, none⟩ (.slice x.A x.n x.c)).setCell ⟨G3, 8, none⟩ (.slice x.B x.m x.d)) = V19 at hE ⊢;refine hK.out _ _ (hE.h3) (fun hHeld => ?_);clear hK K;try simp only [PL]
   refine r1 7 (fun K hK => ?_)
   have hgl20 : w.heap.size ≤ G4 := by omega
   have hgr20 := (sets_grown [.int .i64 x.E, .int .i64 x.Y, .int .i64 x.T, .bool x.p.s, .slice x.p.A x.p.n x.p.c, .bool x.p.t, .slice x.p.B x.p.m x.p.d, .slice x.A x.n x.c, .slice x.B x.m x.d] 0 V19 ⟨_, hE.here.1.2, rfl⟩).1;change V19.grownBy (((((((((V19.setCell ⟨G4, 0, none⟩ (.int .i64 x.E)).setCell ⟨G4, 1, none⟩ (.int .i64 x.Y)).setCell ⟨G4, 2, none⟩ (.int .i64 x.T)).setCell ⟨G4, 3, none⟩ (.bool x.p.s)).setCell ⟨G4, 4, none⟩ (.slice x.p.A x.p.n x.p.c)).setCell ⟨G4, 5, none⟩ (.bool x.p.t)).setCell ⟨G4, 6, none⟩ (.slice x.p.B x.p.m x.p.d)).setCell ⟨G4, 7, none⟩ (.slice x.A x.n x.c)).setCell ⟨G4, 8, none⟩ (.slice x.B x.m x.d)) _ at hgr20;have x20_0 := (hE.here.1.2).cell 0;have f20_0 := (hE.here.1.2).frozen 0;have x20_1 := (hE.here.1.2).cell 1;have f20_1 := (hE.here.1.2).frozen 1;have x20_2 := (hE.here.1.2).cell 2;have f20_2 := (hE.here.1.2).frozen 2;have x20_3 := (hE.here.1.2).cell 3;have f20_3 := (hE.here.1.2).frozen 3;have x20_4 := (hE.here.1.2).cell 4;have f20_4 := (hE.here.1.2).frozen 4;have x20_5 := (hE.here.1.2).cell 5;have f20_5 := (hE.here.1.2).frozen 5;have x20_6 := (hE.here.1.2).cell 6;have f20_6 := (hE.here.1.2).frozen 6;have x20_7 := (hE.here.1.2).cell 7;have f20_7 := (hE.here.1.2).frozen 7;have x20_8 := (hE.here.1.2).cell 8;have f20_8 := (hE.here.1.2).frozen 8;replace hE := ((((((Env.again (Go.Proofs.YtclbiihcbfnjmaaGreat.Below.grownB hE.bel hgr20 hE.bel.size hgl20)).blkI (Blk.grownB (hE.h4) hgr20 (by omega))).blkI (Blk.grownB (hE.h3) hgr20 (by omega))).blkI (Blk.grownB (hE.h2) hgr20 (by omega))).blkI (show Blk 36 G4 x.C _ by simpa using ((((((((((((((((((hE.here.1.2).set_ 0 (.int .i64 x.E))).set_ 1 (.int .i64 x.Y))).set_ 2 (.int .i64 x.T))).set_ 3 (.bool x.p.s))).set_ 4 (.slice x.p.A x.p.n x.p.c))).set_ 5 (.bool x.p.t))).set_ 6 (.slice x.p.B x.p.m x.p.d))).set_ 7 (.slice x.A x.n x.c))).set_ 8 (.slice x.B x.m x.d)))).blkI (Blk.grownB (hE.here.2) hgr20 (by omega)));go_simp;clear x20_0 f20_0 x20_1 f20_1 x20_2 f20_2 x20_3 f20_3 x20_4 f20_4 x20_5 f20_5 x20_6 f20_6 x20_7 f20_7 x20_8 f20_8 hgl20 hgr20;generalize (((((((((V19.setCell ⟨G4, 0, none⟩ (.int .i64 x.E)).setCell ⟨G4, 1, none⟩ (.int .i64 x.Y)).setCell ⟨G4, 2, none⟩ (.int .i64 x.T)).setCell ⟨G4, 3, none⟩ (.bool x.p.s)).setCell ⟨G4, 4, none⟩ (.slice x.p.A x.p.n x.p.c)).setCell ⟨G4, 5, none⟩ (.bool x.p.t)).setCell ⟨G4, 6, none⟩ (.slice x.p.B x.p.m x.p.d)).setCell ⟨G4, 7, none⟩ (.slice x.A x.n x.c)).setCell ⟨G4, 8, none⟩ (.slice x.B x.m x.d)) = V20 at hE ⊢;refine hK.out _ _ (hE.h3) (fun hHeld => ?_);clear hK K;try simp only [PL]
   refine r1 8 (fun K hK => ?_)
   have hgl21 : w.heap.size ≤ G5 := by omega
   have hgr21 := (sets_grown [.int .i64 x.E, .int .i64 x.Y, .int .i64 x.T, .bool x.p.s, .slice x.p.A x.p.n x.p.c, .bool x.p.t, .slice x.p.B x.p.m x.p.d, .slice x.A x.n x.c, .slice x.B x.m x.d] 0 V20 ⟨_, hE.here.2, rfl⟩).1;change V20.grownBy (((((((((V20.setCell ⟨G5, 0, none⟩ (.int .i64 x.E)).setCell ⟨G5, 1, none⟩ (.int .i64 x.Y)).setCell ⟨G5, 2, none⟩ (.int .i64 x.T)).setCell ⟨G5, 3, none⟩ (.bool x.p.s)).setCell ⟨G5, 4, none⟩ (.slice x.p.A x.p.n x.p.c)).setCell ⟨G5, 5, none⟩ (.bool x.p.t)).setCell ⟨G5, 6, none⟩ (.slice x.p.B x.p.m x.p.d)).setCell ⟨G5, 7, none⟩ (.slice x.A x.n x.c)).setCell ⟨G5, 8, none⟩ (.slice x.B x.m x.d)) _ at hgr21;have x21_0 := (hE.here.2).cell 0;have f21_0 := (hE.here.2).frozen 0;have x21_1 := (hE.here.2).cell 1;have f21_1 := (hE.here.2).frozen 1;have x21_2 := (hE.here.2).cell 2;have f21_2 := (hE.here.2).frozen 2;have x21_3 := (hE.here.2).cell 3;have f21_3 := (hE.here.2).frozen 3;have x21_4 := (hE.here.2).cell 4;have f21_4 := (hE.here.2).frozen 4;have x21_5 := (hE.here.2).cell 5;have f21_5 := (hE.here.2).frozen 5;have x21_6 := (hE.here.2).cell 6;have f21_6 := (hE.here.2).frozen 6;have x21_7 := (hE.here.2).cell 7;have f21_7 := (hE.here.2).frozen 7;have x21_8 := (hE.here.2).cell 8;have f21_8 := (hE.here.2).frozen 8;replace hE := ((((((Env.again (Go.Proofs.YtclbiihcbfnjmaaGreat.Below.grownB hE.bel hgr21 hE.bel.size hgl21)).blkI (Blk.grownB (hE.h4) hgr21 (by omega))).blkI (Blk.grownB (hE.h3) hgr21 (by omega))).blkI (Blk.grownB (hE.h2) hgr21 (by omega))).blkI (Blk.grownB (hE.here.1.2) hgr21 (by omega))).blkI (show Blk 36 G5 x.C _ by simpa using ((((((((((((((((((hE.here.2).set_ 0 (.int .i64 x.E))).set_ 1 (.int .i64 x.Y))).set_ 2 (.int .i64 x.T))).set_ 3 (.bool x.p.s))).set_ 4 (.slice x.p.A x.p.n x.p.c))).set_ 5 (.bool x.p.t))).set_ 6 (.slice x.p.B x.p.m x.p.d))).set_ 7 (.slice x.A x.n x.c))).set_ 8 (.slice x.B x.m x.d))));go_simp;clear x21_0 f21_0 x21_1 f21_1 x21_2 f21_2 x21_3 f21_3 x21_4 f21_4 x21_5 f21_5 x21_6 f21_6 x21_7 f21_7 x21_8 f21_8 hgl21 hgr21;generalize (((((((((V20.setCell ⟨G5, 0, none⟩ (.int .i64 x.E)).setCell ⟨G5, 1, none⟩ (.int .i64 x.Y)).setCell ⟨G5, 2, none⟩ (.int .i64 x.T)).setCell ⟨G5, 3, none⟩ (.bool x.p.s)).setCell ⟨G5, 4, none⟩ (.slice x.p.A x.p.n x.p.c)).setCell ⟨G5, 5, none⟩ (.bool x.p.t)).setCell ⟨G5, 6, none⟩ (.slice x.p.B x.p.m x.p.d)).setCell ⟨G5, 7, none⟩ (.slice x.A x.n x.c)).setCell ⟨G5, 8, none⟩ (.slice x.B x.m x.d)) = V21 at hE ⊢;refine hK.out _ _ (hE.h3) (fun hHeld => ?_);clear hK K;try simp only [PL]
   refine wpAnyH_done (by kernel_rfl) ?_ _
   have hgl22 : w.heap.size ≤ G3 := by omega
   have hgr22 := (sets_grown [.slice none 0 0] 8 V21 ⟨_, hE.h2, rfl⟩).1;change V21.grownBy (V21.setCell ⟨G3, 8, none⟩ (.slice none 0 0)) _ at hgr22;have x22_0 := (hE.h2).cell 8;have f22_0 := (hE.h2).frozen 8;replace hE := ((((((Env.again (Go.Proofs.YtclbiihcbfnjmaaGreat.Below.grownB hE.bel hgr22 hE.bel.size hgl22)).blkI (Blk.grownB (hE.h4) hgr22 (by omega))).blkI (Blk.grownB (hE.h3) hgr22 (by omega))).blkI (show Blk 36 G3 #[.int .i64 x.E, .int .i64 x.Y, .int .i64 x.T, .bool x.p.s, .slice x.p.A x.p.n x.p.c, .bool x.p.t, .slice x.p.B x.p.m x.p.d, .slice x.A x.n x.c, .slice none 0 0] _ by simpa using ((hE.h2).set_ 8 (.slice none 0 0)))).blkI (Blk.grownB (hE.here.1.2) hgr22 (by omega))).blkI (Blk.grownB (hE.here.2) hgr22 (by omega)))
   have hgl23 : w.heap.size ≤ G4 := by omega
   have hgr23 := (sets_grown [.slice none 0 0] 7 (V21.setCell ⟨G3, 8, none⟩ (.slice none 0 0)) ⟨_, hE.here.1.2, rfl⟩).1;change (V21.setCell ⟨G3, 8, none⟩ (.slice none 0 0)).grownBy ((V21.setCell ⟨G3, 8, none⟩ (.slice none 0 0)).setCell ⟨G4, 7, none⟩ (.slice none 0 0)) _ at hgr23;have x23_0 := (hE.here.1.2).cell 7;have f23_0 := (hE.here.1.2).frozen 7;replace hE := ((((((Env.again (Go.Proofs.YtclbiihcbfnjmaaGreat.Below.grownB hE.bel hgr23 hE.bel.size hgl23)).blkI (Blk.grownB (hE.h4) hgr23 (by omega))).blkI (Blk.grownB (hE.h3) hgr23 (by omega))).blkI (Blk.grownB (hE.h2) hgr23 (by omega))).blkI (show Blk 36 G4 #[.int .i64 x.E, .int .i64 x.Y, .int .i64 x.T, .bool x.p.s, .slice x.p.A x.p.n x.p.c, .bool x.p.t, .slice x.p.B x.p.m x.p.d, .slice none 0 0, .slice x.B x.m x.d] _ by simpa using ((hE.here.1.2).set_ 7 (.slice none 0 0)))).blkI (Blk.grownB (hE.here.2) hgr23 (by omega)))
   go_upto_region 7 with (fail)
   clear x22_0 f22_0 hgl22 hgr22;clear x23_0 f23_0 hgl23 hgr23;generalize ((V21.setCell ⟨G3, 8, none⟩ (.slice none 0 0)).setCell ⟨G4, 7, none⟩ (.slice none 0 0)) = V6 at hE ⊢
   have hgl24 : w.heap.size ≤ G5 := by omega
   have hgr24 := (sets_grown [.slice none 0 0, .slice none 0 0] 7 V6 ⟨_, hE.here.2, rfl⟩).1;change V6.grownBy ((V6.setCell ⟨G5, 7, none⟩ (.slice none 0 0)).setCell ⟨G5, 8, none⟩ (.slice none 0 0)) _ at hgr24;have x24_0 := (hE.here.2).cell 7;have f24_0 := (hE.here.2).frozen 7;have x24_1 := (hE.here.2).cell 8;have f24_1 := (hE.here.2).frozen 8;replace hE := ((((((Env.again (Go.Proofs.YtclbiihcbfnjmaaGreat.Below.grownB hE.bel hgr24 hE.bel.size hgl24)).blkI (Blk.grownB (hE.h4) hgr24 (by omega))).blkI (Blk.grownB (hE.h3) hgr24 (by omega))).blkI (Blk.grownB (hE.h2) hgr24 (by omega))).blkI (Blk.grownB (hE.here.1.2) hgr24 (by omega))).blkI (show Blk 36 G5 #[.int .i64 x.E, .int .i64 x.Y, .int .i64 x.T, .bool x.p.s, .slice x.p.A x.p.n x.p.c, .bool x.p.t, .slice x.p.B x.p.m x.p.d, .slice none 0 0, .slice none 0 0] _ by simpa using ((((hE.here.2).set_ 7 (.slice none 0 0))).set_ 8 (.slice none 0 0))))
   go_upto_region 8 with (fail)
   clear x24_0 f24_0 x24_1 f24_1 hgl24 hgr24;generalize ((V6.setCell ⟨G5, 7, none⟩ (.slice none 0 0)).setCell ⟨G5, 8, none⟩ (.slice none 0 0)) = V24 at hE ⊢;replace hE := ((hE.rdi (Ct.rd_below Hhx.out hE.bel).2.1).rdi (Ct.rd_below Hhx.out hE.bel).2.2).rwv (show RwV 3 1 w.heap.size (.slice none 0 0) 0 (intR (fun j => 2 * x.l j)) _ from .inl ⟨rfl, rfl⟩);go_wp2_with fail
   go_loopw [10] (fun p wr => ∃ (k : Nat) (A2 : Option Addr) (c2 : Nat), k ≤ x.n ∧ p = .int .i64 (k : Int) ∧ Env w (fun V => ((((((((True ∧ Blk 31 (w.heap.size) b.C V) ∧ Blk 36 (w.heap.size + 1) x.C V) ∧ Blk 36 (G3) #[.int .i64 x.E, .int .i64 x.Y, .int .i64 x.T, .bool x.p.s, .slice x.p.A x.p.n x.p.c, .bool x.p.t, .slice x.p.B x.p.m x.p.d, .slice x.A x.n x.c, .slice none 0 0] V) ∧ Blk 36 (G4) #[.int .i64 x.E, .int .i64 x.Y, .int .i64 x.T, .bool x.p.s, .slice x.p.A x.p.n x.p.c, .bool x.p.t, .slice x.p.B x.p.m x.p.d, .slice none 0 0, .slice x.B x.m x.d] V) ∧ Blk 36 (G5) #[.int .i64 x.E, .int .i64 x.Y, .int .i64 x.T, .bool x.p.s, .slice x.p.A x.p.n x.p.c, .bool x.p.t, .slice x.p.B x.p.m x.p.d, .slice A2 k c2, .slice none 0 0] V) ∧ RdI x.A x.n x.l V) ∧ RdI x.B x.m x.k V) ∧ RwV 3 1 w.heap.size (.slice A2 k c2) k (intR (fun j => 2 * x.l j)) V)) wr) (fun p _ => x.n - (intOf p).toNat)
   case atStart => exact ⟨0, none, 0, Nat.zero_le _, rfl, (((((((((Env.again hE.bel).blkI (hE.h7)).blkI (hE.h6)).blkI (hE.h5)).blkI (hE.h4)).blkI (hE.h3)).rdi (hE.h2)).rdi (hE.here.1.2)).rwv (hE.here.2))⟩
   case round =>
    clear hE;obtain ⟨k, A2, c2, hk, rfl, hE⟩ := hrel
    by_cases hlt : k < x.n
    rotate_left
    ·
     obtain rfl : k = x.n := by omega
     have t1 : decide ((x.n : Int) < (x.n : Int)) = false := decide_eq_false (by omega);have k25 := (hE.h6).cell 7;have hB2 := hE.bel.size
     obtain ⟨B2, eB2⟩ : ∃ B, B = wr.heap.size := ⟨_, rfl⟩
     rw [← eB2] at hB2
     have hU2 : RwU 3 1 B2 A2 x.n (intR (fun j => 2 * x.l j)) wr := by
      rcases hE.here.2 with ⟨h1, h2⟩ | ⟨g9, cap9, h1, _, hR⟩
      · exact fun h0 => absurd h0 (by omega)
      · cases h1; exact fun _ => ⟨g9, _, rfl, by rw [eB2]; exact hR.lt, hR⟩
     replace hE := (((((((((((Env.again hE.bel).blkI (hE.h7)).blkI (hE.h6)).blkI (hE.h5)).blkI (hE.h4)).blkI (hE.h3)).rdi (hE.h2)).rdi (hE.here.1.2))).rwu hU2).szb (Nat.le_of_eq eB2)).rwv (show RwV 3 1 B2 (.slice none 0 0) 0 (intR (fun j => 2 * x.k j)) _ from .inl ⟨rfl, rfl⟩);clear hU2 eB2;have k26 := (hE.h8).cell 7
     go_upto_region 12 with (fail)
     clear k25 k26;clear t1;go_wp2_with fail
     go_loopw [11] (fun p wr => ∃ (k : Nat) (A3 : Option Addr) (c3 : Nat), k ≤ x.m ∧ p = .int .i64 (k : Int) ∧ Env w (fun V => ((((((((((True ∧ Blk 31 (w.heap.size) b.C V) ∧ Blk 36 (w.heap.size + 1) x.C V) ∧ Blk 36 (G3) #[.int .i64 x.E, .int .i64 x.Y, .int .i64 x.T, .bool x.p.s, .slice x.p.A x.p.n x.p.c, .bool x.p.t, .slice x.p.B x.p.m x.p.d, .slice x.A x.n x.c, .slice none 0 0] V) ∧ Blk 36 (G4) #[.int .i64 x.E, .int .i64 x.Y, .int .i64 x.T, .bool x.p.s, .slice x.p.A x.p.n x.p.c, .bool x.p.t, .slice x.p.B x.p.m x.p.d, .slice none 0 0, .slice x.B x.m x.d] V) ∧ Blk 36 (G5) #[.int .i64 x.E, .int .i64 x.Y, .int .i64 x.T, .bool x.p.s, .slice x.p.A x.p.n x.p.c, .bool x.p.t, .slice x.p.B x.p.m x.p.d, .slice A2 x.n c2, .slice A3 k c3] V) ∧ RdI x.A x.n x.l V) ∧ RdI x.B x.m x.k V) ∧ RwU 3 1 B2 A2 x.n (intR (fun j => 2 * x.l j)) V) ∧ B2 ≤ (World.heap V).size) ∧ RwV 3 1 B2 (.slice A3 k c3) k (intR (fun j => 2 * x.k j)) V)) wr) (fun p _ => x.m - (intOf p).toNat)
     case atStart => exact ⟨0, none, 0, Nat.zero_le _, rfl, (((((((((((Env.again hE.bel).blkI (hE.h9)).blkI (hE.h8)).blkI (hE.h7)).blkI (hE.h6)).blkI (hE.h5)).rdi (hE.h4)).rdi (hE.h3)).rwu (hE.h2)).szb (hE.here.1.2)).rwv (hE.here.2))⟩
     case round =>
      clear hE;obtain ⟨k, A3, c3, hk, rfl, hE⟩ := hrel
      by_cases hlt : k < x.m
      rotate_left
      ·
       obtain rfl : k = x.m := by omega
       have t1 : decide ((x.m : Int) < (x.m : Int)) = false := decide_eq_false (by omega);have k27 := (hE.h8).cell 8
       go_upto_region 16 with (fail)
       clear k27;clear t1;replace hE := hE.fv (Ct.prem (Ct.rd_below Hhx.out hE.bel) hok).1;have hfp : fl x.p.q ≤ 5 := Ct.flp (Ct.rd_below Hhx.out hE.bel) hok
       have hf2 : fl ((2 : Int) : Rat) ≤ 1 := by rw [fl_le]; decide +kernel
       replace hE := hE.drew;refine wp_region_held_drew (S := fun V => Blk 36 (w.heap.size + 1) x.C V) (by kernel_rfl) (hE.h9) (fun hHeld => ?_)
       generalize wr.drew = wd at *
       refine tk 0 ?_
       refine tk 1 ?_ (hy := by
        intro w hSw;have kc3 := (hSw).cell 3;have kc4 := (hSw).cell 4;have kc5 := (hSw).cell 5;have kc6 := (hSw).cell 6;clear hSw
        first | (go_simp; done) | (go_simp; with_reducible rfl))
       try simp only [PL]
       refine r1 2 (fun K hK => ?_);go_simp;refine hE.fr (ffromInt_v 2 _ (by decide) (by decide)) ?_;clear hE;intro sd Ad nd cd td Bd md dd w28 hE;go_wp2_with fail
       refine hK.out _ _ (hE.h10) (fun hHeld => ?_);clear hK K;try simp only [PL]
       refine r1 3 (fun K hK => ?_);go_simp;refine hE.fr (pw_product (ca := x.p.c) (da := x.p.d) (cb := cd) (db := dd) (hE.here.1.2) (hE.here.2) (by omega) (by omega) (fl_le2 (fl_times hfp hf2) (by decide))) ?_;clear hE;intro sq Aq nq cq tq Bq mq dq w29 hE;go_wp2_with fail
       refine hK.out _ _ (hE.h11) (fun hHeld => ?_);clear hK K;try simp only [PL]
       refine tk 4 ?_;refine r1 5 (fun K hK => ?_)
       have hgl30 : w.heap.size ≤ G5 := by omega
       have hgr30 := (sets_grown [.bool sq, .slice Aq nq cq, .bool tq, .slice Bq mq dq] 3 w29 ⟨_, hE.h8, rfl⟩).1;change w29.grownBy ((((w29.setCell ⟨G5, 3, none⟩ (.bool sq)).setCell ⟨G5, 4, none⟩ (.slice Aq nq cq)).setCell ⟨G5, 5, none⟩ (.bool tq)).setCell ⟨G5, 6, none⟩ (.slice Bq mq dq)) _ at hgr30;have x30_0 := (hE.h8).cell 3;have f30_0 := (hE.h8).frozen 3;have x30_1 := (hE.h8).cell 4;have f30_1 := (hE.h8).frozen 4;have x30_2 := (hE.h8).cell 5;have f30_2 := (hE.h8).frozen 5;have x30_3 := (hE.h8).cell 6;have f30_3 := (hE.h8).frozen 6;replace hE := ((((((((((((((Env.again (Go.Proofs.YtclbiihcbfnjmaaGreat.Below.grownB hE.bel hgr30 hE.bel.size hgl30)).blkI (Blk.grownB (hE.h12) hgr30 (by omega))).blkI (Blk.grownB (hE.h11) hgr30 (by omega))).blkI (Blk.grownB (hE.h10) hgr30 (by omega))).blkI (Blk.grownB (hE.h9) hgr30 (by omega))).blkI (show Blk 36 G5 #[.int .i64 x.E, .int .i64 x.Y, .int .i64 x.T, .bool sq, .slice Aq nq cq, .bool tq, .slice Bq mq dq, .slice A2 x.n c2, .slice A3 x.m c3] _ by simpa using ((((((((hE.h8).set_ 3 (.bool sq))).set_ 4 (.slice Aq nq cq))).set_ 5 (.bool tq))).set_ 6 (.slice Bq mq dq)))).rdi (Ct.rd_below Hhx.out (Go.Proofs.YtclbiihcbfnjmaaGreat.Below.grownB hE.bel hgr30 hE.bel.size hgl30)).2.1).rdi (Ct.rd_below Hhx.out (Go.Proofs.YtclbiihcbfnjmaaGreat.Below.grownB hE.bel hgr30 hE.bel.size hgl30)).2.2).rwu (RwU.far (hE.h5) (hE.h8) (by decide) hgr30)).szb (Nat.le_trans (hE.h4) hgr30.size)).rwv ((hE.h3).far (hE.h8) (by decide) hgr30)).fv ((hE.h2).grownB (hE.h8) rfl hgr30)).fv ((hE.here.1.2).grownB (hE.h8) rfl hgr30)).fv ((hE.here.2).grownB (hE.h8) rfl hgr30));go_simp;clear x30_0 f30_0 x30_1 f30_1 x30_2 f30_2 x30_3 f30_3 hgl30 hgr30;generalize ((((w29.setCell ⟨G5, 3, none⟩ (.bool sq)).setCell ⟨G5, 4, none⟩ (.slice Aq nq cq)).setCell ⟨G5, 5, none⟩ (.bool tq)).setCell ⟨G5, 6, none⟩ (.slice Bq mq dq)) = V30 at hE ⊢;refine hK.out _ _ (hE.h11) (fun hHeld => ?_);clear hK K;try simp only [PL]
       refine wpAnyH_done (by kernel_rfl) ?_ _
       by_cases htN : t < N
       ·
        obtain ⟨k31, k32, k33, k34, k35, k36, k37⟩ := (hE.h12).c7;have k38 := (hE.h11).cell 0;have k39 := (hE.h11).cell 1;have k40 := (hE.h11).cell 2;have k41 := (hE.h11).cell 3;have k42 := (hE.h11).cell 4;have k43 := (hE.h11).cell 5;have k44 := (hE.h11).cell 6;have k45 := (hE.h11).cell 7;have k46 := (hE.h11).cell 8;go_wp2_with fail
        refine hE.fr (vbene_v (Bh.rd_below Hhb.out hE.bel) hbb (Ct.rd_below Hhx.out hE.bel) hxb hok N hN (by omega) t htN) ?_;clear hE k31 k32 k33 k34 k35 k36 k37 k38 k39 k40 k41 k42 k43 k44 k45 k46;intro sa Aa na ca ta Ba ma da w47 hE
        go_upto_region 18 with (fail)
        obtain ⟨g48, hg48⟩ : ∃ g48, g48 = w47.heap.size := ⟨_, rfl⟩
        have hl48_0 : w.heap.size < g48 := by rw [hg48]; exact (hE.h13).lt
        have hl48_1 : w.heap.size + 1 < g48 := by rw [hg48]; exact (hE.h12).lt
        have hl48_2 : G3 < g48 := by rw [hg48]; exact (hE.h11).lt
        have hl48_3 : G4 < g48 := by rw [hg48]; exact (hE.h10).lt
        have hl48_4 : G5 < g48 := by rw [hg48]; exact (hE.h9).lt
        replace hE := hE.blk 29 (qf4 sa Aa na ca ta Ba ma da) (g := g48) hg48.symm;generalize w47.alloc (.cells (qf4 sa Aa na ca ta Ba ma da) 29) = W48 at hE ⊢;rw [← hg48];clear hg48;obtain ⟨k49, k50, k51, k52, k53, k54, k55⟩ := (hE.here.1.1.1.1.1.1.1.1.1.1.1.1.1.1.2).c7;have k56 := (hE.h12).cell 0;have k57 := (hE.h12).cell 1;have k58 := (hE.h12).cell 2;have k59 := (hE.h12).cell 3;have k60 := (hE.h12).cell 4;have k61 := (hE.h12).cell 5;have k62 := (hE.h12).cell 6;have k63 := (hE.h12).cell 7;have k64 := (hE.h12).cell 8;go_wp2_with fail
        refine hE.fr (vbene_v (x := x.liveOf) (Bh.rd_below Hhb.out hE.bel) hbb (Ct.liveOf_rd (Ct.rd_below Hhx.out hE.bel)) (Ct.liveOf_bd hxb) (Ct.liveOf_ok hok) N hN (by omega) t htN) ?_;clear hE k49 k50 k51 k52 k53 k54 k55 k56 k57 k58 k59 k60 k61 k62 k63 k64;intro sy Ay ny cy ty By my dy w65 hE
        go_upto_region 19 with (fail)
        obtain ⟨g66, hg66⟩ : ∃ g66, g66 = w65.heap.size := ⟨_, rfl⟩
        have hl66_0 : w.heap.size < g66 := by rw [hg66]; exact (hE.here.1.1.1.1.1.1.1.1.1.1.1.1.1.1.1.2).lt
        have hl66_1 : w.heap.size + 1 < g66 := by rw [hg66]; exact (hE.here.1.1.1.1.1.1.1.1.1.1.1.1.1.1.2).lt
        have hl66_2 : G3 < g66 := by rw [hg66]; exact (hE.h13).lt
        have hl66_3 : G4 < g66 := by rw [hg66]; exact (hE.h12).lt
        have hl66_4 : G5 < g66 := by rw [hg66]; exact (hE.h11).lt
        have hl66_14 : g48 < g66 := by rw [hg66]; exact (hE.here.1.2).lt
        replace hE := hE.blk 29 (qf4 sy Ay ny cy ty By my dy) (g := g66) hg66.symm;generalize w65.alloc (.cells (qf4 sy Ay ny cy ty By my dy) 29) = W66 at hE ⊢;rw [← hg66];clear hg66;obtain ⟨k67, k68, k69, k70, k71, k72, k73⟩ := (hE.here.1.1.1.1.1.1.1.1.1.1.1.1.1.1.1.1.2).c7;have k74 := (hE.h13).cell 0;have k75 := (hE.h13).cell 1;have k76 := (hE.h13).cell 2;have k77 := (hE.h13).cell 3;have k78 := (hE.h13).cell 4;have k79 := (hE.h13).cell 5;have k80 := (hE.h13).cell 6;have k81 := (hE.h13).cell 7;have k82 := (hE.h13).cell 8;go_wp2_with fail
        refine hE.fr (vbene_v (x := x.deadOf) (Bh.rd_below Hhb.out hE.bel) hbb (Ct.deadOf_rd (Ct.rd_below Hhx.out hE.bel)) (Ct.deadOf_bd hxb) (Ct.deadOf_ok hok) N hN (by omega) t htN) ?_;clear hE k67 k68 k69 k70 k71 k72 k73 k74 k75 k76 k77 k78 k79 k80 k81 k82;intro sz Az nz cz tz Bz mz dz w83 hE
        go_upto_region 20 with (fail)
        obtain ⟨g84, hg84⟩ : ∃ g84, g84 = w83.heap.size := ⟨_, rfl⟩
        have hl84_0 : w.heap.size < g84 := by rw [hg84]; exact (hE.here.1.1.1.1.1.1.1.1.1.1.1.1.1.1.1.1.1.2).lt
        have hl84_1 : w.heap.size + 1 < g84 := by rw [hg84]; exact (hE.here.1.1.1.1.1.1.1.1.1.1.1.1.1.1.1.1.2).lt
        have hl84_2 : G3 < g84 := by rw [hg84]; exact (hE.here.1.1.1.1.1.1.1.1.1.1.1.1.1.1.1.2).lt
        have hl84_3 : G4 < g84 := by rw [hg84]; exact (hE.here.1.1.1.1.1.1.1.1.1.1.1.1.1.1.2).lt
        have hl84_4 : G5 < g84 := by rw [hg84]; exact (hE.h13).lt
        have hl84_14 : g48 < g84 := by rw [hg84]; exact (hE.h3).lt
        have hl84_16 : g66 < g84 := by rw [hg84]; exact (hE.here.1.2).lt
        replace hE := hE.blk 29 (qf4 sz Az nz cz tz Bz mz dz) (g := g84) hg84.symm;generalize w83.alloc (.cells (qf4 sz Az nz cz tz Bz mz dz) 29) = W84 at hE ⊢;rw [← hg84];clear hg84;have hsum := ben_parts (x := x) (b := b) (Nat.le_of_lt htN);have Hhsum := Lib.hid hsum;clear hsum
        go_upto_region 22 with (fail)
        replace hE := hE.drew;refine wp_region_held_drew (S := fun V => Blk 29 (g48) (qf4 sa Aa na ca ta Ba ma da) V ∧ Blk 29 (g66) (qf4 sy Ay ny cy ty By my dy) V ∧ Blk 29 (g84) (qf4 sz Az nz cz tz Bz mz dz) V) (by kernel_rfl) (⟨hE.h4, hE.h2, hE.here.2⟩) (fun hHeld => ?_)
        generalize W84.drew = wd at *
        refine tk 0 ?_;refine tk 1 ?_;refine tk 2 ?_;refine tk 3 ?_;refine tk 4 ?_;refine tk 5 ?_;refine tk 6 ?_
        refine tk 7 ?_ (hy := by
         intro w hSw;have kc0 := (hSw.1).cell 0;have kc1 := (hSw.1).cell 1;have kc2 := (hSw.1).cell 2;have kc3 := (hSw.1).cell 3;clear hSw
         first | (go_simp; done) | (go_simp; with_reducible rfl))
        try simp only [PL]
        refine tk 8 ?_ (hy := by
         intro w hSw;have kc0 := (hSw.2.1).cell 0;have kc1 := (hSw.2.1).cell 1;have kc2 := (hSw.2.1).cell 2;have kc3 := (hSw.2.1).cell 3;clear hSw
         first | (go_simp; done) | (go_simp; with_reducible rfl))
        try simp only [PL]
        refine tk 9 ?_ (hy := by
         intro w hSw;have kc0 := (hSw.2.2).cell 0;have kc1 := (hSw.2.2).cell 1;have kc2 := (hSw.2.2).cell 2;have kc3 := (hSw.2.2).cell 3;clear hSw
         first | (go_simp; done) | (go_simp; with_reducible rfl))
        try simp only [PL]
        refine r1 10 (fun K hK => ?_);go_simp;refine hE.fr (pw_sum (ca := cy) (da := dy) (cb := cz) (db := dz) (hE.h3) (hE.here.1.2) (HhvL.out.a t) (HhvD.out.a t) (by rw [← Hhsum.out]; exact HhvB.out.a t)) ?_;clear hE;intro ss As ns cs ts Bs ms ds w85 hE;go_wp2_with fail
        refine hK.out _ _ (⟨hE.h5, hE.h3, hE.here.1.2⟩) (fun hHeld => ?_);clear hK K;try simp only [PL]
        refine r1 11 (fun K hK => ?_);go_simp;refine hE.br (pw_equal (v := true) (ca := ca) (da := da) (cb := cs) (db := ds) (hE.h6) (hE.here.2) (HhvB.out.a t) (by rw [← Hhsum.out]; exact HhvB.out.a t) (decide_eq_true Hhsum.out)) ?_;clear hE;intro w86 hE;go_wp2_with fail
        refine hK.out _ _ (⟨hE.h5, hE.h3, hE.here.1.2⟩) (fun hHeld => ?_);clear hK K;try simp only [PL]
        refine tk 12 ?_;refine tk 13 ?_;refine wpAnyH_done (by kernel_rfl) ?_ _
        go_upto_region 24 with (fail)
        have hfpr : fl (x.p.q * ((2 : Int) : Rat)) ≤ 6 := fl_times hfp hf2;have hln := (hE.h7).ln hfpr;have htb : Ct.bd (x.twice (FHof (x.p.q * ((2 : Int) : Rat)) sq Aq nq cq tq Bq mq dq) A2 c2 A3 c3) := ⟨hxb.1, ⟨Nat.le_trans hln.1 (by decide), Nat.le_trans hln.2 (by decide)⟩, hxb.2.2⟩;have htq : (FHof (x.p.q * ((2 : Int) : Rat)) sq Aq nq cq tq Bq mq dq).q = x.p.q * 2 := FHof.q_eq (hE.h7);replace hE := hE.ctr (show Ct.rd (x.twice (FHof (x.p.q * ((2 : Int) : Rat)) sq Aq nq cq tq Bq mq dq) A2 c2 A3 c3) _ from ⟨(hE.h7).rd, RwU.rdI (hE.h12), RwV.rdS (hE.h10)⟩);have Hhtq := Lib.hid htq;clear htq;obtain ⟨k87, k88, k89, k90, k91, k92, k93⟩ := (hE.here.1.1.1.1.1.1.1.1.1.1.1.1.1.1.1.1.1.1.1.1.2).c7;have k94 := (hE.here.1.1.1.1.1.1.1.1.1.1.1.1.1.1.1.1.2).cell 0;have k95 := (hE.here.1.1.1.1.1.1.1.1.1.1.1.1.1.1.1.1.2).cell 1;have k96 := (hE.here.1.1.1.1.1.1.1.1.1.1.1.1.1.1.1.1.2).cell 2;have k97 := (hE.here.1.1.1.1.1.1.1.1.1.1.1.1.1.1.1.1.2).cell 3;have k98 := (hE.here.1.1.1.1.1.1.1.1.1.1.1.1.1.1.1.1.2).cell 4;have k99 := (hE.here.1.1.1.1.1.1.1.1.1.1.1.1.1.1.1.1.2).cell 5;have k100 := (hE.here.1.1.1.1.1.1.1.1.1.1.1.1.1.1.1.1.2).cell 6;have k101 := (hE.here.1.1.1.1.1.1.1.1.1.1.1.1.1.1.1.1.2).cell 7;have k102 := (hE.here.1.1.1.1.1.1.1.1.1.1.1.1.1.1.1.1.2).cell 8;go_wp2_with fail
        refine (vvalid_any (x := (x.twice (FHof (x.p.q * ((2 : Int) : Rat)) sq Aq nq cq tq Bq mq dq) A2 c2 A3 c3)) (Bh.rd_below Hhb.out hE.bel) hbb (hE.here.2) htb).mono ?_;clear k87 k88 k89 k90 k91 k92 k93 k94 k95 k96 k97 k98 k99 k100 k101 k102
        rintro e w77 ⟨v, rfl, hv, hb⟩
        replace hE := hE.step hb;clear hb
        cases v with
        | false =>
         go_wp2_with fail
         go_ret
         exact ⟨rfl, hE.bel⟩
        | true =>
         have hok2 := hv.1 rfl;clear hv;have hv2 := Ct.vl (x := (x.twice (FHof (x.p.q * ((2 : Int) : Rat)) sq Aq nq cq tq Bq mq dq) A2 c2 A3 c3)) (Bh.rd_below Hhb.out hE.bel) (hE.here.2) hok2 hN (show N ≤ 80 by omega);have hdbl : b.val (x.twice (FHof (x.p.q * ((2 : Int) : Rat)) sq Aq nq cq tq Bq mq dq) A2 c2 A3 c3) N t = b.val x N t + b.val x N t := val_twice (Nat.le_of_lt htN) Hhtq.out;have Hhv2 := Lib.hid hv2;clear hv2;have Hhdbl := Lib.hid hdbl;clear hdbl;obtain ⟨k103, k104, k105, k106, k107, k108, k109⟩ := (hE.here.1.1.1.1.1.1.1.1.1.1.1.1.1.1.1.1.1.1.1.1.2).c7;have k110 := (hE.here.1.1.1.1.1.1.1.1.1.1.1.1.1.1.1.1.1.1.1.2).cell 0;have k111 := (hE.here.1.1.1.1.1.1.1.1.1.1.1.1.1.1.1.1.1.1.1.2).cell 1;have k112 := (hE.here.1.1.1.1.1.1.1.1.1.1.1.1.1.1.1.1.1.1.1.2).cell 2;have k113 := (hE.here.1.1.1.1.1.1.1.1.1.1.1.1.1.1.1.1.1.1.1.2).cell 3;have k114 := (hE.here.1.1.1.1.1.1.1.1.1.1.1.1.1.1.1.1.1.1.1.2).cell 4;have k115 := (hE.here.1.1.1.1.1.1.1.1.1.1.1.1.1.1.1.1.1.1.1.2).cell 5;have k116 := (hE.here.1.1.1.1.1.1.1.1.1.1.1.1.1.1.1.1.1.1.1.2).cell 6;have k117 := (hE.here.1.1.1.1.1.1.1.1.1.1.1.1.1.1.1.1.1.1.1.2).cell 7;have k118 := (hE.here.1.1.1.1.1.1.1.1.1.1.1.1.1.1.1.1.1.1.1.2).cell 8;go_wp2_with fail
         refine hE.fr (vpros_v (Bh.rd_below Hhb.out hE.bel) hbb (Ct.rd_below Hhx.out hE.bel) hxb hok N hN (by omega) t htN) ?_;clear hE k103 k104 k105 k106 k107 k108 k109 k110 k111 k112 k113 k114 k115 k116 k117 k118;intro sf Af nf cf tf Bf mf df w119 hE
         go_upto_region 27 with (fail)
         obtain ⟨g120, hg120⟩ : ∃ g120, g120 = w119.heap.size := ⟨_, rfl⟩
         have hl120_0 : w.heap.size < g120 := by rw [hg120]; exact (hE.here.1.1.1.1.1.1.1.1.1.1.1.1.1.1.1.1.1.1.1.1.1.2).lt
         have hl120_1 : w.heap.size + 1 < g120 := by rw [hg120]; exact (hE.here.1.1.1.1.1.1.1.1.1.1.1.1.1.1.1.1.1.1.1.1.2).lt
         have hl120_2 : G3 < g120 := by rw [hg120]; exact (hE.here.1.1.1.1.1.1.1.1.1.1.1.1.1.1.1.1.1.1.1.2).lt
         have hl120_3 : G4 < g120 := by rw [hg120]; exact (hE.here.1.1.1.1.1.1.1.1.1.1.1.1.1.1.1.1.1.1.2).lt
         have hl120_4 : G5 < g120 := by rw [hg120]; exact (hE.here.1.1.1.1.1.1.1.1.1.1.1.1.1.1.1.1.1.2).lt
         have hl120_14 : g48 < g120 := by rw [hg120]; exact (hE.h7).lt
         have hl120_16 : g66 < g120 := by rw [hg120]; exact (hE.h5).lt
         have hl120_18 : g84 < g120 := by rw [hg120]; exact (hE.h3).lt
         replace hE := hE.blk 29 (qf4 sf Af nf cf tf Bf mf df) (g := g120) hg120.symm;generalize w119.alloc (.cells (qf4 sf Af nf cf tf Bf mf df) 29) = W120 at hE ⊢;rw [← hg120];clear hg120;obtain ⟨k121, k122, k123, k124, k125, k126, k127⟩ := (hE.here.1.1.1.1.1.1.1.1.1.1.1.1.1.1.1.1.1.1.1.1.1.1.2).c7;have k128 := (hE.here.1.1.1.1.1.1.1.1.1.1.1.1.1.1.1.1.1.1.2).cell 0;have k129 := (hE.here.1.1.1.1.1.1.1.1.1.1.1.1.1.1.1.1.1.1.2).cell 1;have k130 := (hE.here.1.1.1.1.1.1.1.1.1.1.1.1.1.1.1.1.1.1.2).cell 2;have k131 := (hE.here.1.1.1.1.1.1.1.1.1.1.1.1.1.1.1.1.1.1.2).cell 3;have k132 := (hE.here.1.1.1.1.1.1.1.1.1.1.1.1.1.1.1.1.1.1.2).cell 4;have k133 := (hE.here.1.1.1.1.1.1.1.1.1.1.1.1.1.1.1.1.1.1.2).cell 5;have k134 := (hE.here.1.1.1.1.1.1.1.1.1.1.1.1.1.1.1.1.1.1.2).cell 6;have k135 := (hE.here.1.1.1.1.1.1.1.1.1.1.1.1.1.1.1.1.1.1.2).cell 7;have k136 := (hE.here.1.1.1.1.1.1.1.1.1.1.1.1.1.1.1.1.1.1.2).cell 8;go_wp2_with fail
         refine hE.fr (vpros_v (x := (x.twice (FHof (x.p.q * ((2 : Int) : Rat)) sq Aq nq cq tq Bq mq dq) A2 c2 A3 c3)) (Bh.rd_below Hhb.out hE.bel) hbb (hE.h2) htb hok2 N hN (by omega) t htN) ?_;clear hE k121 k122 k123 k124 k125 k126 k127 k128 k129 k130 k131 k132 k133 k134 k135 k136;intro sg Ag ng cg tg Bg mg dg w137 hE
         go_upto_region 28 with (fail)
         obtain ⟨g138, hg138⟩ : ∃ g138, g138 = w137.heap.size := ⟨_, rfl⟩
         have hl138_0 : w.heap.size < g138 := by rw [hg138]; exact (hE.here.1.1.1.1.1.1.1.1.1.1.1.1.1.1.1.1.1.1.1.1.1.1.1.2).lt
         have hl138_1 : w.heap.size + 1 < g138 := by rw [hg138]; exact (hE.here.1.1.1.1.1.1.1.1.1.1.1.1.1.1.1.1.1.1.1.1.1.1.2).lt
         have hl138_2 : G3 < g138 := by rw [hg138]; exact (hE.here.1.1.1.1.1.1.1.1.1.1.1.1.1.1.1.1.1.1.1.1.1.2).lt
         have hl138_3 : G4 < g138 := by rw [hg138]; exact (hE.here.1.1.1.1.1.1.1.1.1.1.1.1.1.1.1.1.1.1.1.1.2).lt
         have hl138_4 : G5 < g138 := by rw [hg138]; exact (hE.here.1.1.1.1.1.1.1.1.1.1.1.1.1.1.1.1.1.1.1.2).lt
         have hl138_14 : g48 < g138 := by rw [hg138]; exact (hE.h9).lt
         have hl138_16 : g66 < g138 := by rw [hg138]; exact (hE.h7).lt
         have hl138_18 : g84 < g138 := by rw [hg138]; exact (hE.h5).lt
         have hl138_22 : g120 < g138 := by rw [hg138]; exact (hE.here.1.2).lt
         replace hE := hE.blk 29 (qf4 sg Ag ng cg tg Bg mg dg) (g := g138) hg138.symm;generalize w137.alloc (.cells (qf4 sg Ag ng cg tg Bg mg dg) 29) = W138 at hE ⊢;rw [← hg138];clear hg138;replace hE := hE.drew;refine wp_region_held_drew (S := fun V => Blk 29 (g120) (qf4 sf Af nf cf tf Bf mf df) V ∧ Blk 29 (g138) (qf4 sg Ag ng cg tg Bg mg dg) V) (by kernel_rfl) (⟨hE.h2, hE.here.2⟩) (fun hHeld => ?_)
         generalize W138.drew = wd at *
         refine tk 0 ?_;refine tk 1 ?_;refine tk 2 ?_;refine tk 3 ?_;refine tk 4 ?_;refine tk 5 ?_;refine tk 6 ?_
         refine tk 7 ?_ (hy := by
          intro w hSw;have kc0 := (hSw.2).cell 0;have kc1 := (hSw.2).cell 1;have kc2 := (hSw.2).cell 2;have kc3 := (hSw.2).cell 3;clear hSw
          first | (go_simp; done) | (go_simp; with_reducible rfl))
         try simp only [PL]
         refine tk 8 ?_ (hy := by
          intro w hSw;have kc0 := (hSw.1).cell 0;have kc1 := (hSw.1).cell 1;have kc2 := (hSw.1).cell 2;have kc3 := (hSw.1).cell 3;clear hSw
          first | (go_simp; done) | (go_simp; with_reducible rfl))
         try simp only [PL]
         refine tk 9 ?_ (hy := by
          intro w hSw;have kc0 := (hSw.1).cell 0;have kc1 := (hSw.1).cell 1;have kc2 := (hSw.1).cell 2;have kc3 := (hSw.1).cell 3;clear hSw
          first | (go_simp; done) | (go_simp; with_reducible rfl))
         try simp only [PL]
         refine r1 10 (fun K hK => ?_);go_simp;refine hE.fr (pw_sum (ca := cf) (da := df) (cb := cf) (db := df) (hE.h3) (hE.h3) (Hhvl.out.a t) (Hhvl.out.a t) (by rw [← Hhdbl.out]; exact Hhv2.out.a t)) ?_;clear hE;intro sh Ah nh ch th Bh mh dh w139 hE;go_wp2_with fail
         refine hK.out _ _ (⟨hE.h3, hE.here.1.2⟩) (fun hHeld => ?_);clear hK K;try simp only [PL]
         refine r1 11 (fun K hK => ?_);go_simp;refine hE.br (pw_equal (v := true) (ca := cg) (da := dg) (cb := ch) (db := dh) (hE.h2) (hE.here.2) (Hhv2.out.a t) (by rw [← Hhdbl.out]; exact Hhv2.out.a t) (decide_eq_true Hhdbl.out)) ?_;clear hE;intro w140 hE;go_wp2_with fail
         refine hK.out _ _ (⟨hE.h3, hE.here.1.2⟩) (fun hHeld => ?_);clear hK K;try simp only [PL]
         refine tk 12 ?_;refine tk 13 ?_;refine wpAnyH_done (by kernel_rfl) ?_ _;go_wp2_with fail
         go_ret
         exact ⟨rfl, hE.bel⟩
       obtain ⟨k141, k142, k143, k144, k145, k146, k147⟩ := (hE.h12).c7;have k148 := (hE.h11).cell 0;have k149 := (hE.h11).cell 1;have k150 := (hE.h11).cell 2;have k151 := (hE.h11).cell 3;have k152 := (hE.h11).cell 4;have k153 := (hE.h11).cell 5;have k154 := (hE.h11).cell 6;have k155 := (hE.h11).cell 7;have k156 := (hE.h11).cell 8;go_wp2_with fail
       refine hE.br (vbene_dead (Bh.rd_below Hhb.out hE.bel) hbb (Ct.rd_below Hhx.out hE.bel) hxb hok N hN (by omega) t (by omega) (by omega)) ?_;clear hE k141 k142 k143 k144 k145 k146 k147 k148 k149 k150 k151 k152 k153 k154 k155 k156;intro w157 hE
       go_upto_region 18 with (fail)
       obtain ⟨g158, hg158⟩ : ∃ g158, g158 = w157.heap.size := ⟨_, rfl⟩
       have hl158_0 : w.heap.size < g158 := by rw [hg158]; exact (hE.h12).lt
       have hl158_1 : w.heap.size + 1 < g158 := by rw [hg158]; exact (hE.h11).lt
       have hl158_2 : G3 < g158 := by rw [hg158]; exact (hE.h10).lt
       have hl158_3 : G4 < g158 := by rw [hg158]; exact (hE.h9).lt
       have hl158_4 : G5 < g158 := by rw [hg158]; exact (hE.h8).lt
       replace hE := hE.blk 29 qz4 (g := g158) hg158.symm;generalize w157.alloc (.cells qz4 29) = W158 at hE ⊢;rw [← hg158];clear hg158;obtain ⟨k159, k160, k161, k162, k163, k164, k165⟩ := (hE.h13).c7;have k166 := (hE.h11).cell 0;have k167 := (hE.h11).cell 1;have k168 := (hE.h11).cell 2;have k169 := (hE.h11).cell 3;have k170 := (hE.h11).cell 4;have k171 := (hE.h11).cell 5;have k172 := (hE.h11).cell 6;have k173 := (hE.h11).cell 7;have k174 := (hE.h11).cell 8;go_wp2_with fail
       refine hE.br (vbene_dead (x := x.liveOf) (Bh.rd_below Hhb.out hE.bel) hbb (Ct.liveOf_rd (Ct.rd_below Hhx.out hE.bel)) (Ct.liveOf_bd hxb) (Ct.liveOf_ok hok) N hN (by omega) t (by omega) (by omega)) ?_;clear hE k159 k160 k161 k162 k163 k164 k165 k166 k167 k168 k169 k170 k171 k172 k173 k174;intro w175 hE
       go_upto_region 19 with (fail)
       obtain ⟨g176, hg176⟩ : ∃ g176, g176 = w175.heap.size := ⟨_, rfl⟩
       have hl176_0 : w.heap.size < g176 := by rw [hg176]; exact (hE.h13).lt
       have hl176_1 : w.heap.size + 1 < g176 := by rw [hg176]; exact (hE.h12).lt
       have hl176_2 : G3 < g176 := by rw [hg176]; exact (hE.h11).lt
       have hl176_3 : G4 < g176 := by rw [hg176]; exact (hE.h10).lt
       have hl176_4 : G5 < g176 := by rw [hg176]; exact (hE.h9).lt
       have hl176_13 : g158 < g176 := by rw [hg176]; exact (hE.here.2).lt
       replace hE := hE.blk 29 qz4 (g := g176) hg176.symm;generalize w175.alloc (.cells qz4 29) = W176 at hE ⊢;rw [← hg176];clear hg176;obtain ⟨k177, k178, k179, k180, k181, k182, k183⟩ := (hE.here.1.1.1.1.1.1.1.1.1.1.1.1.1.1.2).c7;have k184 := (hE.h11).cell 0;have k185 := (hE.h11).cell 1;have k186 := (hE.h11).cell 2;have k187 := (hE.h11).cell 3;have k188 := (hE.h11).cell 4;have k189 := (hE.h11).cell 5;have k190 := (hE.h11).cell 6;have k191 := (hE.h11).cell 7;have k192 := (hE.h11).cell 8;go_wp2_with fail
       refine hE.br (vbene_dead (x := x.deadOf) (Bh.rd_below Hhb.out hE.bel) hbb (Ct.deadOf_rd (Ct.rd_below Hhx.out hE.bel)) (Ct.deadOf_bd hxb) (Ct.deadOf_ok hok) N hN (by omega) t (by omega) (by omega)) ?_;clear hE k177 k178 k179 k180 k181 k182 k183 k184 k185 k186 k187 k188 k189 k190 k191 k192;intro w193 hE
       go_upto_region 20 with (fail)
       obtain ⟨g194, hg194⟩ : ∃ g194, g194 = w193.heap.size := ⟨_, rfl⟩
       have hl194_0 : w.heap.size < g194 := by rw [hg194]; exact (hE.here.1.1.1.1.1.1.1.1.1.1.1.1.1.1.2).lt
       have hl194_1 : w.heap.size + 1 < g194 := by rw [hg194]; exact (hE.h13).lt
       have hl194_2 : G3 < g194 := by rw [hg194]; exact (hE.h12).lt
       have hl194_3 : G4 < g194 := by rw [hg194]; exact (hE.h11).lt
       have hl194_4 : G5 < g194 := by rw [hg194]; exact (hE.h10).lt
       have hl194_13 : g158 < g194 := by rw [hg194]; exact (hE.here.1.2).lt
       have hl194_14 : g176 < g194 := by rw [hg194]; exact (hE.here.2).lt
       replace hE := hE.blk 29 qz4 (g := g194) hg194.symm;generalize w193.alloc (.cells qz4 29) = W194 at hE ⊢;rw [← hg194];clear hg194;go_wp2_with fail
       go_ret
       exact ⟨rfl, hE.bel⟩
      have t1 : decide ((k : Int) < (x.m : Int)) = true := decide_eq_true (by omega)
      have t2 : (k : Int) < (x.m : Int) := by omega
      obtain ⟨bq, oq, eA, -⟩ := (Ct.rd_below Hhx.out hE.bel).2.2 k hlt
      obtain ⟨l, hl⟩ : ∃ l, l = x.k k := ⟨_, rfl⟩
      have hlb : 0 ≤ l ∧ l ≤ 1099511627776 := by rw [hl]; exact Hhak.out.2 k hlt
      have o1 : IntKind.i64.wrap (2 * l) = 2 * l := by rw [IntKind.wrap_i64]; omega
      have Hhl := Lib.hid hl;clear hl;have HeA := Lib.hid eA;clear eA;have k195 := (hE.h8).cell 8
      go_upto_region 15 with (fail)
      clear k195;clear t1;replace hE := hE.drew;refine wp_region_held_drew (S := fun V => Blk 36 (w.heap.size + 1) x.C V ∧ RdI x.B x.m x.k V) (by kernel_rfl) (⟨hE.h8, hE.h3⟩) (fun hHeld => ?_)
      generalize wr.drew = wd at *
      refine tk 0 ?_;refine tk 2 ?_
      refine tk 3 ?_ (hy := by
       intro w hSw;have kc : World.cell? _ _ = some (.slice x.B x.m x.d) := (hSw.1).cell 8;rw [HeA.out] at kc;clear hSw
       first | (go_simp; done) | (go_simp; with_reducible rfl))
      try simp only [PL]
      refine tk 4 ?_;refine tk 5 ?_
      refine tk 6 ?_ (hy := by
       intro w hSw;obtain ⟨b2, o2, e2, hat⟩ := hSw.2 k hlt;rw [HeA.out] at e2
       cases e2
       have kc := hat.2;rw [← Hhl.out] at kc;clear hSw
       first | (go_simp; done) | (go_simp; with_reducible rfl))
      try simp only [PL]
      refine tk 7 ?_;refine wpAnyH_ready (rs := [1, 8]) (by kernel_rfl) (by simp) (AllReadyH.cons rfl (fun K hK => ?_) (AllReadyH.cons rfl (fun K hK => ?_) (AllReadyH.nil)))
      ·
       have k196 := (hE.h5).cell 0;have k197 := (hE.h5).cell 1;have k198 := (hE.h5).cell 2;have k199 := (hE.h5).cell 3;have k200 := (hE.h5).cell 4;have k201 := (hE.h5).cell 5;have k202 := (hE.h5).cell 6;have k203 := (hE.h5).cell 7;have k204 := (hE.h5).cell 8;go_simp;clear k196 k197 k198 k199 k200 k201 k202 k203 k204;refine hK.out _ _ (⟨hE.h8, hE.h3⟩) (fun hHeld => ?_);clear hK K;try simp only [PL]
       refine r1 8 (fun K hK => ?_);go_simp
       obtain ⟨g205, hg205⟩ : ∃ g205, g205 = wd.heap.size := ⟨_, rfl⟩
       have hl205_0 : w.heap.size < g205 := by rw [hg205]; exact (hE.h9).lt
       have hl205_1 : w.heap.size + 1 < g205 := by rw [hg205]; exact (hE.h8).lt
       have hl205_2 : G3 < g205 := by rw [hg205]; exact (hE.h7).lt
       have hl205_3 : G4 < g205 := by rw [hg205]; exact (hE.h6).lt
       have hl205_4 : G5 < g205 := by rw [hg205]; exact (hE.h5).lt
       replace hE := hE.blk 3 #[.int .i64 (2 * l)] (g := g205) hg205.symm;generalize wd.alloc (.cells #[.int .i64 (2 * l)] 3) = W205 at hE ⊢;rw [← hg205];clear hg205;refine hK.out _ _ (⟨hE.h9, hE.h4⟩) (fun hHeld => ?_);clear hK K;try simp only [PL]
       refine r1 9 (fun K hK => ?_);obtain ⟨v2, wz, hr, hR2, hgw⟩ := push_int 34 (hE.here.1.2) hE.h2 (x := 2 * l) (by show 2 * l = 2 * x.k k; rw [Hhl.out]) (hE.here.2) (by omega);obtain ⟨A9, c9, rfl, -⟩ := hR2.rdI;refine Eq.mpr (if_pos (by rfl)) ?_;refine app_step rfl rfl rfl hr ?_;clear hr;replace hE := (((((((((((Env.again (Go.Proofs.YtclbiihcbfnjmaaGreat.Below.grownR hE.bel (hE.here.1.2) hgw hB2 hE.bel.size)).blkI (Blk.grownR (hE.h10) (hE.here.1.2) hgw (by decide))).blkI (Blk.grownR (hE.h9) (hE.here.1.2) hgw (by decide))).blkI (Blk.grownR (hE.h8) (hE.here.1.2) hgw (by decide))).blkI (Blk.grownR (hE.h7) (hE.here.1.2) hgw (by decide))).blkI (Blk.grownR (hE.h6) (hE.here.1.2) hgw (by decide))).rdi (Ct.rd_below Hhx.out (Go.Proofs.YtclbiihcbfnjmaaGreat.Below.grownR hE.bel (hE.here.1.2) hgw hB2 hE.bel.size)).2.1).rdi (Ct.rd_below Hhx.out (Go.Proofs.YtclbiihcbfnjmaaGreat.Below.grownR hE.bel (hE.here.1.2) hgw hB2 hE.bel.size)).2.2).rwu (RwU.grownR (hE.h3) (hE.here.1.2) hgw (Nat.le_refl _))).szb (Nat.le_trans (hE.h2) hgw.size)).rwv hR2);clear hR2 hgw;refine hK.out _ _ (⟨hE.h8, hE.h3⟩) (fun hHeld => ?_);clear hK K;try simp only [PL]
       refine tk 10 ?_;refine r1 11 (fun K hK => ?_)
       have hgl206 : w.heap.size ≤ G5 := by omega
       have hgr206 := (sets_grown [.slice A9 (k + 1) c9] 8 wz ⟨_, hE.h5, rfl⟩).1;change wz.grownBy (wz.setCell ⟨G5, 8, none⟩ (.slice A9 (k + 1) c9)) _ at hgr206;have x206_0 := (hE.h5).cell 8;have f206_0 := (hE.h5).frozen 8;replace hE := (((((((((((Env.again (Go.Proofs.YtclbiihcbfnjmaaGreat.Below.grownB hE.bel hgr206 hE.bel.size hgl206)).blkI (Blk.grownB (hE.h9) hgr206 (by omega))).blkI (Blk.grownB (hE.h8) hgr206 (by omega))).blkI (Blk.grownB (hE.h7) hgr206 (by omega))).blkI (Blk.grownB (hE.h6) hgr206 (by omega))).blkI (show Blk 36 G5 #[.int .i64 x.E, .int .i64 x.Y, .int .i64 x.T, .bool x.p.s, .slice x.p.A x.p.n x.p.c, .bool x.p.t, .slice x.p.B x.p.m x.p.d, .slice A2 x.n c2, .slice A9 (k + 1) c9] _ by simpa using ((hE.h5).set_ 8 (.slice A9 (k + 1) c9)))).rdi (Ct.rd_below Hhx.out (Go.Proofs.YtclbiihcbfnjmaaGreat.Below.grownB hE.bel hgr206 hE.bel.size hgl206)).2.1).rdi (Ct.rd_below Hhx.out (Go.Proofs.YtclbiihcbfnjmaaGreat.Below.grownB hE.bel hgr206 hE.bel.size hgl206)).2.2).rwu (RwU.far (hE.h2) (hE.h5) (by decide) hgr206)).szb (Nat.le_trans (hE.here.1.2) hgr206.size)).rwv ((hE.here.2).far (hE.h5) (by decide) hgr206));go_simp;clear x206_0 f206_0 hgl206 hgr206;generalize (wz.setCell ⟨G5, 8, none⟩ (.slice A9 (k + 1) c9)) = V206 at hE ⊢;refine hK.out _ _ (⟨hE.h8, hE.h3⟩) (fun hHeld => ?_);clear hK K;try simp only [PL]
       refine wpAnyH_done (by kernel_rfl) ?_ _;go_wp2_with fail
       go_roundw
       case rel => exact ⟨k + 1, A9, c9, by omega, by go_num, (((((((((((Env.again hE.bel).blkI (hE.h9)).blkI (hE.h8)).blkI (hE.h7)).blkI (hE.h6)).blkI (hE.h5)).rdi (hE.h4)).rdi (hE.h3)).rwu (hE.h2)).szb (hE.here.1.2)).rwv (hE.here.2))⟩
       case measure => simp [intOf]; omega
      ·
       go_simp
       obtain ⟨g207, hg207⟩ : ∃ g207, g207 = wd.heap.size := ⟨_, rfl⟩
       have hl207_0 : w.heap.size < g207 := by rw [hg207]; exact (hE.h9).lt
       have hl207_1 : w.heap.size + 1 < g207 := by rw [hg207]; exact (hE.h8).lt
       have hl207_2 : G3 < g207 := by rw [hg207]; exact (hE.h7).lt
       have hl207_3 : G4 < g207 := by rw [hg207]; exact (hE.h6).lt
       have hl207_4 : G5 < g207 := by rw [hg207]; exact (hE.h5).lt
       replace hE := hE.blk 3 #[.int .i64 (2 * l)] (g := g207) hg207.symm;generalize wd.alloc (.cells #[.int .i64 (2 * l)] 3) = W207 at hE ⊢;rw [← hg207];clear hg207;refine hK.out _ _ (⟨hE.h9, hE.h4⟩) (fun hHeld => ?_);clear hK K;try simp only [PL]
       refine r1 1 (fun K hK => ?_);have k208 := (hE.h6).cell 0;have k209 := (hE.h6).cell 1;have k210 := (hE.h6).cell 2;have k211 := (hE.h6).cell 3;have k212 := (hE.h6).cell 4;have k213 := (hE.h6).cell 5;have k214 := (hE.h6).cell 6;have k215 := (hE.h6).cell 7;have k216 := (hE.h6).cell 8;go_simp;clear k208 k209 k210 k211 k212 k213 k214 k215 k216;refine hK.out _ _ (⟨hE.h9, hE.h4⟩) (fun hHeld => ?_);clear hK K;try simp only [PL]
       refine r1 9 (fun K hK => ?_);obtain ⟨v2, wz, hr, hR2, hgw⟩ := push_int 34 (hE.here.1.2) hE.h2 (x := 2 * l) (by show 2 * l = 2 * x.k k; rw [Hhl.out]) (hE.here.2) (by omega);obtain ⟨A9, c9, rfl, -⟩ := hR2.rdI;refine Eq.mpr (if_pos (by rfl)) ?_;refine app_step rfl rfl rfl hr ?_;clear hr;replace hE := (((((((((((Env.again (Go.Proofs.YtclbiihcbfnjmaaGreat.Below.grownR hE.bel (hE.here.1.2) hgw hB2 hE.bel.size)).blkI (Blk.grownR (hE.h10) (hE.here.1.2) hgw (by decide))).blkI (Blk.grownR (hE.h9) (hE.here.1.2) hgw (by decide))).blkI (Blk.grownR (hE.h8) (hE.here.1.2) hgw (by decide))).blkI (Blk.grownR (hE.h7) (hE.here.1.2) hgw (by decide))).blkI (Blk.grownR (hE.h6) (hE.here.1.2) hgw (by decide))).rdi (Ct.rd_below Hhx.out (Go.Proofs.YtclbiihcbfnjmaaGreat.Below.grownR hE.bel (hE.here.1.2) hgw hB2 hE.bel.size)).2.1).rdi (Ct.rd_below Hhx.out (Go.Proofs.YtclbiihcbfnjmaaGreat.Below.grownR hE.bel (hE.here.1.2) hgw hB2 hE.bel.size)).2.2).rwu (RwU.grownR (hE.h3) (hE.here.1.2) hgw (Nat.le_refl _))).szb (Nat.le_trans (hE.h2) hgw.size)).rwv hR2);clear hR2 hgw;refine hK.out _ _ (⟨hE.h8, hE.h3⟩) (fun hHeld => ?_);clear hK K;try simp only [PL]
       refine tk 10 ?_;refine r1 11 (fun K hK => ?_)
       have hgl217 : w.heap.size ≤ G5 := by omega
       have hgr217 := (sets_grown [.slice A9 (k + 1) c9] 8 wz ⟨_, hE.h5, rfl⟩).1;change wz.grownBy (wz.setCell ⟨G5, 8, none⟩ (.slice A9 (k + 1) c9)) _ at hgr217;have x217_0 := (hE.h5).cell 8;have f217_0 := (hE.h5).frozen 8;replace hE := (((((((((((Env.again (Go.Proofs.YtclbiihcbfnjmaaGreat.Below.grownB hE.bel hgr217 hE.bel.size hgl217)).blkI (Blk.grownB (hE.h9) hgr217 (by omega))).blkI (Blk.grownB (hE.h8) hgr217 (by omega))).blkI (Blk.grownB (hE.h7) hgr217 (by omega))).blkI (Blk.grownB (hE.h6) hgr217 (by omega))).blkI (show Blk 36 G5 #[.int .i64 x.E, .int .i64 x.Y, .int .i64 x.T, .bool x.p.s, .slice x.p.A x.p.n x.p.c, .bool x.p.t, .slice x.p.B x.p.m x.p.d, .slice A2 x.n c2, .slice A9 (k + 1) c9] _ by simpa using ((hE.h5).set_ 8 (.slice A9 (k + 1) c9)))).rdi (Ct.rd_below Hhx.out (Go.Proofs.YtclbiihcbfnjmaaGreat.Below.grownB hE.bel hgr217 hE.bel.size hgl217)).2.1).rdi (Ct.rd_below Hhx.out (Go.Proofs.YtclbiihcbfnjmaaGreat.Below.grownB hE.bel hgr217 hE.bel.size hgl217)).2.2).rwu (RwU.far (hE.h2) (hE.h5) (by decide) hgr217)).szb (Nat.le_trans (hE.here.1.2) hgr217.size)).rwv ((hE.here.2).far (hE.h5) (by decide) hgr217));go_simp;clear x217_0 f217_0 hgl217 hgr217;generalize (wz.setCell ⟨G5, 8, none⟩ (.slice A9 (k + 1) c9)) = V217 at hE ⊢;refine hK.out _ _ (⟨hE.h8, hE.h3⟩) (fun hHeld => ?_);clear hK K;try simp only [PL]
       refine wpAnyH_done (by kernel_rfl) ?_ _;go_wp2_with fail
       go_roundw
       case rel => exact ⟨k + 1, A9, c9, by omega, by go_num, (((((((((((Env.again hE.bel).blkI (hE.h9)).blkI (hE.h8)).blkI (hE.h7)).blkI (hE.h6)).blkI (hE.h5)).rdi (hE.h4)).rdi (hE.h3)).rwu (hE.h2)).szb (hE.here.1.2)).rwv (hE.here.2))⟩
       case measure => simp [intOf]; omega
    have t1 : decide ((k : Int) < (x.n : Int)) = true := decide_eq_true (by omega)
    have t2 : (k : Int) < (x.n : Int) := by omega
    obtain ⟨bq, oq, eA, -⟩ := (Ct.rd_below Hhx.out hE.bel).2.1 k hlt
    obtain ⟨l, hl⟩ : ∃ l, l = x.l k := ⟨_, rfl⟩
    have hlb : 0 ≤ l ∧ l ≤ 1099511627776 := by rw [hl]; exact Hhal.out.2 k hlt
    have o1 : IntKind.i64.wrap (2 * l) = 2 * l := by rw [IntKind.wrap_i64]; omega
    have Hhl := Lib.hid hl;clear hl;have HeA := Lib.hid eA;clear eA;have k218 := (hE.h6).cell 7
    go_upto_region 11 with (fail)
    clear k218;clear t1;replace hE := hE.drew;refine wp_region_held_drew (S := fun V => Blk 36 (w.heap.size + 1) x.C V ∧ RdI x.A x.n x.l V) (by kernel_rfl) (⟨hE.h6, hE.h2⟩) (fun hHeld => ?_)
    generalize wr.drew = wd at *
    refine tk 0 ?_;refine tk 2 ?_
    refine tk 3 ?_ (hy := by
     intro w hSw;have kc : World.cell? _ _ = some (.slice x.A x.n x.c) := (hSw.1).cell 7;rw [HeA.out] at kc;clear hSw
     first | (go_simp; done) | (go_simp; with_reducible rfl))
    try simp only [PL]
    refine tk 4 ?_;refine tk 5 ?_
    refine tk 6 ?_ (hy := by
     intro w hSw;obtain ⟨b2, o2, e2, hat⟩ := hSw.2 k hlt;rw [HeA.out] at e2
     cases e2
     have kc := hat.2;rw [← Hhl.out] at kc;clear hSw
     first | (go_simp; done) | (go_simp; with_reducible rfl))
    try simp only [PL]
    refine tk 7 ?_;refine wpAnyH_ready (rs := [1, 8]) (by kernel_rfl) (by simp) (AllReadyH.cons rfl (fun K hK => ?_) (AllReadyH.cons rfl (fun K hK => ?_) (AllReadyH.nil)))
    ·
     have k219 := (hE.h3).cell 0;have k220 := (hE.h3).cell 1;have k221 := (hE.h3).cell 2;have k222 := (hE.h3).cell 3;have k223 := (hE.h3).cell 4;have k224 := (hE.h3).cell 5;have k225 := (hE.h3).cell 6;have k226 := (hE.h3).cell 7;have k227 := (hE.h3).cell 8;go_simp;clear k219 k220 k221 k222 k223 k224 k225 k226 k227;refine hK.out _ _ (⟨hE.h6, hE.h2⟩) (fun hHeld => ?_);clear hK K;try simp only [PL]
     refine r1 8 (fun K hK => ?_);go_simp
     obtain ⟨g228, hg228⟩ : ∃ g228, g228 = wd.heap.size := ⟨_, rfl⟩
     have hl228_0 : w.heap.size < g228 := by rw [hg228]; exact (hE.h7).lt
     have hl228_1 : w.heap.size + 1 < g228 := by rw [hg228]; exact (hE.h6).lt
     have hl228_2 : G3 < g228 := by rw [hg228]; exact (hE.h5).lt
     have hl228_3 : G4 < g228 := by rw [hg228]; exact (hE.h4).lt
     have hl228_4 : G5 < g228 := by rw [hg228]; exact (hE.h3).lt
     replace hE := hE.blk 3 #[.int .i64 (2 * l)] (g := g228) hg228.symm;generalize wd.alloc (.cells #[.int .i64 (2 * l)] 3) = W228 at hE ⊢;rw [← hg228];clear hg228;refine hK.out _ _ (⟨hE.h7, hE.h3⟩) (fun hHeld => ?_);clear hK K;try simp only [PL]
     refine r1 9 (fun K hK => ?_);obtain ⟨v2, wz, hr, hR2, hgw⟩ := push_int 34 (hE.here.1.2) hE.bel.size (x := 2 * l) (by show 2 * l = 2 * x.l k; rw [Hhl.out]) (hE.here.2) (by omega);obtain ⟨A9, c9, rfl, -⟩ := hR2.rdI;refine Eq.mpr (if_pos (by rfl)) ?_;refine app_step rfl rfl rfl hr ?_;clear hr;replace hE := (((((((((Env.again (Go.Proofs.YtclbiihcbfnjmaaGreat.Below.grownR hE.bel (hE.here.1.2) hgw (Nat.le_refl _) hE.bel.size)).blkI (Blk.grownR (hE.h8) (hE.here.1.2) hgw (by decide))).blkI (Blk.grownR (hE.h7) (hE.here.1.2) hgw (by decide))).blkI (Blk.grownR (hE.h6) (hE.here.1.2) hgw (by decide))).blkI (Blk.grownR (hE.h5) (hE.here.1.2) hgw (by decide))).blkI (Blk.grownR (hE.h4) (hE.here.1.2) hgw (by decide))).rdi (Ct.rd_below Hhx.out (Go.Proofs.YtclbiihcbfnjmaaGreat.Below.grownR hE.bel (hE.here.1.2) hgw (Nat.le_refl _) hE.bel.size)).2.1).rdi (Ct.rd_below Hhx.out (Go.Proofs.YtclbiihcbfnjmaaGreat.Below.grownR hE.bel (hE.here.1.2) hgw (Nat.le_refl _) hE.bel.size)).2.2).rwv hR2);clear hR2 hgw;refine hK.out _ _ (⟨hE.h6, hE.h2⟩) (fun hHeld => ?_);clear hK K;try simp only [PL]
     refine tk 10 ?_;refine r1 11 (fun K hK => ?_)
     have hgl229 : w.heap.size ≤ G5 := by omega
     have hgr229 := (sets_grown [.slice A9 (k + 1) c9] 7 wz ⟨_, hE.h3, rfl⟩).1;change wz.grownBy (wz.setCell ⟨G5, 7, none⟩ (.slice A9 (k + 1) c9)) _ at hgr229;have x229_0 := (hE.h3).cell 7;have f229_0 := (hE.h3).frozen 7;replace hE := (((((((((Env.again (Go.Proofs.YtclbiihcbfnjmaaGreat.Below.grownB hE.bel hgr229 hE.bel.size hgl229)).blkI (Blk.grownB (hE.h7) hgr229 (by omega))).blkI (Blk.grownB (hE.h6) hgr229 (by omega))).blkI (Blk.grownB (hE.h5) hgr229 (by omega))).blkI (Blk.grownB (hE.h4) hgr229 (by omega))).blkI (show Blk 36 G5 #[.int .i64 x.E, .int .i64 x.Y, .int .i64 x.T, .bool x.p.s, .slice x.p.A x.p.n x.p.c, .bool x.p.t, .slice x.p.B x.p.m x.p.d, .slice A9 (k + 1) c9, .slice none 0 0] _ by simpa using ((hE.h3).set_ 7 (.slice A9 (k + 1) c9)))).rdi (Ct.rd_below Hhx.out (Go.Proofs.YtclbiihcbfnjmaaGreat.Below.grownB hE.bel hgr229 hE.bel.size hgl229)).2.1).rdi (Ct.rd_below Hhx.out (Go.Proofs.YtclbiihcbfnjmaaGreat.Below.grownB hE.bel hgr229 hE.bel.size hgl229)).2.2).rwv ((hE.here.2).far (hE.h3) (by decide) hgr229));go_simp;clear x229_0 f229_0 hgl229 hgr229;generalize (wz.setCell ⟨G5, 7, none⟩ (.slice A9 (k + 1) c9)) = V229 at hE ⊢;refine hK.out _ _ (⟨hE.h6, hE.h2⟩) (fun hHeld => ?_);clear hK K;try simp only [PL]
     refine wpAnyH_done (by kernel_rfl) ?_ _;go_wp2_with fail
     go_roundw
     case rel => exact ⟨k + 1, A9, c9, by omega, by go_num, (((((((((Env.again hE.bel).blkI (hE.h7)).blkI (hE.h6)).blkI (hE.h5)).blkI (hE.h4)).blkI (hE.h3)).rdi (hE.h2)).rdi (hE.here.1.2)).rwv (hE.here.2))⟩
     case measure => simp [intOf]; omega
    ·
     go_simp
     obtain ⟨g230, hg230⟩ : ∃ g230, g230 = wd.heap.size := ⟨_, rfl⟩
     have hl230_0 : w.heap.size < g230 := by rw [hg230]; exact (hE.h7).lt
     have hl230_1 : w.heap.size + 1 < g230 := by rw [hg230]; exact (hE.h6).lt
     have hl230_2 : G3 < g230 := by rw [hg230]; exact (hE.h5).lt
     have hl230_3 : G4 < g230 := by rw [hg230]; exact (hE.h4).lt
     have hl230_4 : G5 < g230 := by rw [hg230]; exact (hE.h3).lt
     replace hE := hE.blk 3 #[.int .i64 (2 * l)] (g := g230) hg230.symm;generalize wd.alloc (.cells #[.int .i64 (2 * l)] 3) = W230 at hE ⊢;rw [← hg230];clear hg230;refine hK.out _ _ (⟨hE.h7, hE.h3⟩) (fun hHeld => ?_);clear hK K;try simp only [PL]
     refine r1 1 (fun K hK => ?_);have k231 := (hE.h4).cell 0;have k232 := (hE.h4).cell 1;have k233 := (hE.h4).cell 2;have k234 := (hE.h4).cell 3;have k235 := (hE.h4).cell 4;have k236 := (hE.h4).cell 5;have k237 := (hE.h4).cell 6;have k238 := (hE.h4).cell 7;have k239 := (hE.h4).cell 8;go_simp;clear k231 k232 k233 k234 k235 k236 k237 k238 k239;refine hK.out _ _ (⟨hE.h7, hE.h3⟩) (fun hHeld => ?_);clear hK K;try simp only [PL]
     refine r1 9 (fun K hK => ?_);obtain ⟨v2, wz, hr, hR2, hgw⟩ := push_int 34 (hE.here.1.2) hE.bel.size (x := 2 * l) (by show 2 * l = 2 * x.l k; rw [Hhl.out]) (hE.here.2) (by omega);obtain ⟨A9, c9, rfl, -⟩ := hR2.rdI;refine Eq.mpr (if_pos (by rfl)) ?_;refine app_step rfl rfl rfl hr ?_;clear hr;replace hE := (((((((((Env.again (Go.Proofs.YtclbiihcbfnjmaaGreat.Below.grownR hE.bel (hE.here.1.2) hgw (Nat.le_refl _) hE.bel.size)).blkI (Blk.grownR (hE.h8) (hE.here.1.2) hgw (by decide))).blkI (Blk.grownR (hE.h7) (hE.here.1.2) hgw (by decide))).blkI (Blk.grownR (hE.h6) (hE.here.1.2) hgw (by decide))).blkI (Blk.grownR (hE.h5) (hE.here.1.2) hgw (by decide))).blkI (Blk.grownR (hE.h4) (hE.here.1.2) hgw (by decide))).rdi (Ct.rd_below Hhx.out (Go.Proofs.YtclbiihcbfnjmaaGreat.Below.grownR hE.bel (hE.here.1.2) hgw (Nat.le_refl _) hE.bel.size)).2.1).rdi (Ct.rd_below Hhx.out (Go.Proofs.YtclbiihcbfnjmaaGreat.Below.grownR hE.bel (hE.here.1.2) hgw (Nat.le_refl _) hE.bel.size)).2.2).rwv hR2);clear hR2 hgw;refine hK.out _ _ (⟨hE.h6, hE.h2⟩) (fun hHeld => ?_);clear hK K;try simp only [PL]
     refine tk 10 ?_;refine r1 11 (fun K hK => ?_)
     have hgl240 : w.heap.size ≤ G5 := by omega
     have hgr240 := (sets_grown [.slice A9 (k + 1) c9] 7 wz ⟨_, hE.h3, rfl⟩).1;change wz.grownBy (wz.setCell ⟨G5, 7, none⟩ (.slice A9 (k + 1) c9)) _ at hgr240;have x240_0 := (hE.h3).cell 7;have f240_0 := (hE.h3).frozen 7;replace hE := (((((((((Env.again (Go.Proofs.YtclbiihcbfnjmaaGreat.Below.grownB hE.bel hgr240 hE.bel.size hgl240)).blkI (Blk.grownB (hE.h7) hgr240 (by omega))).blkI (Blk.grownB (hE.h6) hgr240 (by omega))).blkI (Blk.grownB (hE.h5) hgr240 (by omega))).blkI (Blk.grownB (hE.h4) hgr240 (by omega))).blkI (show Blk 36 G5 #[.int .i64 x.E, .int .i64 x.Y, .int .i64 x.T, .bool x.p.s, .slice x.p.A x.p.n x.p.c, .bool x.p.t, .slice x.p.B x.p.m x.p.d, .slice A9 (k + 1) c9, .slice none 0 0] _ by simpa using ((hE.h3).set_ 7 (.slice A9 (k + 1) c9)))).rdi (Ct.rd_below Hhx.out (Go.Proofs.YtclbiihcbfnjmaaGreat.Below.grownB hE.bel hgr240 hE.bel.size hgl240)).2.1).rdi (Ct.rd_below Hhx.out (Go.Proofs.YtclbiihcbfnjmaaGreat.Below.grownB hE.bel hgr240 hE.bel.size hgl240)).2.2).rwv ((hE.here.2).far (hE.h3) (by decide) hgr240));go_simp;clear x240_0 f240_0 hgl240 hgr240;generalize (wz.setCell ⟨G5, 7, none⟩ (.slice A9 (k + 1) c9)) = V240 at hE ⊢;refine hK.out _ _ (⟨hE.h6, hE.h2⟩) (fun hHeld => ?_);clear hK K;try simp only [PL]
     refine wpAnyH_done (by kernel_rfl) ?_ _;go_wp2_with fail
     go_roundw
     case rel => exact ⟨k + 1, A9, c9, by omega, by go_num, (((((((((Env.again hE.bel).blkI (hE.h7)).blkI (hE.h6)).blkI (hE.h5)).blkI (hE.h4)).blkI (hE.h3)).rdi (hE.h2)).rdi (hE.here.1.2)).rwv (hE.here.2))⟩
     case measure => simp [intOf]; omega
 ·
  have Hhb := Lib.hid hb;clear hb;have Hhx := Lib.hid hx;clear hx;have HhU := Lib.hid hU;clear hU;have hE := ((Env.start w).blk 31 b.C (g := w.heap.size) rfl).blk 36 x.C (g := w.heap.size + 1) (by simp)
  obtain ⟨W0, hW0⟩ : ∃ W0, W0 = ((w.alloc (.cells b.C 31)).alloc (.cells x.C 36)) := ⟨_, rfl⟩
  rw [← hW0] at hE;have HW0 := Lib.hid hW0;clear hW0
  go_enter Tryz.func6, Tryz.ntmps6
  go_upto_region 1 with (fail)
  rw [← HW0.out];go_wp2_with fail
  refine hE.br (awakeP_t _) ?_;clear hE;intro w1 hE;obtain ⟨k2, k3, k4, k5, k6, k7, k8⟩ := (hE.here.1.2).c7;have k9 := (hE.here.2).cell 0;have k10 := (hE.here.2).cell 1;have k11 := (hE.here.2).cell 2;have k12 := (hE.here.2).cell 3;have k13 := (hE.here.2).cell 4;have k14 := (hE.here.2).cell 5;have k15 := (hE.here.2).cell 6;have k16 := (hE.here.2).cell 7;have k17 := (hE.here.2).cell 8;go_wp2_with fail
  refine hE.br (pusable_f (Bh.rd_below Hhb.out hE.bel) (Ct.rd_below Hhx.out hE.bel) hT HhU.out) ?_;clear hE k2 k3 k4 k5 k6 k7 k8 k9 k10 k11 k12 k13 k14 k15 k16 k17;intro w18 hE;go_wp2_with fail
  go_ret
  exact ⟨rfl, hE.bel⟩
end Go.Proofs.YtclbiihcbfnjmaaGreat
