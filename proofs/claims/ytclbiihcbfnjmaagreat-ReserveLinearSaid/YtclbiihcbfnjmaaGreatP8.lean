/-
  Parts.
-/
import Derived.Test.YtclbiihcbfnjmaaGreatK2
import Derived.Test.YtclbiihcbfnjmaaGreatK8
import Derived.Test.YtclbiihcbfnjmaaGreatK23
import Derived.Test.YtclbiihcbfnjmaaGreatK24
set_option linter.unusedSimpArgs false
set_option maxRecDepth 100000
set_option maxHeartbeats 8000000
namespace Go.Proofs.YtclbiihcbfnjmaaGreat
open Go.RowKit

theorem sf_first (g : Nat → Rat) {N k : Nat} (h : k < N) : sf g N k = g k + sf g N (k + 1) := by
 have := sf_step g h
 grind
theorem vvalues_v {x : Ct} {G N cap : Nat} {h : Nat → Nat → Q8} {v : Rat} {f L U : Nat → Rat} {p1 p2 : Value} {w : World} (hC : ColB G N cap h w) (hQ : ColQ h N (fun _ _ => True) (colq v f N) w) (hN : Cnt v f N) (h80 : N ≤ 80) (hp1 : PayC p1 L N w) (hp2 : PayC p2 U N w) (hl : VlOK v f L U N) :
  Calls Tryz.prog 52 #[.agg (x.Q G N cap), p1, p2] w (fun e w' => ∃ GV hh, e = .returned (.slice (some ⟨GV, 0, none⟩) N N) ∧ FrB GV N 0 hh w' ∧ FrQ hh N 0 (va v f N L U) w' ∧ Below w.heap.size w w') := by
 obtain ⟨f1, c1, rfl, eg1, hc1⟩ := hp1;obtain ⟨f2, c2, rfl, eg2, hc2⟩ := hp2;have hp1 : PayC (.func (.func f1) #[] c1) L N w := ⟨f1, c1, rfl, eg1, hc1⟩;have hp2 : PayC (.func (.func f2) #[] c2) U N w := ⟨f2, c2, rfl, eg2, hc2⟩;clear eg1 eg2 hc1 hc2;have Hhp1 := Lib.hid hp1;clear hp1;have Hhp2 := Lib.hid hp2;clear hp2;have HhC := Lib.hid hC;clear hC;have HhQ := Lib.hid hQ;clear hQ;have Hhl := Lib.hid hl;clear hl;have HhN := Lib.hid hN;clear hN;have hE := (Env.start w).blk 80 (x.Q G N cap) (g := w.heap.size) rfl
 obtain ⟨W0, hW0⟩ : ∃ W0, W0 = (w.alloc (.cells (x.Q G N cap) 80)) := ⟨_, rfl⟩
 rw [← hW0] at hE;have HW0 := Lib.hid hW0;clear hW0
 go_enter Tryz.func52, Tryz.ntmps52
 go_upto_region 1 with (fail)
 rw [← HW0.out];have k1 := (hE.here.2).cell 9;have hmk := make_frs N (by omega);go_wp2_with fail
 clear k1;clear hmk;have hfb := frb_make N (fun _ => Q8.z) W0;have hbm := belAlloc W0 (.cells (frz N) 29);have hlm := (hE.here.2).lt
 obtain ⟨GV, hGV⟩ : ∃ g, g = W0.heap.size := ⟨_, rfl⟩
 rw [← hGV] at hfb hlm ⊢
 have hszm : (W0.alloc (.cells (frz N) 29)).heap.size = GV + 1 := by rw [World.size_alloc, hGV]
 replace hE := (hE.step hbm);replace hE := hE.frb hfb;have hGw : G < w.heap.size := ColP.lt HhC.out
 generalize W0.alloc (.cells (frz N) 29) = Wm at *
 clear hGV hbm hfb;refine hE.fr (ffromInt_v 0 _ (by decide) (by decide)) ?_;clear hE;intro sz Az nz cz tz Bz mz dz w2 hE
 go_upto_region 3 with (fail)
 obtain ⟨g3, hg3⟩ : ∃ g3, g3 = w2.heap.size := ⟨_, rfl⟩
 have hl3_0 : w.heap.size < g3 := by rw [hg3]; exact (hE.h2).lt
 have hl3_1 : GV < g3 := by rw [hg3]; exact FrB.lt (hE.here.1.2)
 replace hE := hE.blk 29 (qf4 sz Az nz cz tz Bz mz dz) (g := g3) hg3.symm;generalize w2.alloc (.cells (qf4 sz Az nz cz tz Bz mz dz) 29) = W3 at hE ⊢;rw [← hg3];clear hg3;have k4 := (hE.h3).cell 9
 have o0 : IntKind.i64.wrap ((N : Int) - 1) = (N : Int) - 1 := by rw [IntKind.wrap_i64]; omega
 go_wp2_with fail
 clear k4;clear o0
 go_loopw [9] (fun p wr => ∃ (j : Nat) (hh : Nat → Q8) (sz : Bool) (Az : Option Addr) (nz cz : Nat) (tz : Bool) (Bz : Option Addr) (mz dz : Nat), j ≤ N ∧ p = .int .i64 ((j : Int) - 1) ∧ Env w (fun V => (((((True ∧ Blk 80 (w.heap.size) (x.Q G N cap) V) ∧ FrB GV N j hh V) ∧ FrQ hh N j (va v f N L U) V) ∧ FV V (sf (yr v f L U) N j) sz Az nz tz Bz mz) ∧ Blk 29 (g3) (qf4 sz Az nz cz tz Bz mz dz) V)) wr) (fun p _ => (intOf p + 1).toNat)
 case atStart =>
  refine ⟨N, fun _ => Q8.z, sz, Az, nz, cz, tz, Bz, mz, dz, Nat.le_refl _, rfl, ?_⟩;rw [sf_end _ (Nat.le_refl N)];exact ((((((Env.again hE.bel).blkI (hE.h3)).frb (hE.h2)).frq ((fun k h0 hk => absurd hk (by omega)))).fv (hE.here.1.2)).blkI (hE.here.2))
 case round =>
  clear hE;obtain ⟨j, hh, sz, Az, nz, cz, tz, Bz, mz, dz, hjN, rfl, hE⟩ := hrel
  cases j with
  | zero =>
   rw [show (((0 : Nat) : Int) - 1) = -1 from rfl];go_wp2_with fail
   go_ret
   exact ⟨GV, hh, rfl, hE.h3, hE.h2, hE.bel⟩
  | succ k =>
   rw [show ((k + 1 : Nat) : Int) - 1 = (k : Int) by omega];have hkN : k < N := hjN;have t1 : decide ((0 : Int) ≤ (k : Int)) = true := decide_eq_true (by omega)
   have t2 : (0 : Int) ≤ (k : Int) := by omega
   have t3 : (k : Int) < (N : Int) := by omega
   have k5 := (hE.h4).cell 9
   go_upto_region 6 with (fail)
   clear k5;clear t1;replace hE := hE.colp (ColP.below HhC.out hE.bel);have hS2 : yr v f L U k + sf (yr v f L U) N (k + 1) = sf (yr v f L U) N k := (sf_first (yr v f L U) hkN).symm;have HS2 := Lib.hid hS2;clear hS2
   go_cut [8] from 23 to 34 (fun p wx => ∃ su Au nu cu tu Bu mu du, p = .pointer (some ⟨g3, 0, none⟩) ∧ Env w (fun V => ((((((True ∧ Blk 80 (w.heap.size) (x.Q G N cap) V) ∧ FrB GV N (k + 1) hh V) ∧ FrQ hh N (k + 1) (va v f N L U) V) ∧ FV V (sf (yr v f L U) N k) su Au nu tu Bu mu) ∧ Blk 29 (g3) (qf4 su Au nu cu tu Bu mu du) V) ∧ ColB G N cap h V)) wx)
   case first =>
    replace hE := hE.drew;refine wp_region_held_drew (S := fun V => Blk 80 (w.heap.size) (x.Q G N cap) V ∧ ColB G N cap h V) (by kernel_rfl) (⟨hE.h5, hE.here.2⟩) (fun hHeld => ?_)
    generalize wr.drew = wd at *
    refine tk 0 ?_;refine tk 1 ?_
    refine tk 2 ?_ (hy := by
     intro w hSw;have kc9 := (hSw.1).cell 9;clear hSw
     first | (go_simp; done) | (go_simp; with_reducible rfl))
    try simp only [PL]
    refine tk 3 ?_;refine tk 4 ?_;refine wpAnyH_take (i := 5) (v := .agg (cols1 (h k)).toArray) rfl (by kernel_rfl) (by kernel_rfl) (by kernel_rfl) (fun _ _ _ h => h) (Or.inl ⟨by rfl, ?hy1_5_6⟩) (by assumption) ?rest1_5_6
    case hy1_5_6 =>
     intro w hSw;exact ld_exec (p := .pointer (some ⟨G, k * 24, none⟩)) (col_load (hSw.2) hkN) rfl rfl
    try simp only [PL]
    refine tk 6 ?_;refine tk 7 ?_;refine wpAnyH_ready (rs := [8, 9]) (by kernel_rfl) (by simp) (AllReadyH.cons rfl (fun K hK => ?_) (AllReadyH.cons rfl (fun K hK => ?_) (AllReadyH.nil)))
    ·
     go_simp;have hc := vyear_v (x := h k) (q0 := dd v f k) (q3 := cc v f k) (ColQ.stable _ _ _ _ _ _ hE.bel HhQ.out k hkN 0 (by decide) trivial) (ColQ.stable _ _ _ _ _ _ hE.bel HhQ.out k hkN 3 (by decide) trivial) (Hhp1.out.below hE.bel) (Hhp2.out.below hE.bel) k (Nat.le_of_lt hkN) (Hhl.out.l k hkN) (Hhl.out.k k hkN) (Hhl.out.d k hkN) (Hhl.out.c k hkN) (Hhl.out.ld k hkN) (Hhl.out.kc k hkN) (Hhl.out.y k hkN);change Calls _ _ _ _ (FR (yr v f L U k) _) at hc;refine hE.fr (hc) ?_;clear hE;intro sy Ay ny cy ty By my dy w6 hE;clear hc;go_wp2_with fail
     refine hK.out _ _ (⟨hE.h6, hE.here.1.2⟩) (fun hHeld => ?_);clear hK K;try simp only [PL]
     refine r1 9 (fun K hK => ?_);obtain ⟨k7, k8, k9, k10⟩ := (hE.h2).c4;go_simp;clear k7 k8 k9 k10;refine hK.out _ _ (⟨hE.h6, hE.here.1.2⟩) (fun hHeld => ?_);clear hK K;try simp only [PL]
     refine r1 10 (fun K hK => ?_);go_simp;have hc := vplus_v (ca := cy) (da := dy) (cb := cz) (db := dz) hE.here.2 hE.h3 (Hhl.out.y k hkN) (Hhl.out.s (k + 1) N (Nat.le_refl _)) (by rw [HS2.out]; exact Hhl.out.s k N (Nat.le_refl _));rw [HS2.out] at hc;refine hE.fr (hc) ?_;clear hE;intro su Au nu cu tu Bu mu du w11 hE;clear hc;go_wp2_with fail
     refine hK.out _ _ (⟨hE.h7, hE.h2⟩) (fun hHeld => ?_);clear hK K;try simp only [PL]
     refine r1 11 (fun K hK => ?_)
     have hgl12 : w.heap.size ≤ g3 := by omega
     obtain ⟨x12_0, x12_1, x12_2, x12_3⟩ := (hE.h3).c4;obtain ⟨f12_0, f12_1, f12_2, f12_3⟩ := hE.h3.f4;replace hE := (((((((((Env.again (bel4 hE.bel hgl12 (.bool su) (.slice Au nu cu) (.bool tu) (.slice Bu mu du))).blkI ((hE.h7).far4 (by omega) _ _ _ _)).frb (FrB.st4 (hE.h6) (hE.h3) (by omega) _ _ _ _)).frq (FrQ.st4 (hE.h5) (hE.h3) rfl _ _ _ _)).fv ((hE.h4).sep4 hE.h3 rfl _ _ _ _ rfl rfl rfl)).blkI ((hE.h3).s4 _ _ _ _)).colp (ColP.below HhC.out (bel4 hE.bel (by omega) _ _ _ _))).fv ((hE.here.1.2).sep4 hE.h3 rfl _ _ _ _ rfl rfl rfl)).fv ((hE.here.2).sep4 hE.h3 rfl _ _ _ _ rfl rfl rfl));go_simp;clear x12_0 x12_1 x12_2 x12_3 f12_0 f12_1 f12_2 f12_3 hgl12;generalize ((((w11.setCell ⟨g3, 0, none⟩ (.bool su)).setCell ⟨g3, 1, none⟩ (.slice Au nu cu)).setCell ⟨g3, 2, none⟩ (.bool tu)).setCell ⟨g3, 3, none⟩ (.slice Bu mu du)) = W12 at hE ⊢;refine hK.out _ _ (⟨hE.h7, hE.h2⟩) (fun hHeld => ?_);clear hK K;try simp only [PL]
     refine wpAnyH_done (by kernel_rfl) ?_ _;go_wp2_with fail
     go_meet
     exact ⟨su, Au, nu, cu, tu, Bu, mu, du, rfl, (((((((Env.again hE.bel).blkI (hE.h7)).frb (hE.h6)).frq (hE.h5)).fv (hE.here.2)).blkI (hE.h3)).colp (hE.h2))⟩
    ·
     obtain ⟨k13, k14, k15, k16⟩ := (hE.here.1.2).c4;go_simp;clear k13 k14 k15 k16;refine hK.out _ _ (⟨hE.h5, hE.here.2⟩) (fun hHeld => ?_);clear hK K;try simp only [PL]
     refine r1 8 (fun K hK => ?_);go_simp;have hc := vyear_v (x := h k) (q0 := dd v f k) (q3 := cc v f k) (ColQ.stable _ _ _ _ _ _ hE.bel HhQ.out k hkN 0 (by decide) trivial) (ColQ.stable _ _ _ _ _ _ hE.bel HhQ.out k hkN 3 (by decide) trivial) (Hhp1.out.below hE.bel) (Hhp2.out.below hE.bel) k (Nat.le_of_lt hkN) (Hhl.out.l k hkN) (Hhl.out.k k hkN) (Hhl.out.d k hkN) (Hhl.out.c k hkN) (Hhl.out.ld k hkN) (Hhl.out.kc k hkN) (Hhl.out.y k hkN);change Calls _ _ _ _ (FR (yr v f L U k) _) at hc;refine hE.fr (hc) ?_;clear hE;intro sy Ay ny cy ty By my dy w17 hE;clear hc;go_wp2_with fail
     refine hK.out _ _ (⟨hE.h6, hE.here.1.2⟩) (fun hHeld => ?_);clear hK K;try simp only [PL]
     refine r1 10 (fun K hK => ?_);go_simp;have hc := vplus_v (ca := cy) (da := dy) (cb := cz) (db := dz) hE.here.2 hE.h3 (Hhl.out.y k hkN) (Hhl.out.s (k + 1) N (Nat.le_refl _)) (by rw [HS2.out]; exact Hhl.out.s k N (Nat.le_refl _));rw [HS2.out] at hc;refine hE.fr (hc) ?_;clear hE;intro su Au nu cu tu Bu mu du w18 hE;clear hc;go_wp2_with fail
     refine hK.out _ _ (⟨hE.h7, hE.h2⟩) (fun hHeld => ?_);clear hK K;try simp only [PL]
     refine r1 11 (fun K hK => ?_)
     have hgl19 : w.heap.size ≤ g3 := by omega
     obtain ⟨x19_0, x19_1, x19_2, x19_3⟩ := (hE.h3).c4;obtain ⟨f19_0, f19_1, f19_2, f19_3⟩ := hE.h3.f4;replace hE := (((((((((Env.again (bel4 hE.bel hgl19 (.bool su) (.slice Au nu cu) (.bool tu) (.slice Bu mu du))).blkI ((hE.h7).far4 (by omega) _ _ _ _)).frb (FrB.st4 (hE.h6) (hE.h3) (by omega) _ _ _ _)).frq (FrQ.st4 (hE.h5) (hE.h3) rfl _ _ _ _)).fv ((hE.h4).sep4 hE.h3 rfl _ _ _ _ rfl rfl rfl)).blkI ((hE.h3).s4 _ _ _ _)).colp (ColP.below HhC.out (bel4 hE.bel (by omega) _ _ _ _))).fv ((hE.here.1.2).sep4 hE.h3 rfl _ _ _ _ rfl rfl rfl)).fv ((hE.here.2).sep4 hE.h3 rfl _ _ _ _ rfl rfl rfl));go_simp;clear x19_0 x19_1 x19_2 x19_3 f19_0 f19_1 f19_2 f19_3 hgl19;generalize ((((w18.setCell ⟨g3, 0, none⟩ (.bool su)).setCell ⟨g3, 1, none⟩ (.slice Au nu cu)).setCell ⟨g3, 2, none⟩ (.bool tu)).setCell ⟨g3, 3, none⟩ (.slice Bu mu du)) = W19 at hE ⊢;refine hK.out _ _ (⟨hE.h7, hE.h2⟩) (fun hHeld => ?_);clear hK K;try simp only [PL]
     refine wpAnyH_done (by kernel_rfl) ?_ _;go_wp2_with fail
     go_meet
     exact ⟨su, Au, nu, cu, tu, Bu, mu, du, rfl, (((((((Env.again hE.bel).blkI (hE.h7)).frb (hE.h6)).frq (hE.h5)).fv (hE.here.2)).blkI (hE.h3)).colp (hE.h2))⟩
   case rest =>
   clear hE;obtain ⟨su, Au, nu, cu, tu, Bu, mu, du, rfl, hE⟩ := hcut;generalize wc = wk6 at hE ⊢
   go_upto_region 7 with (fail)
   replace hE := hE.fv (show FV wk6 (dd v f k) (h k 0).s (h k 0).A (h k 0).n (h k 0).t (h k 0).B (h k 0).m from (ColQ.stable _ _ _ _ _ _ hE.bel HhQ.out k hkN 0 (by decide) trivial));replace hE := hE.atI (b := G) (o := k * 24) (v := .bool (h k 0).s) ⟨ColP.lt (ColP.below HhC.out hE.bel), ColB.at2 (ColP.below HhC.out hE.bel) (j := 0) (i := 0) hkN (by decide) (by decide) (by omega) rfl⟩;replace hE := hE.atI (b := G) (o := k * 24 + 1) (v := .slice (h k 0).A (h k 0).n (h k 0).c) ⟨ColP.lt (ColP.below HhC.out hE.bel), ColB.at2 (ColP.below HhC.out hE.bel) (j := 0) (i := 1) hkN (by decide) (by decide) (by omega) rfl⟩;replace hE := hE.atI (b := G) (o := k * 24 + 2) (v := .bool (h k 0).t) ⟨ColP.lt (ColP.below HhC.out hE.bel), ColB.at2 (ColP.below HhC.out hE.bel) (j := 0) (i := 2) hkN (by decide) (by decide) (by omega) rfl⟩;replace hE := hE.atI (b := G) (o := k * 24 + 3) (v := .slice (h k 0).B (h k 0).m (h k 0).d) ⟨ColP.lt (ColP.below HhC.out hE.bel), ColB.at2 (ColP.below HhC.out hE.bel) (j := 0) (i := 3) hkN (by decide) (by decide) (by omega) rfl⟩;replace hE := hE.drew;refine wp_region_held_drew (S := fun V => Blk 80 (w.heap.size) (x.Q G N cap) V ∧ Blk 29 (g3) (qf4 su Au nu cu tu Bu mu du) V ∧ At G (k * 24) (.bool (h k 0).s) V ∧ At G (k * 24 + 1) (.slice (h k 0).A (h k 0).n (h k 0).c) V ∧ At G (k * 24 + 2) (.bool (h k 0).t) V ∧ At G (k * 24 + 3) (.slice (h k 0).B (h k 0).m (h k 0).d) V) (by kernel_rfl) (⟨hE.h10, hE.h6, hE.h3, hE.h2, hE.here.1.2, hE.here.2⟩) (fun hHeld => ?_)
   generalize wk6.drew = wd at *
   refine tk 0 ?_;refine tk 1 ?_
   refine tk 2 ?_ (hy := by
    intro w hSw;have kc0 := (hSw.2.1).cell 0;have kc1 := (hSw.2.1).cell 1;have kc2 := (hSw.2.1).cell 2;have kc3 := (hSw.2.1).cell 3;clear hSw
    first | (go_simp; done) | (go_simp; with_reducible rfl))
   try simp only [PL]
   refine tk 3 ?_
   refine tk 4 ?_ (hy := by
    intro w hSw;have kc9 := (hSw.1).cell 9;clear hSw
    first | (go_simp; done) | (go_simp; with_reducible rfl))
   try simp only [PL]
   refine tk 5 ?_;refine tk 6 ?_;refine tk 7 ?_
   refine tk 8 ?_ (hy := by
    intro w hSw;have kc0 := (hSw.2.2.1).2;have kc1 := (hSw.2.2.2.1).2;have kc2 := (hSw.2.2.2.2.1).2;have kc3 := (hSw.2.2.2.2.2).2;clear hSw
    first | (go_simp; done) | (go_simp; with_reducible rfl))
   try simp only [PL]
   refine r1 9 (fun K hK => ?_);go_simp;have hc := vover_v (ca := cu) (da := du) (cb := (h k 0).c) (db := (h k 0).d) hE.h7 hE.h4 (Hhl.out.s k N (Nat.le_refl _)) (Hhl.out.d k hkN) (fun e => HhN.out.2 k hkN (Rat.num_eq_zero.1 e)) (Hhl.out.a k);change Calls _ _ _ _ (FR (va v f N L U k) _) at hc;refine hE.fr (hc) ?_;clear hE;intro sr Ar nr cr tr Br mr dr w20 hE;clear hc;go_wp2_with fail
   refine hK.out _ _ (⟨hE.h11, hE.h7, hE.h4, hE.h3, hE.h2, hE.here.1.2⟩) (fun hHeld => ?_);clear hK K;try simp only [PL]
   refine tk 10 ?_;refine r1 11 (fun K hK => ?_);obtain ⟨hF2, hgr⟩ := FrB.put (hE.h10) hkN ⟨sr, Ar, nr, cr, tr, Br, mr, dr⟩;obtain ⟨csv, hBv, hnv⟩ := FrB.blk (hE.h10);obtain ⟨v0, xv0⟩ := FrB.any (o := k * 4) (hE.h10) hkN (show 0 < 4 by decide) (by omega);have fv0 := FrB.frozen (hE.h10) (k * 4);obtain ⟨v1, xv1⟩ := FrB.any (o := k * 4 + 1) (hE.h10) hkN (show 1 < 4 by decide) (by omega);have fv1 := FrB.frozen (hE.h10) (k * 4 + 1);obtain ⟨v2, xv2⟩ := FrB.any (o := k * 4 + 2) (hE.h10) hkN (show 2 < 4 by decide) (by omega);have fv2 := FrB.frozen (hE.h10) (k * 4 + 2);obtain ⟨v3, xv3⟩ := FrB.any (o := k * 4 + 3) (hE.h10) hkN (show 3 < 4 by decide) (by omega);have fv3 := FrB.frozen (hE.h10) (k * 4 + 3);replace hE := (((((((((((((Env.again (Go.Proofs.YtclbiihcbfnjmaaGreat.Below.grownB hE.bel hgr hE.bel.size (Nat.le_of_lt hlm))).blkI (Blk.grownB (hE.h11) hgr (by omega))).frb hF2).frq (FrQ.put (FrQ.grownB (hE.h9) hBv hnv hgr) (show Q8.fv ⟨sr, Ar, nr, cr, tr, Br, mr, dr⟩ _ (va v f N L U k) from FV.grownB (hE.here.2) hBv hnv hgr))).fv (FV.grownB (hE.h8) hBv hnv hgr)).blkI (Blk.grownB (hE.h7) hgr (by omega))).colp (ColP.grownB (hE.h6) hBv (by decide) hgr)).fv (FV.grownB (hE.h5) hBv hnv hgr)).atI (At.grownB (hE.h4) hgr (by omega))).atI (At.grownB (hE.h3) hgr (by omega))).atI (At.grownB (hE.h2) hgr (by omega))).atI (At.grownB (hE.here.1.2) hgr (by omega))).fv (FV.grownB (hE.here.2) hBv hnv hgr));go_simp;have hs4 : (((w20.setCell ⟨GV, k * 4, none⟩ (.bool sr)).setCell ⟨GV, k * 4 + 1, none⟩ (.slice Ar nr cr)).setCell ⟨GV, k * 4 + 2, none⟩ (.bool tr)).setCell ⟨GV, k * 4 + 3, none⟩ (.slice Br mr dr) = set4 w20 GV (k * 4) ⟨sr, Ar, nr, cr, tr, Br, mr, dr⟩ := rfl;rw [hs4];clear hs4 hF2 hgr hBv hnv xv0 xv1 xv2 xv3 fv0 fv1 fv2 fv3;generalize set4 w20 GV (k * 4) ⟨sr, Ar, nr, cr, tr, Br, mr, dr⟩ = V4 at hE ⊢;refine hK.out _ _ (⟨hE.h11, hE.h7, hE.h4, hE.h3, hE.h2, hE.here.1.2⟩) (fun hHeld => ?_);clear hK K;try simp only [PL]
   refine wpAnyH_done (by kernel_rfl) ?_ _
   have o1 : IntKind.i64.wrap ((k : Int) - 1) = (k : Int) - 1 := by rw [IntKind.wrap_i64]; omega
   go_wp2_with fail
   go_roundw
   case rel => exact ⟨k, _, _, _, _, _, _, _, _, _, by omega, rfl, ((((((Env.again hE.bel).blkI (hE.h11)).frb (hE.h10)).frq (hE.h9)).fv (hE.h8)).blkI (hE.h7))⟩
   case measure => simp [intOf]
def ResR (b : Bh) (x : Ct) (N : Nat) (w : World) (e : Ending) (w' : World) : Prop := ∃ GV hh, e = .returned (.tuple #[.slice (some ⟨GV, 0, none⟩) N N, .int .i64 0]) ∧ FrB GV N 0 hh w' ∧ FrQ hh N 0 (b.val x N) w' ∧ Below w.heap.size w w'
theorem vreserves_v {b : Bh} {x : Ct} {w : World} (hb : b.rd w) (hbb : b.bd) (hx : x.rd w) (hxb : x.bd) (hok : x.ok b) (N : Nat) (hN : Cnt b.v (b.rt x.E x.Y) N) (h80 : N ≤ 80) :
  Calls Tryz.prog 16 #[.agg b.C, .agg x.C] w (ResR b x N w) := by
 have hp0 := Ct.prem hx hok;have hl3 := Ct.net_len hx hok;have hvl := Ct.vl hb hx hok hN h80
 have hlb : ∀ k, k < x.n → -9223372036854775808 ≤ x.l k ∧ x.l k ≤ 9223372036854775807 := fun k hk => by have := hok.2.2.2.2.1.2 k hk; omega
 have hkb : ∀ k, k < x.m → -9223372036854775808 ≤ x.k k ∧ x.k k ≤ 9223372036854775807 := fun k hk => by have := hok.2.2.2.2.2.2 k hk; omega
 obtain ⟨hpf, -⟩ := hp0;have hT := hok.2.2.1.1;have Hhb := Lib.hid hb;clear hb;have Hhbb := Lib.hid hbb;clear hbb;have Hhx := Lib.hid hx;clear hx;have Hhxb := Lib.hid hxb;clear hxb;have Hhok := Lib.hid hok;clear hok;have HhN := Lib.hid hN;clear hN;have Hhl3 := Lib.hid hl3;clear hl3;have Hhvl := Lib.hid hvl;clear hvl;have Hhlb := Lib.hid hlb;clear hlb;have Hhkb := Lib.hid hkb;clear hkb;have Hhpf := Lib.hid hpf;clear hpf;have HhT := Lib.hid hT;clear hT;have hE := ((Env.start w).blk 31 b.C (g := w.heap.size) rfl).blk 36 x.C (g := w.heap.size + 1) (by simp)
 obtain ⟨W0, hW0⟩ : ∃ W0, W0 = ((w.alloc (.cells b.C 31)).alloc (.cells x.C 36)) := ⟨_, rfl⟩
 rw [← hW0] at hE;have HW0 := Lib.hid hW0;clear hW0
 go_enter Tryz.func16, Tryz.ntmps16
 go_upto_region 1 with (fail)
 rw [← HW0.out];obtain ⟨k1, k2, k3, k4, k5, k6, k7⟩ := (hE.here.1.2).c7;have k8 := (hE.here.2).cell 0;have k9 := (hE.here.2).cell 1;have k10 := (hE.here.2).cell 2;have k11 := (hE.here.2).cell 3;have k12 := (hE.here.2).cell 4;have k13 := (hE.here.2).cell 5;have k14 := (hE.here.2).cell 6;have k15 := (hE.here.2).cell 7;have k16 := (hE.here.2).cell 8;go_wp2_with fail
 refine (vnew_v (Bh.rd_below Hhb.out hE.bel) Hhbb.out (Ct.rd_below Hhx.out hE.bel) Hhxb.out Hhok.out N HhN.out h80).mono ?_;clear k1 k2 k3 k4 k5 k6 k7 k8 k9 k10 k11 k12 k13 k14 k15 k16
 rintro e wc ⟨G, cap, h, rfl, hCB, hcq, hb1⟩
 replace hE := (hE.step hb1).colp hCB;replace hE := hE.colq hcq;clear hb1 hCB hcq
 go_upto_region 2 with (fail)
 obtain ⟨g17, hg17⟩ : ∃ g17, g17 = wc.heap.size := ⟨_, rfl⟩
 have hl17_0 : w.heap.size < g17 := by rw [hg17]; exact (hE.h3).lt
 have hl17_1 : w.heap.size + 1 < g17 := by rw [hg17]; exact (hE.h2).lt
 have hl17_2 : G < g17 := by rw [hg17]; exact ColP.lt (hE.here.1.2)
 replace hE := hE.blk 80 (x.Q G N cap) (g := g17) hg17.symm;generalize wc.alloc (.cells (x.Q G N cap) 80) = W17 at hE ⊢;rw [← hg17];clear hg17
 go_upto_region 4 with (fail)
 replace hE := hE.drew;refine wp_region_held_drew (S := fun V => Blk 80 (g17) (x.Q G N cap) V) (by kernel_rfl) (hE.here.2) (fun hHeld => ?_)
 generalize W17.drew = wd at *
 refine tk 0 ?_ (hy := by
  intro w hSw;have kc0 := (hSw).cell 0;have kc1 := (hSw).cell 1;have kc2 := (hSw).cell 2;have kc3 := (hSw).cell 3;have kc4 := (hSw).cell 4;have kc5 := (hSw).cell 5;have kc6 := (hSw).cell 6;have kc7 := (hSw).cell 7;have kc8 := (hSw).cell 8;have kc9 := (hSw).cell 9;clear hSw
  first | (go_simp; done) | (go_simp; with_reducible rfl))
 try simp only [PL]
 refine tk 1 ?_ (hy := by
  intro w hSw;have kc0 := (hSw).cell 0;have kc1 := (hSw).cell 1;have kc2 := (hSw).cell 2;have kc3 := (hSw).cell 3;have kc4 := (hSw).cell 4;have kc5 := (hSw).cell 5;have kc6 := (hSw).cell 6;have kc7 := (hSw).cell 7;have kc8 := (hSw).cell 8;have kc9 := (hSw).cell 9;clear hSw
  first | (go_simp; done) | (go_simp; with_reducible rfl))
 try simp only [PL]
 refine tk 3 ?_;refine tk 4 ?_
 refine tk 5 ?_ (hy := by
  intro w hSw;have kc8 := (hSw).cell 8;clear hSw
  first | (go_simp; done) | (go_simp; with_reducible rfl))
 try simp only [PL]
 refine r1 2 (fun K hK => ?_);go_simp;refine (vnet_v (Hhpf.out.below hE.bel) HhT.out (RdI.below Hhx.out.2.1 hE.bel) Hhlb.out N (by omega) (fun k _ => (Hhl3.out k).1) (fun k _ => (Hhl3.out k).2.1) (fun k _ => (Hhl3.out k).2.2)).mono ?_
 rintro e w18 ⟨pn, rfl, hpn, hb1⟩
 replace hE := (hE.step hb1).pay (show PayC pn x.L N _ from hpn);clear hb1 hpn;go_wp2_with fail
 refine hK.out _ _ (hE.here.1.2) (fun hHeld => ?_);clear hK K;try simp only [PL]
 refine r1 6 (fun K hK => ?_);go_simp;refine (vlisted_v _ _ _ _).mono ?_
 rintro e _ ⟨rfl, rfl⟩
 obtain ⟨g19, hg19⟩ : ∃ g19, g19 = w18.heap.size := ⟨_, rfl⟩
 have hl19_0 : w.heap.size < g19 := by rw [hg19]; exact (hE.h5).lt
 have hl19_1 : w.heap.size + 1 < g19 := by rw [hg19]; exact (hE.h4).lt
 have hl19_2 : G < g19 := by rw [hg19]; exact ColP.lt (hE.h3)
 have hl19_4 : g17 < g19 := by rw [hg19]; exact (hE.here.1.2).lt
 replace hE := hE.blk 34 #[.slice x.B x.m x.d] (g := g19) hg19.symm;generalize w18.alloc (.cells #[.slice x.B x.m x.d] 34) = W19 at hE ⊢;rw [← hg19];clear hg19;replace hE := hE.pay (pay_listed (l := x.k) (N := N) (hE.here.2) (RdI.below Hhx.out.2.2 hE.bel) Hhkb.out (by omega));go_wp2_with fail
 refine hK.out _ _ (hE.h3) (fun hHeld => ?_);clear hK K;try simp only [PL]
 refine r1 7 (fun K hK => ?_);go_simp;refine (vvalues_v (x := x) (h := h) (U := x.K) (hE.h5) (hE.h4) HhN.out h80 (hE.h2) (hE.here.2) Hhvl.out).mono ?_
 rintro e wv ⟨GV, hh, rfl, hF1, hF2, hb1⟩
 replace hE := ((hE.step hb1).frb hF1).frq hF2;clear hb1 hF1 hF2;go_wp2_with fail
 refine hK.out _ _ (hE.h5) (fun hHeld => ?_);clear hK K;try simp only [PL]
 refine tk 8 ?_;refine tk 9 ?_;refine wpAnyH_done (by kernel_rfl) ?_ _;go_wp2_with fail
 refine bodyPost_ret (v := .tuple #[.slice (some ⟨GV, 0, none⟩) N N, .int .i64 0]) (by simp [results, Tryz.results16, go_sem]) rfl ?_;exact ⟨GV, hh, rfl, hE.here.1.2, hE.here.2, hE.bel⟩
end Go.Proofs.YtclbiihcbfnjmaaGreat
