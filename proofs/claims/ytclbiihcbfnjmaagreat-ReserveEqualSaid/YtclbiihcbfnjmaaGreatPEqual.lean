/-
  The walk of ReserveEqual.
-/
import Derived.Test.YtclbiihcbfnjmaaGreatK2
import Derived.Test.YtclbiihcbfnjmaaGreatK8
import Derived.Test.YtclbiihcbfnjmaaGreatK25
set_option linter.unusedSimpArgs false
set_option maxRecDepth 100000
set_option maxHeartbeats 8000000
namespace Go.Proofs.YtclbiihcbfnjmaaGreat
open Go.RowKit

theorem pequal_walk (b : Bh) (x : Ct) (w : World) (hb : b.rd w) (hx : x.rd w) (hT : I64 x.T)  :
  Calls Tryz.prog 3 #[.agg #[.int .i64 b.F, .int .i64 b.S, .slice b.A b.n b.c, .bool b.i.s, .slice b.i.A b.i.n b.i.c, .bool b.i.t, .slice b.i.B b.i.m b.i.d], .agg #[.int .i64 x.E, .int .i64 x.Y, .int .i64 x.T, .bool x.p.s, .slice x.p.A x.p.n x.p.c, .bool x.p.t, .slice x.p.B x.p.m x.p.d, .slice x.A x.n x.c, .slice x.B x.m x.d]] w (fun e w' => e = .returned (.bool true) ∧ Below w.heap.size w w') := by
 by_cases hU : UsP b x
 ·
  obtain ⟨hbb, hxb, hok, N, h16, hN⟩ := hU.get
  have hvB := Ct.vlB hb hok hN (show N ≤ 80 by omega)
  have hvP := Ct.vlP hb hx hok hN (show N ≤ 80 by omega)
  have hvl := Ct.vl hb hx hok hN (show N ≤ 80 by omega)
  have hN0 := hN.pos
  have Hhb := Lib.hid hb
  clear hb
  have Hhx := Lib.hid hx
  clear hx
  have HhU := Lib.hid hU
  clear hU
  have HhvB := Lib.hid hvB
  clear hvB
  have HhvP := Lib.hid hvP
  clear hvP
  have Hhvl := Lib.hid hvl
  clear hvl
  have hE := ((Env.start w).blk 31 #[.int .i64 b.F, .int .i64 b.S, .slice b.A b.n b.c, .bool b.i.s, .slice b.i.A b.i.n b.i.c, .bool b.i.t, .slice b.i.B b.i.m b.i.d] (g := w.heap.size) rfl).blk 36 #[.int .i64 x.E, .int .i64 x.Y, .int .i64 x.T, .bool x.p.s, .slice x.p.A x.p.n x.p.c, .bool x.p.t, .slice x.p.B x.p.m x.p.d, .slice x.A x.n x.c, .slice x.B x.m x.d] (g := w.heap.size + 1) (by simp)
  obtain ⟨W0, hW0⟩ : ∃ W0, W0 = ((w.alloc (.cells #[.int .i64 b.F, .int .i64 b.S, .slice b.A b.n b.c, .bool b.i.s, .slice b.i.A b.i.n b.i.c, .bool b.i.t, .slice b.i.B b.i.m b.i.d] 31)).alloc (.cells #[.int .i64 x.E, .int .i64 x.Y, .int .i64 x.T, .bool x.p.s, .slice x.p.A x.p.n x.p.c, .bool x.p.t, .slice x.p.B x.p.m x.p.d, .slice x.A x.n x.c, .slice x.B x.m x.d] 36)) := ⟨_, rfl⟩
  rw [← hW0] at hE
  have HW0 := Lib.hid hW0
  clear hW0
  go_enter Tryz.func3, Tryz.ntmps3
  go_upto_region 1 with (fail)
  rw [← HW0.out]
  go_wp2_with fail
  refine hE.br (awakeP_t _) ?_
  clear hE
  intro w1 hE
  obtain ⟨k2, k3, k4, k5, k6, k7, k8⟩ := (hE.here.1.2).c7
  have k9 := (hE.here.2).cell 0
  have k10 := (hE.here.2).cell 1
  have k11 := (hE.here.2).cell 2
  have k12 := (hE.here.2).cell 3
  have k13 := (hE.here.2).cell 4
  have k14 := (hE.here.2).cell 5
  have k15 := (hE.here.2).cell 6
  have k16 := (hE.here.2).cell 7
  have k17 := (hE.here.2).cell 8
  go_wp2_with fail
  refine hE.br (pusable_t (Bh.rd_below Hhb.out hE.bel) (Ct.rd_below Hhx.out hE.bel) hT HhU.out) ?_
  clear hE k2 k3 k4 k5 k6 k7 k8 k9 k10 k11 k12 k13 k14 k15 k16 k17
  intro w18 hE
  obtain ⟨k19, k20, k21, k22, k23, k24, k25⟩ := (hE.here.1.2).c7
  have k26 := (hE.here.2).cell 0
  have k27 := (hE.here.2).cell 1
  have k28 := (hE.here.2).cell 2
  have k29 := (hE.here.2).cell 3
  have k30 := (hE.here.2).cell 4
  have k31 := (hE.here.2).cell 5
  have k32 := (hE.here.2).cell 6
  have k33 := (hE.here.2).cell 7
  have k34 := (hE.here.2).cell 8
  go_wp2_with fail
  refine (vreserves_v (Bh.rd_below Hhb.out hE.bel) hbb (Ct.rd_below Hhx.out hE.bel) hxb hok N hN (by omega) ).mono ?_
  clear k19 k20 k21 k22 k23 k24 k25 k26 k27 k28 k29 k30 k31 k32 k33 k34
  rintro e wr ⟨GV, hh, rfl, hF1, hF2, hb1⟩
  replace hE := ((hE.step hb1).frb hF1).frq hF2
  clear hb1 hF1 hF2
  obtain ⟨k35, k36, k37, k38, k39, k40, k41⟩ := (hE.h3).c7
  have k42 := (hE.h2).cell 0
  have k43 := (hE.h2).cell 1
  go_wp2_with fail
  refine (cColumns_v (F := b.F) (S := b.S) (E := x.E) (Y := x.Y) (A := b.A) (n := b.n) (c := b.c) (r := b.r) (si := b.i.s) (ti := b.i.t) (Ai := b.i.A) (Bi := b.i.B) (ni := b.i.n) (mi := b.i.m) (ci := b.i.c) (di := b.i.d) (fi := b.i.f) (gi := b.i.g) (Hhb.out.1.below hE.bel) hbb.1 (FRd.below Hhb.out.2 hE.bel) hbb.2.1 hbb.2.2 hok.1 hok.2.1 N hN (by omega)).mono ?_
  clear k35 k36 k37 k38 k39 k40 k41 k42 k43
  rintro e wc ⟨cv, hc, rfl, hcv, hcq, hb1⟩
  replace hE := hE.step hb1
  clear hb1 hcq
  rcases hcv with ⟨-, h0⟩ | ⟨G, cap, rfl, -, -⟩
  · omega
  have t1 : decide ((N : Int) = 0) = false := decide_eq_false (by omega)
  have t2 : ¬ (N : Int) = 0 := by omega
  go_upto_region 9 with (fail)
  clear t1 t2
  go_wp2_with fail
  try rw [show ((N : Int) == 0) = false from by simp; omega]
  go_loopw [9] (fun p wr => ∃ k : Nat, k ≤ N ∧ p = .int .i64 (k : Int) ∧ Env w (fun V => ((((True ∧ Blk 31 (w.heap.size) #[.int .i64 b.F, .int .i64 b.S, .slice b.A b.n b.c, .bool b.i.s, .slice b.i.A b.i.n b.i.c, .bool b.i.t, .slice b.i.B b.i.m b.i.d] V) ∧ Blk 36 (w.heap.size + 1) #[.int .i64 x.E, .int .i64 x.Y, .int .i64 x.T, .bool x.p.s, .slice x.p.A x.p.n x.p.c, .bool x.p.t, .slice x.p.B x.p.m x.p.d, .slice x.A x.n x.c, .slice x.B x.m x.d] V) ∧ FrB GV N 0 hh V) ∧ FrQ hh N 0 (b.val x N) V)) wr) (fun p _ => N - (intOf p).toNat)
  case atStart => exact ⟨0, Nat.zero_le _, rfl, hE⟩
  case round =>
   clear hE
   obtain ⟨k, hk, rfl, hE⟩ := hrel
   by_cases hlt : k < N
   ·
    have t1 : decide ((k : Int) < (N : Int)) = true := decide_eq_true (by omega)
    have t2 : (k : Int) < (N : Int) := by omega
    obtain ⟨k44, k45, k46, k47, k48, k49, k50⟩ := (hE.h3).c7
    have k51 := (hE.h2).cell 0
    have k52 := (hE.h2).cell 1
    have k53 := (hE.h2).cell 2
    have k54 := (hE.h2).cell 3
    have k55 := (hE.h2).cell 4
    have k56 := (hE.h2).cell 5
    have k57 := (hE.h2).cell 6
    have k58 := (hE.h2).cell 7
    have k59 := (hE.h2).cell 8
    go_wp2_with fail
    refine hE.fr (vpros_v (Bh.rd_below Hhb.out hE.bel) hbb (Ct.rd_below Hhx.out hE.bel) hxb hok N hN (by omega) k hlt) ?_
    clear hE k44 k45 k46 k47 k48 k49 k50 k51 k52 k53 k54 k55 k56 k57 k58 k59
    intro sp Ap np cp tp Bp mp dp w60 hE
    go_upto_region 13 with (fail)
    obtain ⟨g61, hg61⟩ : ∃ g61, g61 = w60.heap.size := ⟨_, rfl⟩
    replace hE := hE.blk 29 #[.bool sp, .slice Ap np cp, .bool tp, .slice Bp mp dp] (g := g61) hg61.symm
    generalize w60.alloc (.cells #[.bool sp, .slice Ap np cp, .bool tp, .slice Bp mp dp] 29) = W61 at hE ⊢
    rw [← hg61]
    clear hg61
    obtain ⟨k62, k63, k64, k65, k66, k67, k68⟩ := (hE.h5).c7
    have k69 := (hE.h4).cell 0
    have k70 := (hE.h4).cell 1
    have k71 := (hE.h4).cell 2
    have k72 := (hE.h4).cell 3
    have k73 := (hE.h4).cell 4
    have k74 := (hE.h4).cell 5
    have k75 := (hE.h4).cell 6
    have k76 := (hE.h4).cell 7
    have k77 := (hE.h4).cell 8
    go_wp2_with fail
    refine hE.fr (vretr_v (Bh.rd_below Hhb.out hE.bel) hbb (Ct.rd_below Hhx.out hE.bel) hxb hok N hN (by omega) k hlt) ?_
    clear hE k62 k63 k64 k65 k66 k67 k68 k69 k70 k71 k72 k73 k74 k75 k76 k77
    intro sr Ar nr cr tr Br mr dr w78 hE
    go_upto_region 14 with (fail)
    obtain ⟨g79, hg79⟩ : ∃ g79, g79 = w78.heap.size := ⟨_, rfl⟩
    replace hE := hE.blk 29 #[.bool sr, .slice Ar nr cr, .bool tr, .slice Br mr dr] (g := g79) hg79.symm
    generalize w78.alloc (.cells #[.bool sr, .slice Ar nr cr, .bool tr, .slice Br mr dr] 29) = W79 at hE ⊢
    rw [← hg79]
    clear hg79
    obtain ⟨k80, k81, k82, k83, k84, k85, k86⟩ := (hE.h7).c7
    have k87 := (hE.h6).cell 0
    have k88 := (hE.h6).cell 1
    have k89 := (hE.h6).cell 2
    have k90 := (hE.h6).cell 3
    have k91 := (hE.h6).cell 4
    have k92 := (hE.h6).cell 5
    have k93 := (hE.h6).cell 6
    have k94 := (hE.h6).cell 7
    have k95 := (hE.h6).cell 8
    go_wp2_with fail
    refine hE.fr (vbene_v (Bh.rd_below Hhb.out hE.bel) hbb (Ct.rd_below Hhx.out hE.bel) hxb hok N hN (by omega) k hlt) ?_
    clear hE k80 k81 k82 k83 k84 k85 k86 k87 k88 k89 k90 k91 k92 k93 k94 k95
    intro sy Ay ny cy ty By my dy w96 hE
    go_upto_region 15 with (fail)
    obtain ⟨g97, hg97⟩ : ∃ g97, g97 = w96.heap.size := ⟨_, rfl⟩
    replace hE := hE.blk 29 #[.bool sy, .slice Ay ny cy, .bool ty, .slice By my dy] (g := g97) hg97.symm
    generalize w96.alloc (.cells #[.bool sy, .slice Ay ny cy, .bool ty, .slice By my dy] 29) = W97 at hE ⊢
    rw [← hg97]
    clear hg97
    obtain ⟨k98, k99, k100, k101, k102, k103, k104⟩ := (hE.h9).c7
    have k105 := (hE.h8).cell 0
    have k106 := (hE.h8).cell 1
    have k107 := (hE.h8).cell 2
    have k108 := (hE.h8).cell 3
    have k109 := (hE.h8).cell 4
    have k110 := (hE.h8).cell 5
    have k111 := (hE.h8).cell 6
    have k112 := (hE.h8).cell 7
    have k113 := (hE.h8).cell 8
    go_wp2_with fail
    refine hE.fr (vpremt_v (Bh.rd_below Hhb.out hE.bel) hbb (Ct.rd_below Hhx.out hE.bel) hxb hok N hN (by omega) k hlt) ?_
    clear hE k98 k99 k100 k101 k102 k103 k104 k105 k106 k107 k108 k109 k110 k111 k112 k113
    intro sz Az nz cz tz Bz mz dz w114 hE
    go_upto_region 16 with (fail)
    obtain ⟨g115, hg115⟩ : ∃ g115, g115 = w114.heap.size := ⟨_, rfl⟩
    replace hE := hE.blk 29 #[.bool sz, .slice Az nz cz, .bool tz, .slice Bz mz dz] (g := g115) hg115.symm
    generalize w114.alloc (.cells #[.bool sz, .slice Az nz cz, .bool tz, .slice Bz mz dz] 29) = W115 at hE ⊢
    rw [← hg115]
    clear hg115
    replace hE := hE.fv (show FV _ ((b.val x N k)) (hh k).s (hh k).A (hh k).n (hh k).t (hh k).B (hh k).m from (hE.h8) k (Nat.zero_le _) hlt)
    replace hE := hE.atI (b := GV) (o := (k * 4)) (v := .bool (hh k).s) ⟨FrB.lt (hE.h10), FrB.at_ (hE.h10) (k := k) (i := 0) (Nat.zero_le _) hlt (by decide) (by omega)⟩
    replace hE := hE.atI (b := GV) (o := (k * 4 + 1)) (v := .slice (hh k).A (hh k).n (hh k).c) ⟨FrB.lt (hE.h11), FrB.at_ (hE.h11) (k := k) (i := 1) (Nat.zero_le _) hlt (by decide) (by omega)⟩
    replace hE := hE.atI (b := GV) (o := (k * 4 + 2)) (v := .bool (hh k).t) ⟨FrB.lt (hE.h12), FrB.at_ (hE.h12) (k := k) (i := 2) (Nat.zero_le _) hlt (by decide) (by omega)⟩
    replace hE := hE.atI (b := GV) (o := (k * 4 + 3)) (v := .slice (hh k).B (hh k).m (hh k).d) ⟨FrB.lt (hE.h13), FrB.at_ (hE.h13) (k := k) (i := 3) (Nat.zero_le _) hlt (by decide) (by omega)⟩
    have hvq : b.ben x N k - b.prm x x.p.q N k = b.val x N k := (Bh.val_eq b x (Nat.le_of_lt hlt)).symm
    have HV := Lib.hid hvq
    clear hvq
    replace hE := hE.drew
    refine wp_region_held_drew (S := fun V => Blk 29 (g61) #[.bool sp, .slice Ap np cp, .bool tp, .slice Bp mp dp] V ∧ Blk 29 (g79) #[.bool sr, .slice Ar nr cr, .bool tr, .slice Br mr dr] V ∧ Blk 29 (g97) #[.bool sy, .slice Ay ny cy, .bool ty, .slice By my dy] V ∧ Blk 29 (g115) #[.bool sz, .slice Az nz cz, .bool tz, .slice Bz mz dz] V ∧ At GV ((k * 4)) (.bool (hh k).s) V ∧ At GV ((k * 4 + 1)) (.slice (hh k).A (hh k).n (hh k).c) V ∧ At GV ((k * 4 + 2)) (.bool (hh k).t) V ∧ At GV ((k * 4 + 3)) (.slice (hh k).B (hh k).m (hh k).d) V) (by kernel_rfl) (⟨hE.h11, hE.h9, hE.h7, hE.h5, hE.h3, hE.h2, hE.here.1.2, hE.here.2⟩) (fun hHeld => ?_)
    generalize W115.drew = wd at *
    refine tk 0 ?_
    try simp only [PL]
    refine tk 1 ?_
    try simp only [PL]
    refine tk 2 ?_
    try simp only [PL]
    refine tk 3 ?_
    try simp only [PL]
    refine tk 4 ?_
    try simp only [PL]
    refine tk 5 ?_
    try simp only [PL]
    refine tk 6 ?_
    try simp only [PL]
    refine tk 7 ?_
    try simp only [PL]
    refine tk 8 ?_
    try simp only [PL]
    refine tk 9 ?_
    try simp only [PL]
    refine tk 10 ?_
    try simp only [PL]
    refine tk 11 ?_
    try simp only [PL]
    refine tk 12 ?_
    try simp only [PL]
    refine tk 13 ?_
    try simp only [PL]
    refine tk 14 ?_
    try simp only [PL]
    refine tk 15 ?_ (hy := by
     intro w hSw
     have kc0 := (hSw.1).cell 0
     have kc1 := (hSw.1).cell 1
     have kc2 := (hSw.1).cell 2
     have kc3 := (hSw.1).cell 3
     clear hSw
     first | (go_simp; done) | (go_simp; with_reducible rfl))
    try simp only [PL]
    refine tk 16 ?_ (hy := by
     intro w hSw
     have kc0 := (hSw.2.1).cell 0
     have kc1 := (hSw.2.1).cell 1
     have kc2 := (hSw.2.1).cell 2
     have kc3 := (hSw.2.1).cell 3
     clear hSw
     first | (go_simp; done) | (go_simp; with_reducible rfl))
    try simp only [PL]
    refine r1 17 (fun K hK => ?_)
    go_simp
    refine hE.br (pw_equal (v := true) (ca := cp) (da := dp) (cb := cr) (db := dr) (hE.h12) (hE.h10) (Hhvl.out.a k) (Hhvl.out.a k) (decide_eq_true rfl)) ?_
    clear hE
    intro w116 hE
    go_wp2_with fail
    refine hK.out _ _ (⟨hE.h11, hE.h9, hE.h7, hE.h5, hE.h3, hE.h2, hE.here.1.2, hE.here.2⟩) (fun hHeld => ?_)
    clear hK K
    try simp only [PL]
    refine tk 18 ?_
    try simp only [PL]
    refine tk 19 ?_
    try simp only [PL]
    refine tk 20 ?_
    try simp only [PL]
    refine tk 21 ?_ (hy := by
     intro w hSw
     have kc0 := (hSw.1).cell 0
     have kc1 := (hSw.1).cell 1
     have kc2 := (hSw.1).cell 2
     have kc3 := (hSw.1).cell 3
     clear hSw
     first | (go_simp; done) | (go_simp; with_reducible rfl))
    try simp only [PL]
    refine tk 22 ?_
    try simp only [PL]
    refine tk 23 ?_
    try simp only [PL]
    refine tk 24 ?_
    try simp only [PL]
    refine tk 25 ?_ (hy := by
     intro w hSw
     have kc0 := (hSw.2.2.2.2.1).2
     have kc1 := (hSw.2.2.2.2.2.1).2
     have kc2 := (hSw.2.2.2.2.2.2.1).2
     have kc3 := (hSw.2.2.2.2.2.2.2).2
     clear hSw
     first | (go_simp; done) | (go_simp; with_reducible rfl))
    try simp only [PL]
    refine r1 26 (fun K hK => ?_)
    go_simp
    refine hE.br (pw_equal (v := true) (ca := cp) (da := dp) (cb := (hh k).c) (db := (hh k).d) (hE.h12) (hE.h4) (Hhvl.out.a k) (Hhvl.out.a k) (decide_eq_true rfl)) ?_
    clear hE
    intro w117 hE
    go_wp2_with fail
    refine hK.out _ _ (⟨hE.h11, hE.h9, hE.h7, hE.h5, hE.h3, hE.h2, hE.here.1.2, hE.here.2⟩) (fun hHeld => ?_)
    clear hK K
    try simp only [PL]
    refine tk 27 ?_
    try simp only [PL]
    refine tk 28 ?_
    try simp only [PL]
    refine tk 29 ?_
    try simp only [PL]
    refine tk 30 ?_ (hy := by
     intro w hSw
     have kc0 := (hSw.1).cell 0
     have kc1 := (hSw.1).cell 1
     have kc2 := (hSw.1).cell 2
     have kc3 := (hSw.1).cell 3
     clear hSw
     first | (go_simp; done) | (go_simp; with_reducible rfl))
    try simp only [PL]
    refine tk 31 ?_ (hy := by
     intro w hSw
     have kc0 := (hSw.2.2.1).cell 0
     have kc1 := (hSw.2.2.1).cell 1
     have kc2 := (hSw.2.2.1).cell 2
     have kc3 := (hSw.2.2.1).cell 3
     clear hSw
     first | (go_simp; done) | (go_simp; with_reducible rfl))
    try simp only [PL]
    refine tk 32 ?_ (hy := by
     intro w hSw
     have kc0 := (hSw.2.2.2.1).cell 0
     have kc1 := (hSw.2.2.2.1).cell 1
     have kc2 := (hSw.2.2.2.1).cell 2
     have kc3 := (hSw.2.2.2.1).cell 3
     clear hSw
     first | (go_simp; done) | (go_simp; with_reducible rfl))
    try simp only [PL]
    refine r1 33 (fun K hK => ?_)
    go_simp
    refine hE.fr (pw_less (ca := cy) (da := dy) (cb := cz) (db := dz) (hE.h8) (hE.h6) (HhvB.out.a k) (HhvP.out.a k) (by rw [HV.out]; exact Hhvl.out.a k)) ?_
    clear hE
    intro sv Av nv cv tv Bv mv dv w118 hE
    go_wp2_with fail
    refine hK.out _ _ (⟨hE.h12, hE.h10, hE.h8, hE.h6, hE.h4, hE.h3, hE.h2, hE.here.1.2⟩) (fun hHeld => ?_)
    clear hK K
    try simp only [PL]
    refine r1 34 (fun K hK => ?_)
    go_simp
    refine hE.br (pw_equal (v := true) (ca := cp) (da := dp) (cb := cv) (db := dv) (hE.h13) (hE.here.2) (Hhvl.out.a k) (by rw [HV.out]; exact Hhvl.out.a k) (decide_eq_true HV.out.symm)) ?_
    clear hE
    intro w119 hE
    go_wp2_with fail
    refine hK.out _ _ (⟨hE.h12, hE.h10, hE.h8, hE.h6, hE.h4, hE.h3, hE.h2, hE.here.1.2⟩) (fun hHeld => ?_)
    clear hK K
    try simp only [PL]
    refine tk 35 ?_
    try simp only [PL]
    refine tk 36 ?_
    try simp only [PL]
    refine wpAnyH_done (by kernel_rfl) ?_ _
    have o1 : IntKind.i64.wrap ((k : Int) + 1) = (k : Int) + 1 := by rw [IntKind.wrap_i64]; omega
    go_wp2_with fail
    go_roundw
    case rel => exact ⟨k + 1, by omega, by (try simp) <;> norm_cast, (((((Env.again hE.bel).blkI (hE.h17)).blkI (hE.h16)).frb (hE.h15)).frq (hE.h14))⟩
    case measure => (simp [intOf]) <;> omega
   ·
    have eN : N = k := by omega
    have t1 : decide ((k : Int) < (N : Int)) = false := decide_eq_false (by omega)
    have t2 : ¬ (k : Int) < (N : Int) := by omega
    have EN := Lib.hid eN
    clear eN
    go_upto_region 18 with (fail)
    clear t1 t2
    obtain ⟨k120, k121, k122, k123, k124, k125, k126⟩ := (hE.h3).c7
    have k127 := (hE.h2).cell 0
    have k128 := (hE.h2).cell 1
    have k129 := (hE.h2).cell 2
    have k130 := (hE.h2).cell 3
    have k131 := (hE.h2).cell 4
    have k132 := (hE.h2).cell 5
    have k133 := (hE.h2).cell 6
    have k134 := (hE.h2).cell 7
    have k135 := (hE.h2).cell 8
    go_wp2_with fail
    refine hE.br (vpros_dead (Bh.rd_below Hhb.out hE.bel) hbb (Ct.rd_below Hhx.out hE.bel) hxb hok N hN (by omega) N (Nat.le_refl _) (by omega)) ?_
    clear hE k120 k121 k122 k123 k124 k125 k126 k127 k128 k129 k130 k131 k132 k133 k134 k135
    intro w136 hE
    go_upto_region 19 with (fail)
    obtain ⟨g137, hg137⟩ : ∃ g137, g137 = w136.heap.size := ⟨_, rfl⟩
    replace hE := hE.blk 29 #[.bool false, .slice none 0 0, .bool false, .slice none 0 0] (g := g137) hg137.symm
    generalize w136.alloc (.cells #[.bool false, .slice none 0 0, .bool false, .slice none 0 0] 29) = W137 at hE ⊢
    rw [← hg137]
    clear hg137
    obtain ⟨k138, k139, k140, k141, k142, k143, k144⟩ := (hE.h4).c7
    have k145 := (hE.h3).cell 0
    have k146 := (hE.h3).cell 1
    have k147 := (hE.h3).cell 2
    have k148 := (hE.h3).cell 3
    have k149 := (hE.h3).cell 4
    have k150 := (hE.h3).cell 5
    have k151 := (hE.h3).cell 6
    have k152 := (hE.h3).cell 7
    have k153 := (hE.h3).cell 8
    go_wp2_with fail
    refine hE.br (vretr_dead (Bh.rd_below Hhb.out hE.bel) hbb (Ct.rd_below Hhx.out hE.bel) hxb hok N hN (by omega) N (Nat.le_refl _)) ?_
    clear hE k138 k139 k140 k141 k142 k143 k144 k145 k146 k147 k148 k149 k150 k151 k152 k153
    intro w154 hE
    go_upto_region 20 with (fail)
    obtain ⟨g155, hg155⟩ : ∃ g155, g155 = w154.heap.size := ⟨_, rfl⟩
    replace hE := hE.blk 29 #[.bool false, .slice none 0 0, .bool false, .slice none 0 0] (g := g155) hg155.symm
    generalize w154.alloc (.cells #[.bool false, .slice none 0 0, .bool false, .slice none 0 0] 29) = W155 at hE ⊢
    rw [← hg155]
    clear hg155
    obtain ⟨k156, k157, k158, k159, k160, k161, k162⟩ := (hE.h5).c7
    have k163 := (hE.h4).cell 0
    have k164 := (hE.h4).cell 1
    have k165 := (hE.h4).cell 2
    have k166 := (hE.h4).cell 3
    have k167 := (hE.h4).cell 4
    have k168 := (hE.h4).cell 5
    have k169 := (hE.h4).cell 6
    have k170 := (hE.h4).cell 7
    have k171 := (hE.h4).cell 8
    go_wp2_with fail
    refine hE.br (vbene_dead (Bh.rd_below Hhb.out hE.bel) hbb (Ct.rd_below Hhx.out hE.bel) hxb hok N hN (by omega) N (Nat.le_refl _) (by omega)) ?_
    clear hE k156 k157 k158 k159 k160 k161 k162 k163 k164 k165 k166 k167 k168 k169 k170 k171
    intro w172 hE
    go_upto_region 21 with (fail)
    obtain ⟨g173, hg173⟩ : ∃ g173, g173 = w172.heap.size := ⟨_, rfl⟩
    replace hE := hE.blk 29 #[.bool false, .slice none 0 0, .bool false, .slice none 0 0] (g := g173) hg173.symm
    generalize w172.alloc (.cells #[.bool false, .slice none 0 0, .bool false, .slice none 0 0] 29) = W173 at hE ⊢
    rw [← hg173]
    clear hg173
    go_wp2_with fail
    go_ret
    exact ⟨rfl, hE.bel⟩
 ·
  have Hhb := Lib.hid hb
  clear hb
  have Hhx := Lib.hid hx
  clear hx
  have HhU := Lib.hid hU
  clear hU
  have hE := ((Env.start w).blk 31 #[.int .i64 b.F, .int .i64 b.S, .slice b.A b.n b.c, .bool b.i.s, .slice b.i.A b.i.n b.i.c, .bool b.i.t, .slice b.i.B b.i.m b.i.d] (g := w.heap.size) rfl).blk 36 #[.int .i64 x.E, .int .i64 x.Y, .int .i64 x.T, .bool x.p.s, .slice x.p.A x.p.n x.p.c, .bool x.p.t, .slice x.p.B x.p.m x.p.d, .slice x.A x.n x.c, .slice x.B x.m x.d] (g := w.heap.size + 1) (by simp)
  obtain ⟨W0, hW0⟩ : ∃ W0, W0 = ((w.alloc (.cells #[.int .i64 b.F, .int .i64 b.S, .slice b.A b.n b.c, .bool b.i.s, .slice b.i.A b.i.n b.i.c, .bool b.i.t, .slice b.i.B b.i.m b.i.d] 31)).alloc (.cells #[.int .i64 x.E, .int .i64 x.Y, .int .i64 x.T, .bool x.p.s, .slice x.p.A x.p.n x.p.c, .bool x.p.t, .slice x.p.B x.p.m x.p.d, .slice x.A x.n x.c, .slice x.B x.m x.d] 36)) := ⟨_, rfl⟩
  rw [← hW0] at hE
  have HW0 := Lib.hid hW0
  clear hW0
  go_enter Tryz.func3, Tryz.ntmps3
  go_upto_region 1 with (fail)
  rw [← HW0.out]
  go_wp2_with fail
  refine hE.br (awakeP_t _) ?_
  clear hE
  intro w1 hE
  obtain ⟨k2, k3, k4, k5, k6, k7, k8⟩ := (hE.here.1.2).c7
  have k9 := (hE.here.2).cell 0
  have k10 := (hE.here.2).cell 1
  have k11 := (hE.here.2).cell 2
  have k12 := (hE.here.2).cell 3
  have k13 := (hE.here.2).cell 4
  have k14 := (hE.here.2).cell 5
  have k15 := (hE.here.2).cell 6
  have k16 := (hE.here.2).cell 7
  have k17 := (hE.here.2).cell 8
  go_wp2_with fail
  refine hE.br (pusable_f (Bh.rd_below Hhb.out hE.bel) (Ct.rd_below Hhx.out hE.bel) hT HhU.out) ?_
  clear hE k2 k3 k4 k5 k6 k7 k8 k9 k10 k11 k12 k13 k14 k15 k16 k17
  intro w18 hE
  go_wp2_with fail
  go_ret
  exact ⟨rfl, hE.bel⟩
end Go.Proofs.YtclbiihcbfnjmaaGreat
