/-
  The walk of ReserveFair.
-/
import Derived.Test.YtclbiihcbfnjmaaGreatK2
import Derived.Test.YtclbiihcbfnjmaaGreatK8
import Derived.Test.YtclbiihcbfnjmaaGreatK25
import Derived.Test.YtclbiihcbfnjmaaGreatK22
set_option linter.unusedSimpArgs false
set_option maxRecDepth 100000
set_option maxHeartbeats 8000000
namespace Go.Proofs.YtclbiihcbfnjmaaGreat
open Go.RowKit

theorem pfair_walk (b : Bh) (x : Ct) (w : World) (hb : b.rd w) (hx : x.rd w) (hT : I64 x.T)  :
  Calls Tryz.prog 5 #[.agg #[.int .i64 b.F, .int .i64 b.S, .slice b.A b.n b.c, .bool b.i.s, .slice b.i.A b.i.n b.i.c, .bool b.i.t, .slice b.i.B b.i.m b.i.d], .agg #[.int .i64 x.E, .int .i64 x.Y, .int .i64 x.T, .bool x.p.s, .slice x.p.A x.p.n x.p.c, .bool x.p.t, .slice x.p.B x.p.m x.p.d, .slice x.A x.n x.c, .slice x.B x.m x.d]] w (fun e w' => e = .returned (.bool true) ∧ Below w.heap.size w w') := by
 by_cases hU : UsP b x
 ·
  obtain ⟨hbb, hxb, hok, N, h16, hN⟩ := hU.get
  by_cases hT0 : x.T = 0
  ·
   have t1 : decide (x.T = 0) = true := decide_eq_true hT0
   have T1 := Lib.hid t1
   have T2 := Lib.hid hT0
   clear t1 hT0
   have Hhb := Lib.hid hb
   clear hb
   have Hhx := Lib.hid hx
   clear hx
   have HhU := Lib.hid hU
   clear hU
   have hE := ((Env.start w).blk 31 #[.int .i64 b.F, .int .i64 b.S, .slice b.A b.n b.c, .bool b.i.s, .slice b.i.A b.i.n b.i.c, .bool b.i.t, .slice b.i.B b.i.m b.i.d] (g := w.heap.size) rfl).blk 36 #[.int .i64 x.E, .int .i64 x.Y, .int .i64 x.T, .bool x.p.s, .slice x.p.A x.p.n x.p.c, .bool x.p.t, .slice x.p.B x.p.m x.p.d, .slice x.A x.n x.c, .slice x.B x.m x.d] (g := w.heap.size + 1) (by simp)
   obtain ⟨W0, hW0⟩ : ∃ W0, W0 = ((w.alloc (.cells #[.int .i64 b.F, .int .i64 b.S, .slice b.A b.n b.c, .bool b.i.s, .slice b.i.A b.i.n b.i.c, .bool b.i.t, .slice b.i.B b.i.m b.i.d] 31)).alloc (.cells #[.int .i64 x.E, .int .i64 x.Y, .int .i64 x.T, .bool x.p.s, .slice x.p.A x.p.n x.p.c, .bool x.p.t, .slice x.p.B x.p.m x.p.d, .slice x.A x.n x.c, .slice x.B x.m x.d] 36)) := ⟨_, rfl⟩
   rw [← hW0] at hE
   have HW0 := Lib.hid hW0
   clear hW0
   go_enter Tryz.func5, Tryz.ntmps5
   go_upto_region 1 with (fail)
   rw [← HW0.out]
   go_wp2_with fail
   refine hE.br (awakeP_t _) ?_
   clear hE
   intro w1 hE
   obtain ⟨k2, k3, k4, k5, k6, k7, k8⟩ := (hE.here.1.2).c7
   have k9 := (hE.here.2).cell 0
   have k10 := (hE.here.2).cell 1
   have k11 := (hE.here.2).cell 2
   have k12 := (hE.here.2).cell 3
   have k13 := (hE.here.2).cell 4
   have k14 := (hE.here.2).cell 5
   have k15 := (hE.here.2).cell 6
   have k16 := (hE.here.2).cell 7
   have k17 := (hE.here.2).cell 8
   go_wp2_with fail
   refine hE.br (pusable_t (Bh.rd_below Hhb.out hE.bel) (Ct.rd_below Hhx.out hE.bel) hT HhU.out) ?_
   clear hE k2 k3 k4 k5 k6 k7 k8 k9 k10 k11 k12 k13 k14 k15 k16 k17
   intro w18 hE
   obtain ⟨k19, k20, k21, k22, k23, k24, k25⟩ := (hE.here.1.2).c7
   have k26 := (hE.here.2).cell 0
   have k27 := (hE.here.2).cell 1
   have k28 := (hE.here.2).cell 2
   have k29 := (hE.here.2).cell 3
   have k30 := (hE.here.2).cell 4
   have k31 := (hE.here.2).cell 5
   have k32 := (hE.here.2).cell 6
   have k33 := (hE.here.2).cell 7
   have k34 := (hE.here.2).cell 8
   go_wp2_with fail
   refine hE.br (vequi_z (Bh.rd_below Hhb.out hE.bel) hbb (Ct.rd_below Hhx.out hE.bel) hxb hok N hN (by omega) T2.out) ?_
   clear hE k19 k20 k21 k22 k23 k24 k25 k26 k27 k28 k29 k30 k31 k32 k33 k34
   intro w35 hE
   go_upto_region 6 with (fail)
   obtain ⟨g36, hg36⟩ : ∃ g36, g36 = w35.heap.size := ⟨_, rfl⟩
   replace hE := hE.blk 29 #[.bool false, .slice none 0 0, .bool false, .slice none 0 0] (g := g36) hg36.symm
   generalize w35.alloc (.cells #[.bool false, .slice none 0 0, .bool false, .slice none 0 0] 29) = W36 at hE ⊢
   rw [← hg36]
   clear hg36
   have t1 := T1.out
   have t2 := T2.out
   have k37 := (hE.here.1.2).cell 2
   obtain ⟨k38, k39, k40, k41⟩ := (hE.here.2).c4
   go_wp2_with fail
   refine hE.br (frsame_00) ?_
   clear hE k38 k39 k40 k41
   intro w42 hE
   clear t1 t2
   go_wp2_with fail
   go_ret
   exact ⟨rfl, hE.bel⟩
  ·
   have t1 : decide (x.T = 0) = false := decide_eq_false hT0
   have T1 := Lib.hid t1
   have hpp := Bh.prm_pos hb hok hT0 hN
   have hef := Bh.equ_fl hb hok hT0 hN (by omega)
   have hvB := Ct.vlB hb hok hN (show N ≤ 80 by omega)
   have hvU := Ct.vlU hb hok hN (show N ≤ 80 by omega)
   have hvl := Ct.vl hb hx hok hN (show N ≤ 80 by omega)
   obtain ⟨hpf, hp0, -, -⟩ := Ct.prem hx hok
   have hpl : fl x.p.q ≤ 256 := (okF_q hx.1 hok.2.2.2.1.1).2.2.2
   have hmul : b.equ x N * b.prm x 1 N 0 = b.ben x N 0 := Rat.div_mul_cancel (by grind)
   have hcmp : cmpQ (b.val x N 0) ((0 : Int) : Rat) = cmpQ (b.equ x N) x.p.q := by rw [Bh.val_eq b x (Nat.zero_le _), Bh.prm_eq b x x.p.q (Nat.zero_le _)]; exact cmp_fair hpp
   have T2 := Lib.hid hT0
   clear t1 hT0
   have Hhb := Lib.hid hb
   clear hb
   have Hhx := Lib.hid hx
   clear hx
   have HhU := Lib.hid hU
   clear hU
   have Hhpp := Lib.hid hpp
   clear hpp
   have Hhef := Lib.hid hef
   clear hef
   have HhvB := Lib.hid hvB
   clear hvB
   have HhvU := Lib.hid hvU
   clear hvU
   have Hhvl := Lib.hid hvl
   clear hvl
   have Hhpf := Lib.hid hpf
   clear hpf
   have Hhpl := Lib.hid hpl
   clear hpl
   have Hhmul := Lib.hid hmul
   clear hmul
   have Hhcmp := Lib.hid hcmp
   clear hcmp
   have hE := ((Env.start w).blk 31 #[.int .i64 b.F, .int .i64 b.S, .slice b.A b.n b.c, .bool b.i.s, .slice b.i.A b.i.n b.i.c, .bool b.i.t, .slice b.i.B b.i.m b.i.d] (g := w.heap.size) rfl).blk 36 #[.int .i64 x.E, .int .i64 x.Y, .int .i64 x.T, .bool x.p.s, .slice x.p.A x.p.n x.p.c, .bool x.p.t, .slice x.p.B x.p.m x.p.d, .slice x.A x.n x.c, .slice x.B x.m x.d] (g := w.heap.size + 1) (by simp)
   obtain ⟨W0, hW0⟩ : ∃ W0, W0 = ((w.alloc (.cells #[.int .i64 b.F, .int .i64 b.S, .slice b.A b.n b.c, .bool b.i.s, .slice b.i.A b.i.n b.i.c, .bool b.i.t, .slice b.i.B b.i.m b.i.d] 31)).alloc (.cells #[.int .i64 x.E, .int .i64 x.Y, .int .i64 x.T, .bool x.p.s, .slice x.p.A x.p.n x.p.c, .bool x.p.t, .slice x.p.B x.p.m x.p.d, .slice x.A x.n x.c, .slice x.B x.m x.d] 36)) := ⟨_, rfl⟩
   rw [← hW0] at hE
   have HW0 := Lib.hid hW0
   clear hW0
   go_enter Tryz.func5, Tryz.ntmps5
   go_upto_region 1 with (fail)
   rw [← HW0.out]
   go_wp2_with fail
   refine hE.br (awakeP_t _) ?_
   clear hE
   intro w101 hE
   obtain ⟨k102, k103, k104, k105, k106, k107, k108⟩ := (hE.here.1.2).c7
   have k109 := (hE.here.2).cell 0
   have k110 := (hE.here.2).cell 1
   have k111 := (hE.here.2).cell 2
   have k112 := (hE.here.2).cell 3
   have k113 := (hE.here.2).cell 4
   have k114 := (hE.here.2).cell 5
   have k115 := (hE.here.2).cell 6
   have k116 := (hE.here.2).cell 7
   have k117 := (hE.here.2).cell 8
   go_wp2_with fail
   refine hE.br (pusable_t (Bh.rd_below Hhb.out hE.bel) (Ct.rd_below Hhx.out hE.bel) hT HhU.out) ?_
   clear hE k102 k103 k104 k105 k106 k107 k108 k109 k110 k111 k112 k113 k114 k115 k116 k117
   intro w118 hE
   obtain ⟨k119, k120, k121, k122, k123, k124, k125⟩ := (hE.here.1.2).c7
   have k126 := (hE.here.2).cell 0
   have k127 := (hE.here.2).cell 1
   have k128 := (hE.here.2).cell 2
   have k129 := (hE.here.2).cell 3
   have k130 := (hE.here.2).cell 4
   have k131 := (hE.here.2).cell 5
   have k132 := (hE.here.2).cell 6
   have k133 := (hE.here.2).cell 7
   have k134 := (hE.here.2).cell 8
   go_wp2_with fail
   refine hE.fr (vequi_v (Bh.rd_below Hhb.out hE.bel) hbb (Ct.rd_below Hhx.out hE.bel) hxb hok N hN (by omega) T2.out) ?_
   clear hE k119 k120 k121 k122 k123 k124 k125 k126 k127 k128 k129 k130 k131 k132 k133 k134
   intro sp Ap np cp tp Bp mp dp w135 hE
   go_upto_region 6 with (fail)
   obtain ⟨g136, hg136⟩ : ∃ g136, g136 = w135.heap.size := ⟨_, rfl⟩
   replace hE := hE.blk 29 #[.bool sp, .slice Ap np cp, .bool tp, .slice Bp mp dp] (g := g136) hg136.symm
   generalize w135.alloc (.cells #[.bool sp, .slice Ap np cp, .bool tp, .slice Bp mp dp] 29) = W136 at hE ⊢
   rw [← hg136]
   clear hg136
   have t1 := T1.out
   have t2 := T2.out
   have k137 := (hE.h2).cell 0
   have k138 := (hE.h2).cell 1
   have k139 := (hE.h2).cell 2
   have k140 := (hE.h2).cell 3
   have k141 := (hE.h2).cell 4
   have k142 := (hE.h2).cell 5
   have k143 := (hE.h2).cell 6
   have k144 := (hE.h2).cell 7
   have k145 := (hE.h2).cell 8
   go_upto_region 9 with (fail)
   clear k137 k138 k139 k140 k141 k142 k143 k144 k145
   clear t1 t2
   obtain ⟨g146, hg146⟩ : ∃ g146, g146 = W136.heap.size := ⟨_, rfl⟩
   have hl146_0 : w.heap.size < g146 := by rw [hg146]; exact (hE.h3).lt
   have hl146_1 : w.heap.size + 1 < g146 := by rw [hg146]; exact (hE.h2).lt
   have hl146_3 : g136 < g146 := by rw [hg146]; exact (hE.here.2).lt
   replace hE := hE.blk 36 #[.int .i64 x.E, .int .i64 x.Y, .int .i64 x.T, .bool x.p.s, .slice x.p.A x.p.n x.p.c, .bool x.p.t, .slice x.p.B x.p.m x.p.d, .slice x.A x.n x.c, .slice x.B x.m x.d] (g := g146) hg146.symm
   generalize W136.alloc (.cells #[.int .i64 x.E, .int .i64 x.Y, .int .i64 x.T, .bool x.p.s, .slice x.p.A x.p.n x.p.c, .bool x.p.t, .slice x.p.B x.p.m x.p.d, .slice x.A x.n x.c, .slice x.B x.m x.d] 36) = W146 at hE ⊢
   rw [← hg146]
   clear hg146
   go_wp2_with fail
   have hc := ffromInt_v 1 W146 (by decide) (by decide)
   change Calls _ _ _ _ (FR 1 _) at hc
   refine hE.fr (hc) ?_
   clear hE
   intro su Au nu cu tu Bu mu du w147 hE
   clear hc
   have hgl148 : w.heap.size ≤ g146 := by omega
   have hgr148 := (sets_grown [.bool su, .slice Au nu cu, .bool tu, .slice Bu mu du] 3 w147 ⟨_, hE.here.1.2, rfl⟩).1
   change w147.grownBy ((((w147.setCell ⟨g146, 3, none⟩ (.bool su)).setCell ⟨g146, 4, none⟩ (.slice Au nu cu)).setCell ⟨g146, 5, none⟩ (.bool tu)).setCell ⟨g146, 6, none⟩ (.slice Bu mu du)) _ at hgr148
   have x148_0 := (hE.here.1.2).cell 3
   have f148_0 := (hE.here.1.2).frozen 3
   have x148_1 := (hE.here.1.2).cell 4
   have f148_1 := (hE.here.1.2).frozen 4
   have x148_2 := (hE.here.1.2).cell 5
   have f148_2 := (hE.here.1.2).frozen 5
   have x148_3 := (hE.here.1.2).cell 6
   have f148_3 := (hE.here.1.2).frozen 6
   replace hE := (((((((Env.again (Go.Proofs.YtclbiihcbfnjmaaGreat.Below.grownB hE.bel hgr148 hE.bel.size hgl148)).blkI (Blk.grownB (hE.h5) hgr148 (by omega))).blkI (Blk.grownB (hE.h4) hgr148 (by omega))).fv ((hE.h3).grownB (hE.here.1.2) rfl hgr148)).blkI (Blk.grownB (hE.h2) hgr148 (by omega))).blkI (show Blk 36 g146 #[.int .i64 x.E, .int .i64 x.Y, .int .i64 x.T, .bool su, .slice Au nu cu, .bool tu, .slice Bu mu du, .slice x.A x.n x.c, .slice x.B x.m x.d] _ by simpa using ((((((((hE.here.1.2).set_ 3 (.bool su))).set_ 4 (.slice Au nu cu))).set_ 5 (.bool tu))).set_ 6 (.slice Bu mu du)))).fv ((hE.here.2).grownB (hE.here.1.2) rfl hgr148))
   go_upto_region 10 with (fail)
   clear x148_0 f148_0 x148_1 f148_1 x148_2 f148_2 x148_3 f148_3 hgl148 hgr148
   generalize ((((w147.setCell ⟨g146, 3, none⟩ (.bool su)).setCell ⟨g146, 4, none⟩ (.slice Au nu cu)).setCell ⟨g146, 5, none⟩ (.bool tu)).setCell ⟨g146, 6, none⟩ (.slice Bu mu du)) = V148 at hE ⊢
   have hq1 : (FHof 1 su Au nu cu tu Bu mu du).q = 1 := FHof.q_eq (hE.here.2)
   have huo : Ct.ok (x.with (FHof 1 su Au nu cu tu Bu mu du)) b := ⟨hok.1, hok.2.1, hok.2.2.1, prem_ok (hE.here.2) (by decide) (by rw [fl_le]; decide +kernel) cu du, hok.2.2.2.2⟩
   have hub : Ct.bd (x.with (FHof 1 su Au nu cu tu Bu mu du)) := ⟨hxb.1, ⟨Nat.le_trans huo.2.2.2.1.2.2.1 (by decide), Nat.le_trans huo.2.2.2.1.2.2.2 (by decide)⟩, hxb.2.2⟩
   have hur : Hid (Ct.rd (x.with (FHof 1 su Au nu cu tu Bu mu du)) V148) := Lib.hid ⟨(hE.here.2).rd, (Ct.rd_below Hhx.out hE.bel).2⟩
   have hW0 : Hid (Below V148.heap.size V148 V148) := Lib.hid (Below.refl _ _)
   replace hE := hE.and (fun V V' hb h => h.trans (hb.mono h.size)) (show Below V148.heap.size V148 V148 from Below.refl _ _)
   obtain ⟨k149, k150, k151, k152, k153, k154, k155⟩ := (hE.h6).c7
   have k156 := (hE.h2).cell 0
   have k157 := (hE.h2).cell 1
   have k158 := (hE.h2).cell 2
   have k159 := (hE.h2).cell 3
   have k160 := (hE.h2).cell 4
   have k161 := (hE.h2).cell 5
   have k162 := (hE.h2).cell 6
   have k163 := (hE.h2).cell 7
   have k164 := (hE.h2).cell 8
   go_wp2_with fail
   have hc := vequi_v (Bh.rd_below Hhb.out hE.bel) hbb (Ct.rd_below hur.out (hE.here.2)) hub huo N hN (by omega) T2.out
   change Calls _ _ _ _ (FOK (b.equ x N) _) at hc
   refine hE.fr (hc) ?_
   clear hE k149 k150 k151 k152 k153 k154 k155 k156 k157 k158 k159 k160 k161 k162 k163 k164
   intro sq Aq nq cq tq Bq mq dq w165 hE
   clear hc
   go_upto_region 11 with (fail)
   obtain ⟨g166, hg166⟩ : ∃ g166, g166 = w165.heap.size := ⟨_, rfl⟩
   replace hE := hE.blk 29 #[.bool sq, .slice Aq nq cq, .bool tq, .slice Bq mq dq] (g := g166) hg166.symm
   generalize w165.alloc (.cells #[.bool sq, .slice Aq nq cq, .bool tq, .slice Bq mq dq] 29) = W166 at hE ⊢
   rw [← hg166]
   clear hg166
   obtain ⟨k167, k168, k169, k170, k171, k172, k173⟩ := (hE.h8).c7
   have k174 := (hE.h4).cell 0
   have k175 := (hE.h4).cell 1
   have k176 := (hE.h4).cell 2
   have k177 := (hE.h4).cell 3
   have k178 := (hE.h4).cell 4
   have k179 := (hE.h4).cell 5
   have k180 := (hE.h4).cell 6
   have k181 := (hE.h4).cell 7
   have k182 := (hE.h4).cell 8
   go_wp2_with fail
   have hc := vpremt_v (Bh.rd_below Hhb.out hE.bel) hbb (Ct.rd_below hur.out (hE.h2)) hub huo N hN (by omega) 0 hN.pos
   change Calls _ _ _ _ (FOK (b.prm x (FHof 1 su Au nu cu tu Bu mu du).q N 0) _) at hc
   rw [hq1] at hc
   refine hE.fr (hc) ?_
   clear hE k167 k168 k169 k170 k171 k172 k173 k174 k175 k176 k177 k178 k179 k180 k181 k182
   intro sy Ay ny cy ty By my dy w183 hE
   clear hc
   go_upto_region 12 with (fail)
   obtain ⟨g184, hg184⟩ : ∃ g184, g184 = w183.heap.size := ⟨_, rfl⟩
   replace hE := hE.blk 29 #[.bool sy, .slice Ay ny cy, .bool ty, .slice By my dy] (g := g184) hg184.symm
   generalize w183.alloc (.cells #[.bool sy, .slice Ay ny cy, .bool ty, .slice By my dy] 29) = W184 at hE ⊢
   rw [← hg184]
   clear hg184
   obtain ⟨k185, k186, k187, k188, k189, k190, k191⟩ := (hE.h10).c7
   have k192 := (hE.h9).cell 0
   have k193 := (hE.h9).cell 1
   have k194 := (hE.h9).cell 2
   have k195 := (hE.h9).cell 3
   have k196 := (hE.h9).cell 4
   have k197 := (hE.h9).cell 5
   have k198 := (hE.h9).cell 6
   have k199 := (hE.h9).cell 7
   have k200 := (hE.h9).cell 8
   go_wp2_with fail
   refine hE.fr (vbene_v (Bh.rd_below Hhb.out hE.bel) hbb (Ct.rd_below Hhx.out hE.bel) hxb hok N hN (by omega) 0 hN.pos) ?_
   clear hE k185 k186 k187 k188 k189 k190 k191 k192 k193 k194 k195 k196 k197 k198 k199 k200
   intro sz Az nz cz tz Bz mz dz w201 hE
   go_upto_region 13 with (fail)
   obtain ⟨g202, hg202⟩ : ∃ g202, g202 = w201.heap.size := ⟨_, rfl⟩
   replace hE := hE.blk 29 #[.bool sz, .slice Az nz cz, .bool tz, .slice Bz mz dz] (g := g202) hg202.symm
   generalize w201.alloc (.cells #[.bool sz, .slice Az nz cz, .bool tz, .slice Bz mz dz] 29) = W202 at hE ⊢
   rw [← hg202]
   clear hg202
   obtain ⟨k203, k204, k205, k206, k207, k208, k209⟩ := (hE.h12).c7
   have k210 := (hE.h11).cell 0
   have k211 := (hE.h11).cell 1
   have k212 := (hE.h11).cell 2
   have k213 := (hE.h11).cell 3
   have k214 := (hE.h11).cell 4
   have k215 := (hE.h11).cell 5
   have k216 := (hE.h11).cell 6
   have k217 := (hE.h11).cell 7
   have k218 := (hE.h11).cell 8
   go_wp2_with fail
   refine hE.fr (vpros_v (Bh.rd_below Hhb.out hE.bel) hbb (Ct.rd_below Hhx.out hE.bel) hxb hok N hN (by omega) 0 hN.pos) ?_
   clear hE k203 k204 k205 k206 k207 k208 k209 k210 k211 k212 k213 k214 k215 k216 k217 k218
   intro sv Av nv cv tv Bv mv dv w219 hE
   go_upto_region 14 with (fail)
   obtain ⟨g220, hg220⟩ : ∃ g220, g220 = w219.heap.size := ⟨_, rfl⟩
   replace hE := hE.blk 29 #[.bool sv, .slice Av nv cv, .bool tv, .slice Bv mv dv] (g := g220) hg220.symm
   generalize w219.alloc (.cells #[.bool sv, .slice Av nv cv, .bool tv, .slice Bv mv dv] 29) = W220 at hE ⊢
   rw [← hg220]
   clear hg220
   replace hE := hE.drew
   refine wp_region_held_drew (S := fun V => Blk 29 (g136) #[.bool sp, .slice Ap np cp, .bool tp, .slice Bp mp dp] V ∧ Blk 29 (g166) #[.bool sq, .slice Aq nq cq, .bool tq, .slice Bq mq dq] V ∧ Blk 29 (g184) #[.bool sy, .slice Ay ny cy, .bool ty, .slice By my dy] V ∧ Blk 29 (g202) #[.bool sz, .slice Az nz cz, .bool tz, .slice Bz mz dz] V) (by kernel_rfl) (⟨hE.h11, hE.h6, hE.h4, hE.h2⟩) (fun hHeld => ?_)
   generalize W220.drew = wd at *
   refine YtclbiihcbfnjmaaGreat.tk 0 ?_
   try simp only [PL]
   refine YtclbiihcbfnjmaaGreat.tk 1 ?_
   try simp only [PL]
   refine YtclbiihcbfnjmaaGreat.tk 2 ?_
   try simp only [PL]
   refine YtclbiihcbfnjmaaGreat.tk 3 ?_
   try simp only [PL]
   refine YtclbiihcbfnjmaaGreat.tk 4 ?_
   try simp only [PL]
   refine YtclbiihcbfnjmaaGreat.tk 5 ?_
   try simp only [PL]
   refine YtclbiihcbfnjmaaGreat.tk 6 ?_
   try simp only [PL]
   refine YtclbiihcbfnjmaaGreat.tk 7 ?_
   try simp only [PL]
   refine YtclbiihcbfnjmaaGreat.tk 8 ?_
   try simp only [PL]
   refine YtclbiihcbfnjmaaGreat.tk 9 ?_
   try simp only [PL]
   refine YtclbiihcbfnjmaaGreat.tk 10 ?_
   try simp only [PL]
   refine YtclbiihcbfnjmaaGreat.tk 11 ?_
   try simp only [PL]
   refine YtclbiihcbfnjmaaGreat.tk 12 ?_
   try simp only [PL]
   refine YtclbiihcbfnjmaaGreat.tk 13 ?_
   try simp only [PL]
   refine YtclbiihcbfnjmaaGreat.tk 14 ?_
   try simp only [PL]
   refine YtclbiihcbfnjmaaGreat.tk 15 ?_
   try simp only [PL]
   refine YtclbiihcbfnjmaaGreat.tk 16 ?_
   try simp only [PL]
   refine YtclbiihcbfnjmaaGreat.tk 17 ?_
   try simp only [PL]
   refine YtclbiihcbfnjmaaGreat.tk 18 ?_
   try simp only [PL]
   refine YtclbiihcbfnjmaaGreat.tk 19 ?_ (hy := by
    intro w hSw
    have kc0 := (hSw.1).cell 0
    have kc1 := (hSw.1).cell 1
    have kc2 := (hSw.1).cell 2
    have kc3 := (hSw.1).cell 3
    clear hSw
    first | (go_simp; done) | (go_simp; with_reducible rfl))
   try simp only [PL]
   refine YtclbiihcbfnjmaaGreat.tk 20 ?_ (hy := by
    intro w hSw
    have kc0 := (hSw.2.1).cell 0
    have kc1 := (hSw.2.1).cell 1
    have kc2 := (hSw.2.1).cell 2
    have kc3 := (hSw.2.1).cell 3
    clear hSw
    first | (go_simp; done) | (go_simp; with_reducible rfl))
   try simp only [PL]
   refine r1 21 (fun K hK => ?_)
   go_simp
   refine hE.br (pw_equal (v := true) (ca := cp) (da := dp) (cb := cq) (db := dq) (hE.h12) (hE.h7) Hhef.out Hhef.out (decide_eq_true rfl)) ?_
   clear hE
   intro w221 hE
   go_wp2_with fail
   refine hK.out _ _ (⟨hE.h11, hE.h6, hE.h4, hE.h2⟩) (fun hHeld => ?_)
   clear hK K
   try simp only [PL]
   refine YtclbiihcbfnjmaaGreat.tk 22 ?_
   try simp only [PL]
   refine YtclbiihcbfnjmaaGreat.tk 23 ?_
   try simp only [PL]
   refine YtclbiihcbfnjmaaGreat.tk 24 ?_
   try simp only [PL]
   refine YtclbiihcbfnjmaaGreat.tk 25 ?_ (hy := by
    intro w hSw
    have kc0 := (hSw.1).cell 0
    have kc1 := (hSw.1).cell 1
    have kc2 := (hSw.1).cell 2
    have kc3 := (hSw.1).cell 3
    clear hSw
    first | (go_simp; done) | (go_simp; with_reducible rfl))
   try simp only [PL]
   refine YtclbiihcbfnjmaaGreat.tk 26 ?_ (hy := by
    intro w hSw
    have kc0 := (hSw.2.2.1).cell 0
    have kc1 := (hSw.2.2.1).cell 1
    have kc2 := (hSw.2.2.1).cell 2
    have kc3 := (hSw.2.2.1).cell 3
    clear hSw
    first | (go_simp; done) | (go_simp; with_reducible rfl))
   try simp only [PL]
   refine YtclbiihcbfnjmaaGreat.tk 28 ?_ (hy := by
    intro w hSw
    have kc0 := (hSw.2.2.2).cell 0
    have kc1 := (hSw.2.2.2).cell 1
    have kc2 := (hSw.2.2.2).cell 2
    have kc3 := (hSw.2.2.2).cell 3
    clear hSw
    first | (go_simp; done) | (go_simp; with_reducible rfl))
   try simp only [PL]
   refine r1 27 (fun K hK => ?_)
   go_simp
   have hc := pw_product (ca := cp) (da := dp) (cb := cy) (db := dy) (hE.h12) (hE.h5) Hhef.out (HhvU.out.a 0) (by rw [Hhmul.out]; exact HhvB.out.a 0)
   rw [Hhmul.out] at hc
   refine hE.fr (hc) ?_
   clear hE
   intro sr Ar nr cr tr Br mr dr w222 hE
   clear hc
   go_wp2_with fail
   refine hK.out _ _ (⟨hE.h12, hE.h7, hE.h5, hE.h3⟩) (fun hHeld => ?_)
   clear hK K
   try simp only [PL]
   refine r1 29 (fun K hK => ?_)
   go_simp
   refine hE.br (pw_equal (v := true) (ca := cr) (da := dr) (cb := cz) (db := dz) (hE.here.2) (hE.h4) (HhvB.out.a 0) (HhvB.out.a 0) (decide_eq_true rfl)) ?_
   clear hE
   intro w223 hE
   go_wp2_with fail
   refine hK.out _ _ (⟨hE.h12, hE.h7, hE.h5, hE.h3⟩) (fun hHeld => ?_)
   clear hK K
   try simp only [PL]
   refine YtclbiihcbfnjmaaGreat.tk 30 ?_
   try simp only [PL]
   refine YtclbiihcbfnjmaaGreat.tk 31 ?_
   try simp only [PL]
   refine wpAnyH_done (by kernel_rfl) ?_ _
   go_upto_region 16 with (fail)
   replace hE := hE.drew
   refine wp_region_held_drew (S := fun V => Blk 29 (g220) #[.bool sv, .slice Av nv cv, .bool tv, .slice Bv mv dv] V ∧ Blk 29 (g136) #[.bool sp, .slice Ap np cp, .bool tp, .slice Bp mp dp] V ∧ Blk 36 (w.heap.size + 1) #[.int .i64 x.E, .int .i64 x.Y, .int .i64 x.T, .bool x.p.s, .slice x.p.A x.p.n x.p.c, .bool x.p.t, .slice x.p.B x.p.m x.p.d, .slice x.A x.n x.c, .slice x.B x.m x.d] V) (by kernel_rfl) (⟨hE.here.1.2, hE.h12, hE.h14⟩) (fun hHeld => ?_)
   generalize w223.drew = wd at *
   refine YtclbiihcbfnjmaaGreat.tk 0 ?_ (hy := by
    intro w hSw
    have kc0 := (hSw.1).cell 0
    have kc1 := (hSw.1).cell 1
    have kc2 := (hSw.1).cell 2
    have kc3 := (hSw.1).cell 3
    clear hSw
    first | (go_simp; done) | (go_simp; with_reducible rfl))
   try simp only [PL]
   refine YtclbiihcbfnjmaaGreat.tk 3 ?_ (hy := by
    intro w hSw
    have kc0 := (hSw.2.1).cell 0
    have kc1 := (hSw.2.1).cell 1
    have kc2 := (hSw.2.1).cell 2
    have kc3 := (hSw.2.1).cell 3
    clear hSw
    first | (go_simp; done) | (go_simp; with_reducible rfl))
   try simp only [PL]
   refine YtclbiihcbfnjmaaGreat.tk 4 ?_
   try simp only [PL]
   refine YtclbiihcbfnjmaaGreat.tk 5 ?_ (hy := by
    intro w hSw
    have kc3 := (hSw.2.2).cell 3
    have kc4 := (hSw.2.2).cell 4
    have kc5 := (hSw.2.2).cell 5
    have kc6 := (hSw.2.2).cell 6
    clear hSw
    first | (go_simp; done) | (go_simp; with_reducible rfl))
   try simp only [PL]
   refine r1 1 (fun K hK => ?_)
   go_simp
   refine hE.fr (ffromInt_v 0 _ (by decide) (by decide)) ?_
   clear hE
   intro sk Ak nk ck tk Bk mk dk w224 hE
   go_wp2_with fail
   refine hK.out _ _ (⟨hE.h2, hE.h13, hE.h15⟩) (fun hHeld => ?_)
   clear hK K
   try simp only [PL]
   refine r1 2 (fun K hK => ?_)
   go_simp
   refine hE.br (fcmp_v (ca := cv) (da := dv) (cb := ck) (db := dk) (hE.h3) (hE.here.2) (Hhvl.out.a 0) (by decide)) ?_
   clear hE
   intro w225 hE
   go_wp2_with fail
   refine hK.out _ _ (⟨hE.h2, hE.h13, hE.h15⟩) (fun hHeld => ?_)
   clear hK K
   try simp only [PL]
   refine r1 6 (fun K hK => ?_)
   go_simp
   refine hE.br (fcmp_v (ca := cp) (da := dp) (cb := x.p.c) (db := x.p.d) (hE.h14) (Hhpf.out.below hE.bel) Hhef.out Hhpl.out) ?_
   clear hE
   intro w226 hE
   go_wp2_with fail
   refine hK.out _ _ (⟨hE.h2, hE.h13, hE.h15⟩) (fun hHeld => ?_)
   clear hK K
   try simp only [PL]
   refine YtclbiihcbfnjmaaGreat.tk 7 ?_
   try simp only [PL]
   refine YtclbiihcbfnjmaaGreat.tk 8 ?_
   try simp only [PL]
   refine wpAnyH_done (by kernel_rfl) ?_ _
   have tc : cmpQ (b.val x N 0) 0 = cmpQ (b.equ x N) x.p.q := Hhcmp.out
   go_wp2_with fail
   go_ret
   exact ⟨by rw [tc]; simp, hE.bel⟩
 ·
  have Hhb := Lib.hid hb
  clear hb
  have Hhx := Lib.hid hx
  clear hx
  have HhU := Lib.hid hU
  clear hU
  have hE := ((Env.start w).blk 31 #[.int .i64 b.F, .int .i64 b.S, .slice b.A b.n b.c, .bool b.i.s, .slice b.i.A b.i.n b.i.c, .bool b.i.t, .slice b.i.B b.i.m b.i.d] (g := w.heap.size) rfl).blk 36 #[.int .i64 x.E, .int .i64 x.Y, .int .i64 x.T, .bool x.p.s, .slice x.p.A x.p.n x.p.c, .bool x.p.t, .slice x.p.B x.p.m x.p.d, .slice x.A x.n x.c, .slice x.B x.m x.d] (g := w.heap.size + 1) (by simp)
  obtain ⟨W0, hW0⟩ : ∃ W0, W0 = ((w.alloc (.cells #[.int .i64 b.F, .int .i64 b.S, .slice b.A b.n b.c, .bool b.i.s, .slice b.i.A b.i.n b.i.c, .bool b.i.t, .slice b.i.B b.i.m b.i.d] 31)).alloc (.cells #[.int .i64 x.E, .int .i64 x.Y, .int .i64 x.T, .bool x.p.s, .slice x.p.A x.p.n x.p.c, .bool x.p.t, .slice x.p.B x.p.m x.p.d, .slice x.A x.n x.c, .slice x.B x.m x.d] 36)) := ⟨_, rfl⟩
  rw [← hW0] at hE
  have HW0 := Lib.hid hW0
  clear hW0
  go_enter Tryz.func5, Tryz.ntmps5
  go_upto_region 1 with (fail)
  rw [← HW0.out]
  go_wp2_with fail
  refine hE.br (awakeP_t _) ?_
  clear hE
  intro w1 hE
  obtain ⟨k2, k3, k4, k5, k6, k7, k8⟩ := (hE.here.1.2).c7
  have k9 := (hE.here.2).cell 0
  have k10 := (hE.here.2).cell 1
  have k11 := (hE.here.2).cell 2
  have k12 := (hE.here.2).cell 3
  have k13 := (hE.here.2).cell 4
  have k14 := (hE.here.2).cell 5
  have k15 := (hE.here.2).cell 6
  have k16 := (hE.here.2).cell 7
  have k17 := (hE.here.2).cell 8
  go_wp2_with fail
  refine hE.br (pusable_f (Bh.rd_below Hhb.out hE.bel) (Ct.rd_below Hhx.out hE.bel) hT HhU.out) ?_
  clear hE k2 k3 k4 k5 k6 k7 k8 k9 k10 k11 k12 k13 k14 k15 k16 k17
  intro w18 hE
  go_wp2_with fail
  go_ret
  exact ⟨rfl, hE.bel⟩
end Go.Proofs.YtclbiihcbfnjmaaGreat
