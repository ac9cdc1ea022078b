/-
  The walk.
-/
import Derived.Test.YtmjlankpihnicaaGreatK1
import Derived.Test.YtmjlankpihnicaaGreatHk
import Derived.Test.YtmjlankpihnicaaGreatCIntM
namespace Go.Proofs.YtmjlankpihnicaaGreat
open Go.RowKit

theorem bel7 {w W : World} {g : Nat} (h : Below w.heap.size w W) (hg : w.heap.size ≤ g) (a b c d e f y : Value) : Below w.heap.size w (((((((W.setCell ⟨g, 0, none⟩ a).setCell ⟨g, 1, none⟩ b).setCell ⟨g, 2, none⟩ c).setCell ⟨g, 3, none⟩ d).setCell ⟨g, 4, none⟩ e).setCell ⟨g, 5, none⟩ f).setCell ⟨g, 6, none⟩ y) := (((bel4 h hg a b c d).setCell (p := ⟨g, 4, none⟩) hg _).setCell (p := ⟨g, 5, none⟩) hg _).setCell (p := ⟨g, 6, none⟩) hg _
section
variable {w : World} {g R : Nat} {t : TypeId} {cs : Array Value}
theorem Blk.far7 (h : Blk t g cs w) (hp : g ≠ R) (a b c d e f y : Value) : Blk t g cs (((((((w.setCell ⟨R, 0, none⟩ a).setCell ⟨R, 1, none⟩ b).setCell ⟨R, 2, none⟩ c).setCell ⟨R, 3, none⟩ d).setCell ⟨R, 4, none⟩ e).setCell ⟨R, 5, none⟩ f).setCell ⟨R, 6, none⟩ y) := (((h.far4 hp a b c d).far (p := ⟨R, 4, none⟩) hp e).far (p := ⟨R, 5, none⟩) hp f).far (p := ⟨R, 6, none⟩) hp y
theorem Blk.s7 {a0 a1 a2 a3 a4 a5 a6 : Value} (h : Blk t g #[a0, a1, a2, a3, a4, a5, a6] w) (a b c d e f y : Value) : Blk t g #[a, b, c, d, e, f, y] (((((((w.setCell ⟨g, 0, none⟩ a).setCell ⟨g, 1, none⟩ b).setCell ⟨g, 2, none⟩ c).setCell ⟨g, 3, none⟩ d).setCell ⟨g, 4, none⟩ e).setCell ⟨g, 5, none⟩ f).setCell ⟨g, 6, none⟩ y) := by
 have := ((((((h.set_ 0 a).set_ 1 b).set_ 2 c).set_ 3 d).set_ 4 e).set_ 5 f).set_ 6 y
 simpa using this
theorem FV.sep7 {q : Rat} {s t' : Bool} {A B : Option Addr} {n m : Nat} {x0 x1 x2 x3 x4 x5 x6 : Value} (h : FV w q s A n t' B m) (hW : Blk t g #[x0, x1, x2, x3, x4, x5, x6] w) (hn : [x0, x1, x2, x3, x4, x5, x6].all noLimb = true) (a b c d e f y : Value) (ha : noLimb a = true) (hb : noLimb b = true) (hc : noLimb c = true) (hd : noLimb d = true) (he : noLimb e = true) (hf : noLimb f = true) :
  FV (((((((w.setCell ⟨g, 0, none⟩ a).setCell ⟨g, 1, none⟩ b).setCell ⟨g, 2, none⟩ c).setCell ⟨g, 3, none⟩ d).setCell ⟨g, 4, none⟩ e).setCell ⟨g, 5, none⟩ f).setCell ⟨g, 6, none⟩ y) q s A n t' B m := by
 simp only [List.all_cons, List.all_nil, Bool.and_true, Bool.and_eq_true] at hn
 obtain ⟨h0, h1, h2, h3, h4, h5, h6⟩ := hn
 refine ((((((h.sep hW (by simp [*]) a).sep (hW.set_ 0 a) ?_ b).sep ((hW.set_ 0 a).set_ 1 b) ?_ c).sep (((hW.set_ 0 a).set_ 1 b).set_ 2 c) ?_ d).sep ((((hW.set_ 0 a).set_ 1 b).set_ 2 c).set_ 3 d) ?_ e).sep (((((hW.set_ 0 a).set_ 1 b).set_ 2 c).set_ 3 d).set_ 4 e) ?_ f).sep ((((((hW.set_ 0 a).set_ 1 b).set_ 2 c).set_ 3 d).set_ 4 e).set_ 5 f) ?_ y
 all_goals simp [*]
end
set_option linter.unusedSimpArgs false in
set_option maxRecDepth 100000 in
set_option maxHeartbeats 8000000 in
theorem cinterest_walk (F S E Y : Int) (A : Option Addr) (n c : Nat) (r : Nat → RH) (si ti : Bool) (Ai Bi : Option Addr) (ni mi ci di : Nat) (fi gi : Nat → Nat) (w : World) (hT : TabM w A n r) (hr : FRd w Ai ni fi Bi mi gi) (x : Int) (x0 : 0 ≤ x) (x1 : x ≤ 255) (y : Int) (y0 : 0 ≤ y) (y1 : y ≤ 255) (z : Int) (z0 : 0 ≤ z) (z1 : z ≤ 255) :
  Calls Tryz.prog 9 #[.agg #[.int .i64 F, .int .i64 S, .slice A n c, .bool si, .slice Ai ni ci, .bool ti, .slice Bi mi di], .agg #[.int .i64 E, .int .i64 Y], .int .u8 x, .int .u8 y, .int .u8 z] w fun e w' => e = .returned (.bool true) ∧ Below w.heap.size w w' := by
 by_cases hU : UsB F S n r E Y si ni fi ti mi gi
 ·
  by_cases hz : z = 0
  ·
   have t1 : (z == 0) = true := by rw [beq_iff_eq]; exact hz
   have HT := Lib.hid hT
   have Hr := Lib.hid hr
   have HU := Lib.hid hU
   clear hT hr hU
   have hE := ((Env.start w).blk 31 #[.int .i64 F, .int .i64 S, .slice A n c, .bool si, .slice Ai ni ci, .bool ti, .slice Bi mi di] (g := w.heap.size) rfl).blk 33 #[.int .i64 E, .int .i64 Y] (g := w.heap.size + 1) (by simp)
   obtain ⟨W0, hW0⟩ : ∃ W0, W0 = ((w.alloc (.cells #[.int .i64 F, .int .i64 S, .slice A n c, .bool si, .slice Ai ni ci, .bool ti, .slice Bi mi di] 31)).alloc (.cells #[.int .i64 E, .int .i64 Y] 33)) := ⟨_, rfl⟩
   rw [← hW0] at hE
   have HW0 := Lib.hid hW0
   clear hW0
   go_enter Tryz.func9, Tryz.ntmps9
   go_upto_region 1 with (fail)
   rw [← HW0.out]
   go_wp2_with fail
   refine hE.br (awakeB_t _) ?_
   clear hE
   intro w1 hE
   obtain ⟨k2, k3, k4, k5, k6, k7, k8⟩ := (hE.here.1.2).c7
   obtain ⟨k9, k10⟩ := (hE.here.2).c2
   go_wp2_with fail
   refine hE.br (usableB_t (HT.out.below hE.bel) (Hr.out.below hE.bel) HU.out) ?_
   clear hE k2 k3 k4 k5 k6 k7 k8 k9 k10
   intro w11 hE
   go_wp2_with fail
   go_ret
   exact ⟨rfl, hE.bel⟩
  obtain ⟨hB, hn, hm, hbk, hR, N, h21, hN⟩ := hU.get (1 / (1 + qOf si ni fi mi gi))
  obtain ⟨hqv, hi⟩ := intB_rti hr hbk.2
  have hok := hbk.1
  have hrts := rt_rates hT hR N
  obtain ⟨i, hi0⟩ : ∃ i, i = qOf si ni fi mi gi := ⟨_, rfl⟩
  rw [← hi0] at hqv hi hN
  obtain ⟨lq, li2, hle⟩ := more_fl hi y z y0 y1 (by omega) z1
  obtain ⟨n1, n2, ls, ls1⟩ := no_interest hi hN h21 hrts
  have hli := Nat.le_trans hi.fl (show 1 ≤ 256 by decide)
  obtain ⟨ft, rfl⟩ : ∃ k : Nat, x = (k : Int) := ⟨x.toNat, by omega⟩
  have hN0 := hN.rate hi.dis.1 Rti.zero.dis.1
  have t1 : (z == 0) = false := by rw [beq_eq_false_iff_ne]; omega
  have hz0 : z ≠ 0 := by omega
  have oy : IntKind.i64.wrap y = y := by rw [IntKind.wrap_i64]; omega
  have oz : IntKind.i64.wrap z = z := by rw [IntKind.wrap_i64]; omega
  clear hi0 hz hbk
  have HT := Lib.hid hT
  have Hr := Lib.hid hr
  have HU := Lib.hid hU
  have HB := Lib.hid hB
  have HR := Lib.hid hR
  have HN := Lib.hid hN
  have HN0 := Lib.hid hN0
  have Hok := Lib.hid hok
  have Hrts := Lib.hid hrts
  have Hi := Lib.hid hi
  have Hqv := Lib.hid hqv
  have Hlq := Lib.hid lq
  have Hli2 := Lib.hid li2
  have Hle := Lib.hid hle
  have Hn1 := Lib.hid n1
  have Hn2 := Lib.hid n2
  have Hls := Lib.hid ls
  have Hls1 := Lib.hid ls1
  have Hli := Lib.hid hli
  have Hz0 := Lib.hid hz0
  clear hT hr hU hB hR hN hN0 hok hrts hi hqv lq li2 hle n1 n2 ls ls1 hli hz0
  have hE := ((Env.start w).blk 31 #[.int .i64 F, .int .i64 S, .slice A n c, .bool si, .slice Ai ni ci, .bool ti, .slice Bi mi di] (g := w.heap.size) rfl).blk 33 #[.int .i64 E, .int .i64 Y] (g := w.heap.size + 1) (by simp)
  obtain ⟨W0, hW0⟩ : ∃ W0, W0 = ((w.alloc (.cells #[.int .i64 F, .int .i64 S, .slice A n c, .bool si, .slice Ai ni ci, .bool ti, .slice Bi mi di] 31)).alloc (.cells #[.int .i64 E, .int .i64 Y] 33)) := ⟨_, rfl⟩
  rw [← hW0] at hE
  have HW0 := Lib.hid hW0
  clear hW0
  go_enter Tryz.func9, Tryz.ntmps9
  go_upto_region 1 with (fail)
  rw [← HW0.out]
  go_wp2_with fail
  refine hE.br (awakeB_t _) ?_
  clear hE
  intro w1 hE
  obtain ⟨k2, k3, k4, k5, k6, k7, k8⟩ := (hE.here.1.2).c7
  obtain ⟨k9, k10⟩ := (hE.here.2).c2
  go_wp2_with fail
  refine hE.br (usableB_t (HT.out.below hE.bel) (Hr.out.below hE.bel) HU.out) ?_
  clear hE k2 k3 k4 k5 k6 k7 k8 k9 k10
  intro w11 hE
  go_upto_region 5 with (fail)
  replace hE := hE.fv (Hqv.out.below hE.bel)
  go_cut [11] from 37 to 48 (fun p0 wx => ∃ G5 sq Aq nq cq tq Bq mq dq sg Ag ng cg tg Bg mg dg, p0 = .pointer (some ⟨G5, 0, none⟩) ∧ w.heap.size + 1 < G5 ∧ Env w (fun V => ((((((True ∧ Blk 31 (w.heap.size) #[.int .i64 F, .int .i64 S, .slice A n c, .bool si, .slice Ai ni ci, .bool ti, .slice Bi mi di] V) ∧ Blk 33 (w.heap.size + 1) #[.int .i64 E, .int .i64 Y] V) ∧ FV V i si Ai ni ti Bi mi) ∧ FV V (Rat.divInt y z) sq Aq nq tq Bq mq) ∧ FV V (i + Rat.divInt y z) sg Ag ng tg Bg mg) ∧ Blk 31 (G5) #[.int .i64 F, .int .i64 S, .slice A n c, .bool sg, .slice Ag ng cg, .bool tg, .slice Bg mg dg] V)) wx)
  case first =>
   replace hE := hE.drew
   refine wp_region_held_drew (S := fun w' => w'.cell? ⟨w.heap.size, 0, none⟩ = some (.int .i64 F) ∧ w'.cell? ⟨w.heap.size, 1, none⟩ = some (.int .i64 S) ∧ w'.cell? ⟨w.heap.size, 2, none⟩ = some (.slice A n c) ∧ w'.cell? ⟨w.heap.size, 3, none⟩ = some (.bool si) ∧ w'.cell? ⟨w.heap.size, 4, none⟩ = some (.slice Ai ni ci) ∧ w'.cell? ⟨w.heap.size, 5, none⟩ = some (.bool ti) ∧ w'.cell? ⟨w.heap.size, 6, none⟩ = some (.slice Bi mi di)) (by kernel_rfl) (⟨(hE.h2).c7.1, (hE.h2).c7.2.1, (hE.h2).c7.2.2.1, (hE.h2).c7.2.2.2.1, (hE.h2).c7.2.2.2.2.1, (hE.h2).c7.2.2.2.2.2.1, (hE.h2).c7.2.2.2.2.2.2⟩) (fun hHeld => ?_)
   generalize w11.drew = wd at *
   refine tk 0 ?_
   try simp only [PL]
   refine tk 1 ?_
   try simp only [PL]
   refine tk 2 ?_
   try simp only [PL]
   refine tk 3 ?_
   try simp only [PL]
   refine tk 4 ?_
   try simp only [PL]
   refine tk 5 ?_
   try simp only [PL]
   refine tk 6 ?_
   try simp only [PL]
   refine tk 7 ?_
   try simp only [PL]
   refine wpAnyH_ready (rs := [8, 11]) (by kernel_rfl) (by simp) (AllReadyH.cons rfl (fun K hK => ?_) (AllReadyH.cons rfl (fun K hK => ?_) (AllReadyH.nil)))
   ·
    go_simp
    refine hE.fr (rquick_v y z _ (by omega) (by omega) (by omega) (by omega) Hz0.out) ?_
    clear hE
    intro sq Aq nq cq tq Bq mq dq w12 hE
    go_wp2_with fail
    refine hK.out _ _ (⟨(hE.h3).c7.1, (hE.h3).c7.2.1, (hE.h3).c7.2.2.1, (hE.h3).c7.2.2.2.1, (hE.h3).c7.2.2.2.2.1, (hE.h3).c7.2.2.2.2.2.1, (hE.h3).c7.2.2.2.2.2.2⟩) (fun hHeld => ?_)
    clear hK K
    try simp only [PL]
    refine wpAnyH_ready (rs := [9, 11]) (by kernel_rfl) (by simp) (AllReadyH.cons rfl (fun K hK => ?_) (AllReadyH.cons rfl (fun K hK => ?_) (AllReadyH.nil)))
    ·
     go_simp
     refine hE.fr (cw_sum (ca := ci) (da := di) (cb := cq) (db := dq) (hE.here.1.2) (hE.here.2) Hli.out Hlq.out Hli2.out) ?_
     clear hE
     intro sg Ag ng cg tg Bg mg dg w13 hE
     go_wp2_with fail
     refine hK.out _ _ (⟨(hE.h4).c7.1, (hE.h4).c7.2.1, (hE.h4).c7.2.2.1, (hE.h4).c7.2.2.2.1, (hE.h4).c7.2.2.2.2.1, (hE.h4).c7.2.2.2.2.2.1, (hE.h4).c7.2.2.2.2.2.2⟩) (fun hHeld => ?_)
     clear hK K
     try simp only [PL]
     refine tk 10 ?_
     try simp only [PL]
     refine r1 11 (fun K hK => ?_)
     go_simp
     obtain ⟨g14, hg14⟩ : ∃ g14, g14 = w13.heap.size := ⟨_, rfl⟩
     have hl14_0 : w.heap.size < g14 := by rw [hg14]; exact (hE.h4).lt
     have hl14_1 : w.heap.size + 1 < g14 := by rw [hg14]; exact (hE.h3).lt
     replace hE := hE.blk 31 #[.int .i64 0, .int .i64 0, .slice none 0 0, .bool false, .slice none 0 0, .bool false, .slice none 0 0] (g := g14) hg14.symm
     generalize w13.alloc (.cells #[.int .i64 0, .int .i64 0, .slice none 0 0, .bool false, .slice none 0 0, .bool false, .slice none 0 0] 31) = W14 at hE ⊢
     rw [← hg14]
     clear hg14
     refine hK.out _ _ (⟨(hE.h5).c7.1, (hE.h5).c7.2.1, (hE.h5).c7.2.2.1, (hE.h5).c7.2.2.2.1, (hE.h5).c7.2.2.2.2.1, (hE.h5).c7.2.2.2.2.2.1, (hE.h5).c7.2.2.2.2.2.2⟩) (fun hHeld => ?_)
     clear hK K
     try simp only [PL]
     refine r1 12 (fun K hK => ?_)
     have hgl15 : w.heap.size ≤ g14 := by omega
     obtain ⟨x15_0, x15_1, x15_2, x15_3, x15_4, x15_5, x15_6⟩ := (hE.here.2).c7
     have f15_0 := (hE.here.2).frozen 0
     have f15_1 := (hE.here.2).frozen 1
     have f15_2 := (hE.here.2).frozen 2
     have f15_3 := (hE.here.2).frozen 3
     have f15_4 := (hE.here.2).frozen 4
     have f15_5 := (hE.here.2).frozen 5
     have f15_6 := (hE.here.2).frozen 6
     replace hE := (((((((Env.again (bel7 hE.bel hgl15 (.int .i64 F) (.int .i64 S) (.slice A n c) (.bool sg) (.slice Ag ng cg) (.bool tg) (.slice Bg mg dg))).blkI ((hE.h5).far7 (R := g14) (by omega) (.int .i64 F) (.int .i64 S) (.slice A n c) (.bool sg) (.slice Ag ng cg) (.bool tg) (.slice Bg mg dg))).blkI ((hE.h4).far7 (R := g14) (by omega) (.int .i64 F) (.int .i64 S) (.slice A n c) (.bool sg) (.slice Ag ng cg) (.bool tg) (.slice Bg mg dg))).fv ((hE.h3).sep7 hE.here.2 rfl (.int .i64 F) (.int .i64 S) (.slice A n c) (.bool sg) (.slice Ag ng cg) (.bool tg) (.slice Bg mg dg) rfl rfl rfl rfl rfl rfl)).fv ((hE.h2).sep7 hE.here.2 rfl (.int .i64 F) (.int .i64 S) (.slice A n c) (.bool sg) (.slice Ag ng cg) (.bool tg) (.slice Bg mg dg) rfl rfl rfl rfl rfl rfl)).fv ((hE.here.1.2).sep7 hE.here.2 rfl (.int .i64 F) (.int .i64 S) (.slice A n c) (.bool sg) (.slice Ag ng cg) (.bool tg) (.slice Bg mg dg) rfl rfl rfl rfl rfl rfl)).blkI ((hE.here.2).s7 (.int .i64 F) (.int .i64 S) (.slice A n c) (.bool sg) (.slice Ag ng cg) (.bool tg) (.slice Bg mg dg)))
     go_simp
     clear x15_0 x15_1 x15_2 x15_3 x15_4 x15_5 x15_6 f15_0 f15_1 f15_2 f15_3 f15_4 f15_5 f15_6 hgl15
     generalize (((((((W14.setCell ⟨g14, 0, none⟩ (.int .i64 F)).setCell ⟨g14, 1, none⟩ (.int .i64 S)).setCell ⟨g14, 2, none⟩ (.slice A n c)).setCell ⟨g14, 3, none⟩ (.bool sg)).setCell ⟨g14, 4, none⟩ (.slice Ag ng cg)).setCell ⟨g14, 5, none⟩ (.bool tg)).setCell ⟨g14, 6, none⟩ (.slice Bg mg dg)) = W15 at hE ⊢
     refine hK.out _ _ (⟨(hE.h5).c7.1, (hE.h5).c7.2.1, (hE.h5).c7.2.2.1, (hE.h5).c7.2.2.2.1, (hE.h5).c7.2.2.2.2.1, (hE.h5).c7.2.2.2.2.2.1, (hE.h5).c7.2.2.2.2.2.2⟩) (fun hHeld => ?_)
     clear hK K
     try simp only [PL]
     refine wpAnyH_done (by kernel_rfl) ?_ _
     go_wp2_with fail
     go_meet
     exact ⟨g14, sq, Aq, nq, cq, tq, Bq, mq, dq, sg, Ag, ng, cg, tg, Bg, mg, dg, rfl, by omega, (((((((Env.again hE.bel).blkI (hE.h5)).blkI (hE.h4)).fv (hE.h3)).fv (hE.h2)).fv (hE.here.1.2)).blkI (hE.here.2))⟩
    ·
     go_simp
     obtain ⟨g16, hg16⟩ : ∃ g16, g16 = w12.heap.size := ⟨_, rfl⟩
     have hl16_0 : w.heap.size < g16 := by rw [hg16]; exact (hE.h3).lt
     have hl16_1 : w.heap.size + 1 < g16 := by rw [hg16]; exact (hE.h2).lt
     replace hE := hE.blk 31 #[.int .i64 0, .int .i64 0, .slice none 0 0, .bool false, .slice none 0 0, .bool false, .slice none 0 0] (g := g16) hg16.symm
     generalize w12.alloc (.cells #[.int .i64 0, .int .i64 0, .slice none 0 0, .bool false, .slice none 0 0, .bool false, .slice none 0 0] 31) = W16 at hE ⊢
     rw [← hg16]
     clear hg16
     refine hK.out _ _ (⟨(hE.h4).c7.1, (hE.h4).c7.2.1, (hE.h4).c7.2.2.1, (hE.h4).c7.2.2.2.1, (hE.h4).c7.2.2.2.2.1, (hE.h4).c7.2.2.2.2.2.1, (hE.h4).c7.2.2.2.2.2.2⟩) (fun hHeld => ?_)
     clear hK K
     try simp only [PL]
     refine r1 9 (fun K hK => ?_)
     go_simp
     refine hE.fr (cw_sum (ca := ci) (da := di) (cb := cq) (db := dq) (hE.h2) (hE.here.1.2) Hli.out Hlq.out Hli2.out) ?_
     clear hE
     intro sg Ag ng cg tg Bg mg dg w17 hE
     go_wp2_with fail
     refine hK.out _ _ (⟨(hE.h5).c7.1, (hE.h5).c7.2.1, (hE.h5).c7.2.2.1, (hE.h5).c7.2.2.2.1, (hE.h5).c7.2.2.2.2.1, (hE.h5).c7.2.2.2.2.2.1, (hE.h5).c7.2.2.2.2.2.2⟩) (fun hHeld => ?_)
     clear hK K
     try simp only [PL]
     refine tk 10 ?_
     try simp only [PL]
     refine r1 12 (fun K hK => ?_)
     have hgl18 : w.heap.size ≤ g16 := by omega
     obtain ⟨x18_0, x18_1, x18_2, x18_3, x18_4, x18_5, x18_6⟩ := (hE.here.1.2).c7
     have f18_0 := (hE.here.1.2).frozen 0
     have f18_1 := (hE.here.1.2).frozen 1
     have f18_2 := (hE.here.1.2).frozen 2
     have f18_3 := (hE.here.1.2).frozen 3
     have f18_4 := (hE.here.1.2).frozen 4
     have f18_5 := (hE.here.1.2).frozen 5
     have f18_6 := (hE.here.1.2).frozen 6
     replace hE := (((((((Env.again (bel7 hE.bel hgl18 (.int .i64 F) (.int .i64 S) (.slice A n c) (.bool sg) (.slice Ag ng cg) (.bool tg) (.slice Bg mg dg))).blkI ((hE.h5).far7 (R := g16) (by omega) (.int .i64 F) (.int .i64 S) (.slice A n c) (.bool sg) (.slice Ag ng cg) (.bool tg) (.slice Bg mg dg))).blkI ((hE.h4).far7 (R := g16) (by omega) (.int .i64 F) (.int .i64 S) (.slice A n c) (.bool sg) (.slice Ag ng cg) (.bool tg) (.slice Bg mg dg))).fv ((hE.h3).sep7 hE.here.1.2 rfl (.int .i64 F) (.int .i64 S) (.slice A n c) (.bool sg) (.slice Ag ng cg) (.bool tg) (.slice Bg mg dg) rfl rfl rfl rfl rfl rfl)).fv ((hE.h2).sep7 hE.here.1.2 rfl (.int .i64 F) (.int .i64 S) (.slice A n c) (.bool sg) (.slice Ag ng cg) (.bool tg) (.slice Bg mg dg) rfl rfl rfl rfl rfl rfl)).blkI ((hE.here.1.2).s7 (.int .i64 F) (.int .i64 S) (.slice A n c) (.bool sg) (.slice Ag ng cg) (.bool tg) (.slice Bg mg dg))).fv ((hE.here.2).sep7 hE.here.1.2 rfl (.int .i64 F) (.int .i64 S) (.slice A n c) (.bool sg) (.slice Ag ng cg) (.bool tg) (.slice Bg mg dg) rfl rfl rfl rfl rfl rfl))
     go_simp
     clear x18_0 x18_1 x18_2 x18_3 x18_4 x18_5 x18_6 f18_0 f18_1 f18_2 f18_3 f18_4 f18_5 f18_6 hgl18
     generalize (((((((w17.setCell ⟨g16, 0, none⟩ (.int .i64 F)).setCell ⟨g16, 1, none⟩ (.int .i64 S)).setCell ⟨g16, 2, none⟩ (.slice A n c)).setCell ⟨g16, 3, none⟩ (.bool sg)).setCell ⟨g16, 4, none⟩ (.slice Ag ng cg)).setCell ⟨g16, 5, none⟩ (.bool tg)).setCell ⟨g16, 6, none⟩ (.slice Bg mg dg)) = W18 at hE ⊢
     refine hK.out _ _ (⟨(hE.h5).c7.1, (hE.h5).c7.2.1, (hE.h5).c7.2.2.1, (hE.h5).c7.2.2.2.1, (hE.h5).c7.2.2.2.2.1, (hE.h5).c7.2.2.2.2.2.1, (hE.h5).c7.2.2.2.2.2.2⟩) (fun hHeld => ?_)
     clear hK K
     try simp only [PL]
     refine wpAnyH_done (by kernel_rfl) ?_ _
     go_wp2_with fail
     go_meet
     exact ⟨g16, sq, Aq, nq, cq, tq, Bq, mq, dq, sg, Ag, ng, cg, tg, Bg, mg, dg, rfl, by omega, (((((((Env.again hE.bel).blkI (hE.h5)).blkI (hE.h4)).fv (hE.h3)).fv (hE.h2)).fv (hE.here.2)).blkI (hE.here.1.2))⟩
   ·
    go_simp
    obtain ⟨g19, hg19⟩ : ∃ g19, g19 = wd.heap.size := ⟨_, rfl⟩
    have hl19_0 : w.heap.size < g19 := by rw [hg19]; exact (hE.h2).lt
    have hl19_1 : w.heap.size + 1 < g19 := by rw [hg19]; exact (hE.here.1.2).lt
    replace hE := hE.blk 31 #[.int .i64 0, .int .i64 0, .slice none 0 0, .bool false, .slice none 0 0, .bool false, .slice none 0 0] (g := g19) hg19.symm
    generalize wd.alloc (.cells #[.int .i64 0, .int .i64 0, .slice none 0 0, .bool false, .slice none 0 0, .bool false, .slice none 0 0] 31) = W19 at hE ⊢
    rw [← hg19]
    clear hg19
    refine hK.out _ _ (⟨(hE.h3).c7.1, (hE.h3).c7.2.1, (hE.h3).c7.2.2.1, (hE.h3).c7.2.2.2.1, (hE.h3).c7.2.2.2.2.1, (hE.h3).c7.2.2.2.2.2.1, (hE.h3).c7.2.2.2.2.2.2⟩) (fun hHeld => ?_)
    clear hK K
    try simp only [PL]
    refine r1 8 (fun K hK => ?_)
    go_simp
    refine hE.fr (rquick_v y z _ (by omega) (by omega) (by omega) (by omega) Hz0.out) ?_
    clear hE
    intro sq Aq nq cq tq Bq mq dq w20 hE
    go_wp2_with fail
    refine hK.out _ _ (⟨(hE.h4).c7.1, (hE.h4).c7.2.1, (hE.h4).c7.2.2.1, (hE.h4).c7.2.2.2.1, (hE.h4).c7.2.2.2.2.1, (hE.h4).c7.2.2.2.2.2.1, (hE.h4).c7.2.2.2.2.2.2⟩) (fun hHeld => ?_)
    clear hK K
    try simp only [PL]
    refine r1 9 (fun K hK => ?_)
    go_simp
    refine hE.fr (cw_sum (ca := ci) (da := di) (cb := cq) (db := dq) (hE.h2) (hE.here.2) Hli.out Hlq.out Hli2.out) ?_
    clear hE
    intro sg Ag ng cg tg Bg mg dg w21 hE
    go_wp2_with fail
    refine hK.out _ _ (⟨(hE.h5).c7.1, (hE.h5).c7.2.1, (hE.h5).c7.2.2.1, (hE.h5).c7.2.2.2.1, (hE.h5).c7.2.2.2.2.1, (hE.h5).c7.2.2.2.2.2.1, (hE.h5).c7.2.2.2.2.2.2⟩) (fun hHeld => ?_)
    clear hK K
    try simp only [PL]
    refine tk 10 ?_
    try simp only [PL]
    refine r1 12 (fun K hK => ?_)
    have hgl22 : w.heap.size ≤ g19 := by omega
    obtain ⟨x22_0, x22_1, x22_2, x22_3, x22_4, x22_5, x22_6⟩ := (hE.h2).c7
    have f22_0 := (hE.h2).frozen 0
    have f22_1 := (hE.h2).frozen 1
    have f22_2 := (hE.h2).frozen 2
    have f22_3 := (hE.h2).frozen 3
    have f22_4 := (hE.h2).frozen 4
    have f22_5 := (hE.h2).frozen 5
    have f22_6 := (hE.h2).frozen 6
    replace hE := (((((((Env.again (bel7 hE.bel hgl22 (.int .i64 F) (.int .i64 S) (.slice A n c) (.bool sg) (.slice Ag ng cg) (.bool tg) (.slice Bg mg dg))).blkI ((hE.h5).far7 (R := g19) (by omega) (.int .i64 F) (.int .i64 S) (.slice A n c) (.bool sg) (.slice Ag ng cg) (.bool tg) (.slice Bg mg dg))).blkI ((hE.h4).far7 (R := g19) (by omega) (.int .i64 F) (.int .i64 S) (.slice A n c) (.bool sg) (.slice Ag ng cg) (.bool tg) (.slice Bg mg dg))).fv ((hE.h3).sep7 hE.h2 rfl (.int .i64 F) (.int .i64 S) (.slice A n c) (.bool sg) (.slice Ag ng cg) (.bool tg) (.slice Bg mg dg) rfl rfl rfl rfl rfl rfl)).blkI ((hE.h2).s7 (.int .i64 F) (.int .i64 S) (.slice A n c) (.bool sg) (.slice Ag ng cg) (.bool tg) (.slice Bg mg dg))).fv ((hE.here.1.2).sep7 hE.h2 rfl (.int .i64 F) (.int .i64 S) (.slice A n c) (.bool sg) (.slice Ag ng cg) (.bool tg) (.slice Bg mg dg) rfl rfl rfl rfl rfl rfl)).fv ((hE.here.2).sep7 hE.h2 rfl (.int .i64 F) (.int .i64 S) (.slice A n c) (.bool sg) (.slice Ag ng cg) (.bool tg) (.slice Bg mg dg) rfl rfl rfl rfl rfl rfl))
    go_simp
    clear x22_0 x22_1 x22_2 x22_3 x22_4 x22_5 x22_6 f22_0 f22_1 f22_2 f22_3 f22_4 f22_5 f22_6 hgl22
    generalize (((((((w21.setCell ⟨g19, 0, none⟩ (.int .i64 F)).setCell ⟨g19, 1, none⟩ (.int .i64 S)).setCell ⟨g19, 2, none⟩ (.slice A n c)).setCell ⟨g19, 3, none⟩ (.bool sg)).setCell ⟨g19, 4, none⟩ (.slice Ag ng cg)).setCell ⟨g19, 5, none⟩ (.bool tg)).setCell ⟨g19, 6, none⟩ (.slice Bg mg dg)) = W22 at hE ⊢
    refine hK.out _ _ (⟨(hE.h5).c7.1, (hE.h5).c7.2.1, (hE.h5).c7.2.2.1, (hE.h5).c7.2.2.2.1, (hE.h5).c7.2.2.2.2.1, (hE.h5).c7.2.2.2.2.2.1, (hE.h5).c7.2.2.2.2.2.2⟩) (fun hHeld => ?_)
    clear hK K
    try simp only [PL]
    refine wpAnyH_done (by kernel_rfl) ?_ _
    go_wp2_with fail
    go_meet
    exact ⟨g19, sq, Aq, nq, cq, tq, Bq, mq, dq, sg, Ag, ng, cg, tg, Bg, mg, dg, rfl, by omega, (((((((Env.again hE.bel).blkI (hE.h5)).blkI (hE.h4)).fv (hE.h3)).fv (hE.here.1.2)).fv (hE.here.2)).blkI (hE.h2))⟩
  case rest =>
  clear hE
  obtain ⟨G5, sq, Aq, nq, cq, tq, Bq, mq, dq, sg, Ag, ng, cg, tg, Bg, mg, dg, rfl, hG5, hE⟩ := hcut
  generalize wc = wk5 at hE ⊢
  go_upto_region 6 with (fail)
  go_cut [12] from 48 to 52 (fun p0 wx => ∃ G6 sh Ah nh ch th Bh mh dh, p0 = .pointer (some ⟨G6, 0, none⟩) ∧ G5 < G6 ∧ Env w (fun V => ((((((((True ∧ Blk 31 (w.heap.size) #[.int .i64 F, .int .i64 S, .slice A n c, .bool si, .slice Ai ni ci, .bool ti, .slice Bi mi di] V) ∧ Blk 33 (w.heap.size + 1) #[.int .i64 E, .int .i64 Y] V) ∧ FV V i si Ai ni ti Bi mi) ∧ FV V (Rat.divInt y z) sq Aq nq tq Bq mq) ∧ FV V (i + Rat.divInt y z) sg Ag ng tg Bg mg) ∧ Blk 31 (G5) #[.int .i64 F, .int .i64 S, .slice A n c, .bool sg, .slice Ag ng cg, .bool tg, .slice Bg mg dg] V) ∧ FV V ((0 : Int) : Rat) sh Ah nh th Bh mh) ∧ Blk 31 (G6) #[.int .i64 F, .int .i64 S, .slice A n c, .bool sh, .slice Ah nh ch, .bool th, .slice Bh mh dh] V)) wx)
  case first =>
   replace hE := hE.drew
   refine wp_region_held_drew (S := fun w' => w'.cell? ⟨w.heap.size, 0, none⟩ = some (.int .i64 F) ∧ w'.cell? ⟨w.heap.size, 1, none⟩ = some (.int .i64 S) ∧ w'.cell? ⟨w.heap.size, 2, none⟩ = some (.slice A n c) ∧ w'.cell? ⟨w.heap.size, 3, none⟩ = some (.bool si) ∧ w'.cell? ⟨w.heap.size, 4, none⟩ = some (.slice Ai ni ci) ∧ w'.cell? ⟨w.heap.size, 5, none⟩ = some (.bool ti) ∧ w'.cell? ⟨w.heap.size, 6, none⟩ = some (.slice Bi mi di)) (by kernel_rfl) (⟨(hE.h5).c7.1, (hE.h5).c7.2.1, (hE.h5).c7.2.2.1, (hE.h5).c7.2.2.2.1, (hE.h5).c7.2.2.2.2.1, (hE.h5).c7.2.2.2.2.2.1, (hE.h5).c7.2.2.2.2.2.2⟩) (fun hHeld => ?_)
   generalize wk5.drew = wd at *
   refine tk 0 ?_
   try simp only [PL]
   refine tk 1 ?_
   try simp only [PL]
   refine wpAnyH_ready (rs := [2, 4]) (by kernel_rfl) (by simp) (AllReadyH.cons rfl (fun K hK => ?_) (AllReadyH.cons rfl (fun K hK => ?_) (AllReadyH.nil)))
   ·
    go_simp
    refine hE.fr (ffromInt_v 0 _ (by decide) (by decide)) ?_
    clear hE
    intro sh Ah nh ch th Bh mh dh w23 hE
    go_wp2_with fail
    refine hK.out _ _ (⟨(hE.h6).c7.1, (hE.h6).c7.2.1, (hE.h6).c7.2.2.1, (hE.h6).c7.2.2.2.1, (hE.h6).c7.2.2.2.2.1, (hE.h6).c7.2.2.2.2.2.1, (hE.h6).c7.2.2.2.2.2.2⟩) (fun hHeld => ?_)
    clear hK K
    try simp only [PL]
    refine tk 3 ?_
    try simp only [PL]
    refine r1 4 (fun K hK => ?_)
    go_simp
    obtain ⟨g24, hg24⟩ : ∃ g24, g24 = w23.heap.size := ⟨_, rfl⟩
    have hl24_0 : w.heap.size < g24 := by rw [hg24]; exact (hE.h6).lt
    have hl24_1 : w.heap.size + 1 < g24 := by rw [hg24]; exact (hE.h5).lt
    have hl24_5 : G5 < g24 := by rw [hg24]; exact (hE.here.1.2).lt
    replace hE := hE.blk 31 #[.int .i64 0, .int .i64 0, .slice none 0 0, .bool false, .slice none 0 0, .bool false, .slice none 0 0] (g := g24) hg24.symm
    generalize w23.alloc (.cells #[.int .i64 0, .int .i64 0, .slice none 0 0, .bool false, .slice none 0 0, .bool false, .slice none 0 0] 31) = W24 at hE ⊢
    rw [← hg24]
    clear hg24
    refine hK.out _ _ (⟨(hE.h7).c7.1, (hE.h7).c7.2.1, (hE.h7).c7.2.2.1, (hE.h7).c7.2.2.2.1, (hE.h7).c7.2.2.2.2.1, (hE.h7).c7.2.2.2.2.2.1, (hE.h7).c7.2.2.2.2.2.2⟩) (fun hHeld => ?_)
    clear hK K
    try simp only [PL]
    refine r1 5 (fun K hK => ?_)
    have hgl25 : w.heap.size ≤ g24 := by omega
    obtain ⟨x25_0, x25_1, x25_2, x25_3, x25_4, x25_5, x25_6⟩ := (hE.here.2).c7
    have f25_0 := (hE.here.2).frozen 0
    have f25_1 := (hE.here.2).frozen 1
    have f25_2 := (hE.here.2).frozen 2
    have f25_3 := (hE.here.2).frozen 3
    have f25_4 := (hE.here.2).frozen 4
    have f25_5 := (hE.here.2).frozen 5
    have f25_6 := (hE.here.2).frozen 6
    replace hE := (((((((((Env.again (bel7 hE.bel hgl25 (.int .i64 F) (.int .i64 S) (.slice A n c) (.bool sh) (.slice Ah nh ch) (.bool th) (.slice Bh mh dh))).blkI ((hE.h7).far7 (R := g24) (by omega) (.int .i64 F) (.int .i64 S) (.slice A n c) (.bool sh) (.slice Ah nh ch) (.bool th) (.slice Bh mh dh))).blkI ((hE.h6).far7 (R := g24) (by omega) (.int .i64 F) (.int .i64 S) (.slice A n c) (.bool sh) (.slice Ah nh ch) (.bool th) (.slice Bh mh dh))).fv ((hE.h5).sep7 hE.here.2 rfl (.int .i64 F) (.int .i64 S) (.slice A n c) (.bool sh) (.slice Ah nh ch) (.bool th) (.slice Bh mh dh) rfl rfl rfl rfl rfl rfl)).fv ((hE.h4).sep7 hE.here.2 rfl (.int .i64 F) (.int .i64 S) (.slice A n c) (.bool sh) (.slice Ah nh ch) (.bool th) (.slice Bh mh dh) rfl rfl rfl rfl rfl rfl)).fv ((hE.h3).sep7 hE.here.2 rfl (.int .i64 F) (.int .i64 S) (.slice A n c) (.bool sh) (.slice Ah nh ch) (.bool th) (.slice Bh mh dh) rfl rfl rfl rfl rfl rfl)).blkI ((hE.h2).far7 (R := g24) (by omega) (.int .i64 F) (.int .i64 S) (.slice A n c) (.bool sh) (.slice Ah nh ch) (.bool th) (.slice Bh mh dh))).fv ((hE.here.1.2).sep7 hE.here.2 rfl (.int .i64 F) (.int .i64 S) (.slice A n c) (.bool sh) (.slice Ah nh ch) (.bool th) (.slice Bh mh dh) rfl rfl rfl rfl rfl rfl)).blkI ((hE.here.2).s7 (.int .i64 F) (.int .i64 S) (.slice A n c) (.bool sh) (.slice Ah nh ch) (.bool th) (.slice Bh mh dh)))
    go_simp
    clear x25_0 x25_1 x25_2 x25_3 x25_4 x25_5 x25_6 f25_0 f25_1 f25_2 f25_3 f25_4 f25_5 f25_6 hgl25
    generalize (((((((W24.setCell ⟨g24, 0, none⟩ (.int .i64 F)).setCell ⟨g24, 1, none⟩ (.int .i64 S)).setCell ⟨g24, 2, none⟩ (.slice A n c)).setCell ⟨g24, 3, none⟩ (.bool sh)).setCell ⟨g24, 4, none⟩ (.slice Ah nh ch)).setCell ⟨g24, 5, none⟩ (.bool th)).setCell ⟨g24, 6, none⟩ (.slice Bh mh dh)) = W25 at hE ⊢
    refine hK.out _ _ (⟨(hE.h7).c7.1, (hE.h7).c7.2.1, (hE.h7).c7.2.2.1, (hE.h7).c7.2.2.2.1, (hE.h7).c7.2.2.2.2.1, (hE.h7).c7.2.2.2.2.2.1, (hE.h7).c7.2.2.2.2.2.2⟩) (fun hHeld => ?_)
    clear hK K
    try simp only [PL]
    refine wpAnyH_done (by kernel_rfl) ?_ _
    go_wp2_with fail
    go_meet
    exact ⟨g24, sh, Ah, nh, ch, th, Bh, mh, dh, rfl, by omega, (((((((((Env.again hE.bel).blkI (hE.h7)).blkI (hE.h6)).fv (hE.h5)).fv (hE.h4)).fv (hE.h3)).blkI (hE.h2)).fv (hE.here.1.2)).blkI (hE.here.2))⟩
   ·
    go_simp
    obtain ⟨g26, hg26⟩ : ∃ g26, g26 = wd.heap.size := ⟨_, rfl⟩
    have hl26_0 : w.heap.size < g26 := by rw [hg26]; exact (hE.h5).lt
    have hl26_1 : w.heap.size + 1 < g26 := by rw [hg26]; exact (hE.h4).lt
    have hl26_5 : G5 < g26 := by rw [hg26]; exact (hE.here.2).lt
    replace hE := hE.blk 31 #[.int .i64 0, .int .i64 0, .slice none 0 0, .bool false, .slice none 0 0, .bool false, .slice none 0 0] (g := g26) hg26.symm
    generalize wd.alloc (.cells #[.int .i64 0, .int .i64 0, .slice none 0 0, .bool false, .slice none 0 0, .bool false, .slice none 0 0] 31) = W26 at hE ⊢
    rw [← hg26]
    clear hg26
    refine hK.out _ _ (⟨(hE.h6).c7.1, (hE.h6).c7.2.1, (hE.h6).c7.2.2.1, (hE.h6).c7.2.2.2.1, (hE.h6).c7.2.2.2.2.1, (hE.h6).c7.2.2.2.2.2.1, (hE.h6).c7.2.2.2.2.2.2⟩) (fun hHeld => ?_)
    clear hK K
    try simp only [PL]
    refine r1 2 (fun K hK => ?_)
    go_simp
    refine hE.fr (ffromInt_v 0 _ (by decide) (by decide)) ?_
    clear hE
    intro sh Ah nh ch th Bh mh dh w27 hE
    go_wp2_with fail
    refine hK.out _ _ (⟨(hE.h7).c7.1, (hE.h7).c7.2.1, (hE.h7).c7.2.2.1, (hE.h7).c7.2.2.2.1, (hE.h7).c7.2.2.2.2.1, (hE.h7).c7.2.2.2.2.2.1, (hE.h7).c7.2.2.2.2.2.2⟩) (fun hHeld => ?_)
    clear hK K
    try simp only [PL]
    refine tk 3 ?_
    try simp only [PL]
    refine r1 5 (fun K hK => ?_)
    have hgl28 : w.heap.size ≤ g26 := by omega
    obtain ⟨x28_0, x28_1, x28_2, x28_3, x28_4, x28_5, x28_6⟩ := (hE.here.1.2).c7
    have f28_0 := (hE.here.1.2).frozen 0
    have f28_1 := (hE.here.1.2).frozen 1
    have f28_2 := (hE.here.1.2).frozen 2
    have f28_3 := (hE.here.1.2).frozen 3
    have f28_4 := (hE.here.1.2).frozen 4
    have f28_5 := (hE.here.1.2).frozen 5
    have f28_6 := (hE.here.1.2).frozen 6
    replace hE := (((((((((Env.again (bel7 hE.bel hgl28 (.int .i64 F) (.int .i64 S) (.slice A n c) (.bool sh) (.slice Ah nh ch) (.bool th) (.slice Bh mh dh))).blkI ((hE.h7).far7 (R := g26) (by omega) (.int .i64 F) (.int .i64 S) (.slice A n c) (.bool sh) (.slice Ah nh ch) (.bool th) (.slice Bh mh dh))).blkI ((hE.h6).far7 (R := g26) (by omega) (.int .i64 F) (.int .i64 S) (.slice A n c) (.bool sh) (.slice Ah nh ch) (.bool th) (.slice Bh mh dh))).fv ((hE.h5).sep7 hE.here.1.2 rfl (.int .i64 F) (.int .i64 S) (.slice A n c) (.bool sh) (.slice Ah nh ch) (.bool th) (.slice Bh mh dh) rfl rfl rfl rfl rfl rfl)).fv ((hE.h4).sep7 hE.here.1.2 rfl (.int .i64 F) (.int .i64 S) (.slice A n c) (.bool sh) (.slice Ah nh ch) (.bool th) (.slice Bh mh dh) rfl rfl rfl rfl rfl rfl)).fv ((hE.h3).sep7 hE.here.1.2 rfl (.int .i64 F) (.int .i64 S) (.slice A n c) (.bool sh) (.slice Ah nh ch) (.bool th) (.slice Bh mh dh) rfl rfl rfl rfl rfl rfl)).blkI ((hE.h2).far7 (R := g26) (by omega) (.int .i64 F) (.int .i64 S) (.slice A n c) (.bool sh) (.slice Ah nh ch) (.bool th) (.slice Bh mh dh))).blkI ((hE.here.1.2).s7 (.int .i64 F) (.int .i64 S) (.slice A n c) (.bool sh) (.slice Ah nh ch) (.bool th) (.slice Bh mh dh))).fv ((hE.here.2).sep7 hE.here.1.2 rfl (.int .i64 F) (.int .i64 S) (.slice A n c) (.bool sh) (.slice Ah nh ch) (.bool th) (.slice Bh mh dh) rfl rfl rfl rfl rfl rfl))
    go_simp
    clear x28_0 x28_1 x28_2 x28_3 x28_4 x28_5 x28_6 f28_0 f28_1 f28_2 f28_3 f28_4 f28_5 f28_6 hgl28
    generalize (((((((w27.setCell ⟨g26, 0, none⟩ (.int .i64 F)).setCell ⟨g26, 1, none⟩ (.int .i64 S)).setCell ⟨g26, 2, none⟩ (.slice A n c)).setCell ⟨g26, 3, none⟩ (.bool sh)).setCell ⟨g26, 4, none⟩ (.slice Ah nh ch)).setCell ⟨g26, 5, none⟩ (.bool th)).setCell ⟨g26, 6, none⟩ (.slice Bh mh dh)) = W28 at hE ⊢
    refine hK.out _ _ (⟨(hE.h7).c7.1, (hE.h7).c7.2.1, (hE.h7).c7.2.2.1, (hE.h7).c7.2.2.2.1, (hE.h7).c7.2.2.2.2.1, (hE.h7).c7.2.2.2.2.2.1, (hE.h7).c7.2.2.2.2.2.2⟩) (fun hHeld => ?_)
    clear hK K
    try simp only [PL]
    refine wpAnyH_done (by kernel_rfl) ?_ _
    go_wp2_with fail
    go_meet
    exact ⟨g26, sh, Ah, nh, ch, th, Bh, mh, dh, rfl, by omega, (((((((((Env.again hE.bel).blkI (hE.h7)).blkI (hE.h6)).fv (hE.h5)).fv (hE.h4)).fv (hE.h3)).blkI (hE.h2)).fv (hE.here.2)).blkI (hE.here.1.2))⟩
  case rest =>
  clear hE
  obtain ⟨G6, sh, Ah, nh, ch, th, Bh, mh, dh, rfl, hG6, hE⟩ := hcut
  generalize wc = wk6 at hE ⊢
  go_upto_region 7 with (fail)
  obtain ⟨k29, k30, k31, k32, k33, k34, k35⟩ := (hE.h2).c7
  go_wp2_with fail
  refine (validI (F := F) (S := S) (c := c) (ci := cg) (di := dg) (HT.out.below hE.bel) HB.out Hli2.out (hE.h3)).mono ?_
  clear k29 k30 k31 k32 k33 k34 k35
  rintro e wv ⟨v, rfl, hv2, hb⟩
  replace hE := hE.step hb
  clear hb
  cases v with
  | false =>
   clear hv2
   go_wp2_with fail
   go_ret
   exact ⟨rfl, hE.bel⟩
  | true =>
   have hi2 := hv2 rfl
   clear hv2
   have hN2 := HN.out.rate Hi.out.dis.1 hi2.dis.1
   have Hi2 := Lib.hid hi2
   have HN2 := Lib.hid hN2
   clear hi2 hN2
   go_upto_region 9 with (fail)
   obtain ⟨k36, k37, k38, k39, k40, k41, k42⟩ := (hE.h7).c7
   obtain ⟨k43, k44⟩ := (hE.h6).c2
   go_wp2_with fail
   refine hE.fr (annI (c := c) (ci := ci) (di := di) (HT.out.below hE.bel) HB.out Hok.out (hE.h5) Hi.out HR.out N HN.out (by omega) 0 ft (by omega) (by omega)) ?_
   clear hE k36 k37 k38 k39 k40 k41 k42 k43 k44
   intro sp0 Ap0 np0 cp0 tp0 Bp0 mp0 dp0 w45 hE
   go_upto_region 10 with (fail)
   obtain ⟨g46, hg46⟩ : ∃ g46, g46 = w45.heap.size := ⟨_, rfl⟩
   replace hE := hE.blk 29 #[.bool sp0, .slice Ap0 np0 cp0, .bool tp0, .slice Bp0 mp0 dp0] (g := g46) hg46.symm
   generalize w45.alloc (.cells #[.bool sp0, .slice Ap0 np0 cp0, .bool tp0, .slice Bp0 mp0 dp0] 29) = W46 at hE ⊢
   rw [← hg46]
   clear hg46
   obtain ⟨k47, k48, k49, k50, k51, k52, k53⟩ := (hE.h4).c7
   obtain ⟨k54, k55⟩ := (hE.h8).c2
   go_wp2_with fail
   refine hE.fr (annI (c := c) (ci := cg) (di := dg) (HT.out.below hE.bel) HB.out Hok.out (hE.h5) Hi2.out HR.out N HN2.out (by omega) 0 ft (by omega) (by omega)) ?_
   clear hE k47 k48 k49 k50 k51 k52 k53 k54 k55
   intro sp1 Ap1 np1 cp1 tp1 Bp1 mp1 dp1 w56 hE
   go_upto_region 11 with (fail)
   obtain ⟨g57, hg57⟩ : ∃ g57, g57 = w56.heap.size := ⟨_, rfl⟩
   replace hE := hE.blk 29 #[.bool sp1, .slice Ap1 np1 cp1, .bool tp1, .slice Bp1 mp1 dp1] (g := g57) hg57.symm
   generalize w56.alloc (.cells #[.bool sp1, .slice Ap1 np1 cp1, .bool tp1, .slice Bp1 mp1 dp1] 29) = W57 at hE ⊢
   rw [← hg57]
   clear hg57
   obtain ⟨k58, k59, k60, k61, k62, k63, k64⟩ := (hE.h11).c7
   obtain ⟨k65, k66⟩ := (hE.h10).c2
   go_wp2_with fail
   refine hE.fr (assI (c := c) (ci := ci) (di := di) (HT.out.below hE.bel) HB.out Hok.out (hE.h9) Hi.out HR.out N HN.out (by omega) 0 ft (by omega) (by omega)) ?_
   clear hE k58 k59 k60 k61 k62 k63 k64 k65 k66
   intro sp2 Ap2 np2 cp2 tp2 Bp2 mp2 dp2 w67 hE
   go_upto_region 12 with (fail)
   obtain ⟨g68, hg68⟩ : ∃ g68, g68 = w67.heap.size := ⟨_, rfl⟩
   replace hE := hE.blk 29 #[.bool sp2, .slice Ap2 np2 cp2, .bool tp2, .slice Bp2 mp2 dp2] (g := g68) hg68.symm
   generalize w67.alloc (.cells #[.bool sp2, .slice Ap2 np2 cp2, .bool tp2, .slice Bp2 mp2 dp2] 29) = W68 at hE ⊢
   rw [← hg68]
   clear hg68
   obtain ⟨k69, k70, k71, k72, k73, k74, k75⟩ := (hE.h8).c7
   obtain ⟨k76, k77⟩ := (hE.h12).c2
   go_wp2_with fail
   refine hE.fr (assI (c := c) (ci := cg) (di := dg) (HT.out.below hE.bel) HB.out Hok.out (hE.h9) Hi2.out HR.out N HN2.out (by omega) 0 ft (by omega) (by omega)) ?_
   clear hE k69 k70 k71 k72 k73 k74 k75 k76 k77
   intro sp3 Ap3 np3 cp3 tp3 Bp3 mp3 dp3 w78 hE
   go_upto_region 13 with (fail)
   obtain ⟨g79, hg79⟩ : ∃ g79, g79 = w78.heap.size := ⟨_, rfl⟩
   replace hE := hE.blk 29 #[.bool sp3, .slice Ap3 np3 cp3, .bool tp3, .slice Bp3 mp3 dp3] (g := g79) hg79.symm
   generalize w78.alloc (.cells #[.bool sp3, .slice Ap3 np3 cp3, .bool tp3, .slice Bp3 mp3 dp3] 29) = W79 at hE ⊢
   rw [← hg79]
   clear hg79
   obtain ⟨k80, k81, k82, k83, k84, k85, k86⟩ := (hE.h8).c7
   obtain ⟨k87, k88⟩ := (hE.h14).c2
   go_wp2_with fail
   have hc := annI (c := c) (ci := ch) (di := dh) (HT.out.below hE.bel) HB.out Hok.out (hE.h9) Rti.zero HR.out N HN0.out (by omega) 0 1000 (by omega) (by omega)
   rw [show ps (dd (1 / (1 + ((0 : Int) : Rat))) (fr F S n r E Y)) ((0 : Nat) : Int) ((1000 : Nat) : Int) N = 1 + smr (fr F S n r E Y) 111 from by rw [show (1 : Rat) / (1 + ((0 : Int) : Rat)) = 1 by decide +kernel]; exact Hn1.out] at hc
   refine hE.fr (hc) ?_
   clear hE k80 k81 k82 k83 k84 k85 k86 k87 k88
   intro sp4 Ap4 np4 cp4 tp4 Bp4 mp4 dp4 w89 hE
   clear hc
   go_upto_region 14 with (fail)
   obtain ⟨g90, hg90⟩ : ∃ g90, g90 = w89.heap.size := ⟨_, rfl⟩
   replace hE := hE.blk 29 #[.bool sp4, .slice Ap4 np4 cp4, .bool tp4, .slice Bp4 mp4 dp4] (g := g90) hg90.symm
   generalize w89.alloc (.cells #[.bool sp4, .slice Ap4 np4 cp4, .bool tp4, .slice Bp4 mp4 dp4] 29) = W90 at hE ⊢
   rw [← hg90]
   clear hg90
   obtain ⟨k91, k92, k93, k94, k95, k96, k97⟩ := (hE.h10).c7
   obtain ⟨k98, k99⟩ := (hE.h16).c2
   go_wp2_with fail
   have hc := assI (c := c) (ci := ch) (di := dh) (HT.out.below hE.bel) HB.out Hok.out (hE.h11) Rti.zero HR.out N HN0.out (by omega) 0 1000 (by omega) (by omega)
   rw [show ps (cc (1 / (1 + ((0 : Int) : Rat))) (fr F S n r E Y)) ((0 : Nat) : Int) ((1000 : Nat) : Int) N = 1 from by rw [show (1 : Rat) / (1 + ((0 : Int) : Rat)) = 1 by decide +kernel]; exact Hn2.out] at hc
   refine hE.fr (hc) ?_
   clear hE k91 k92 k93 k94 k95 k96 k97 k98 k99
   intro sp5 Ap5 np5 cp5 tp5 Bp5 mp5 dp5 w100 hE
   clear hc
   go_upto_region 15 with (fail)
   obtain ⟨g101, hg101⟩ : ∃ g101, g101 = w100.heap.size := ⟨_, rfl⟩
   replace hE := hE.blk 29 #[.bool sp5, .slice Ap5 np5 cp5, .bool tp5, .slice Bp5 mp5 dp5] (g := g101) hg101.symm
   generalize w100.alloc (.cells #[.bool sp5, .slice Ap5 np5 cp5, .bool tp5, .slice Bp5 mp5 dp5] 29) = W101 at hE ⊢
   rw [← hg101]
   clear hg101
   obtain ⟨k102, k103, k104, k105, k106, k107, k108⟩ := (hE.h19).c7
   obtain ⟨k109, k110⟩ := (hE.h18).c2
   go_wp2_with fail
   refine hE.fr (lExpect_v (c := c) (HT.out.below hE.bel) HB.out HR.out 111 (by decide)) ?_
   clear hE k102 k103 k104 k105 k106 k107 k108 k109 k110
   intro sp6 Ap6 np6 cp6 tp6 Bp6 mp6 dp6 w111 hE
   go_upto_region 16 with (fail)
   obtain ⟨g112, hg112⟩ : ∃ g112, g112 = w111.heap.size := ⟨_, rfl⟩
   replace hE := hE.blk 29 #[.bool sp6, .slice Ap6 np6 cp6, .bool tp6, .slice Bp6 mp6 dp6] (g := g112) hg112.symm
   generalize w111.alloc (.cells #[.bool sp6, .slice Ap6 np6 cp6, .bool tp6, .slice Bp6 mp6 dp6] 29) = W112 at hE ⊢
   rw [← hg112]
   clear hg112
   go_upto_region 18 with (fail)
   have hx1 := ps_mono 0 (ft : Int) (fun j hj => dd_mono (Rat.le_of_lt Hi2.out.dis.1) (dis_mono Hi.out Hle.out Hi2.out) Hrts.out (Nat.le_of_lt hj))
   have hx2 := ps_mono 0 (ft : Int) (fun j hj => cc_mono (Rat.le_of_lt Hi2.out.dis.1) (dis_mono Hi.out Hle.out Hi2.out) Hrts.out hj)
   have t2 : decide (0 ≤ cmpQ (ps (dd (1 / (1 + i)) (fr F S n r E Y)) 0 (ft : Int) N) (ps (dd (1 / (1 + (i + Rat.divInt y z))) (fr F S n r E Y)) 0 (ft : Int) N)) = true := decide_eq_true (cmpQ_ge hx1)
   have t3 : decide (0 ≤ cmpQ (ps (cc (1 / (1 + i)) (fr F S n r E Y)) 0 (ft : Int) N) (ps (cc (1 / (1 + (i + Rat.divInt y z))) (fr F S n r E Y)) 0 (ft : Int) N)) = true := decide_eq_true (cmpQ_ge hx2)
   clear hx1 hx2
   have l0 := (pdI Hi.out.dis Hrts.out h21 0 (ft : Int)).l (by decide) (by decide) (by omega)
   have l1 := (pdI Hi2.out.dis Hrts.out h21 0 (ft : Int)).l (by decide) (by decide) (by omega)
   have l2 := (pcI Hi.out.dis Hrts.out h21 0 (ft : Int)).l (by decide) (by decide) (by omega)
   have l3 := (pcI Hi2.out.dis Hrts.out h21 0 (ft : Int)).l (by decide) (by decide) (by omega)
   have Hl0 := Lib.hid l0
   have Hl1 := Lib.hid l1
   have Hl2 := Lib.hid l2
   have Hl3 := Lib.hid l3
   clear l0 l1 l2 l3
   replace hE := hE.drew
   refine wp_region_held_drew (S := fun w' => w'.cell? ⟨g46, 0, none⟩ = some (.bool sp0) ∧ w'.cell? ⟨g46, 1, none⟩ = some (.slice Ap0 np0 cp0) ∧ w'.cell? ⟨g46, 2, none⟩ = some (.bool tp0) ∧ w'.cell? ⟨g46, 3, none⟩ = some (.slice Bp0 mp0 dp0) ∧ w'.cell? ⟨g57, 0, none⟩ = some (.bool sp1) ∧ w'.cell? ⟨g57, 1, none⟩ = some (.slice Ap1 np1 cp1) ∧ w'.cell? ⟨g57, 2, none⟩ = some (.bool tp1) ∧ w'.cell? ⟨g57, 3, none⟩ = some (.slice Bp1 mp1 dp1) ∧ w'.cell? ⟨g68, 0, none⟩ = some (.bool sp2) ∧ w'.cell? ⟨g68, 1, none⟩ = some (.slice Ap2 np2 cp2) ∧ w'.cell? ⟨g68, 2, none⟩ = some (.bool tp2) ∧ w'.cell? ⟨g68, 3, none⟩ = some (.slice Bp2 mp2 dp2) ∧ w'.cell? ⟨g79, 0, none⟩ = some (.bool sp3) ∧ w'.cell? ⟨g79, 1, none⟩ = some (.slice Ap3 np3 cp3) ∧ w'.cell? ⟨g79, 2, none⟩ = some (.bool tp3) ∧ w'.cell? ⟨g79, 3, none⟩ = some (.slice Bp3 mp3 dp3) ∧ w'.cell? ⟨g90, 0, none⟩ = some (.bool sp4) ∧ w'.cell? ⟨g90, 1, none⟩ = some (.slice Ap4 np4 cp4) ∧ w'.cell? ⟨g90, 2, none⟩ = some (.bool tp4) ∧ w'.cell? ⟨g90, 3, none⟩ = some (.slice Bp4 mp4 dp4) ∧ w'.cell? ⟨g101, 0, none⟩ = some (.bool sp5) ∧ w'.cell? ⟨g101, 1, none⟩ = some (.slice Ap5 np5 cp5) ∧ w'.cell? ⟨g101, 2, none⟩ = some (.bool tp5) ∧ w'.cell? ⟨g101, 3, none⟩ = some (.slice Bp5 mp5 dp5) ∧ w'.cell? ⟨g112, 0, none⟩ = some (.bool sp6) ∧ w'.cell? ⟨g112, 1, none⟩ = some (.slice Ap6 np6 cp6) ∧ w'.cell? ⟨g112, 2, none⟩ = some (.bool tp6) ∧ w'.cell? ⟨g112, 3, none⟩ = some (.slice Bp6 mp6 dp6)) (by kernel_rfl) (hE.h12.j4 (hE.h10.j4 (hE.h8.j4 (hE.h6.j4 (hE.h4.j4 (hE.h2.j4 hE.here.2.c4)))))) (fun hHeld => ?_)
   refine tk 0 ?_
   try simp only [PL]
   refine tk 1 ?_
   try simp only [PL]
   refine r1 2 (fun K hK => ?_)
   go_simp
   refine hE.br (fcmp_v (ca := cp0) (da := dp0) (cb := cp1) (db := dp1) (hE.h13) (hE.h11) Hl0.out Hl1.out ) ?_
   clear hE
   intro w113 hE
   go_wp2_with fail
   refine hK.out _ _ (hE.h12.j4 (hE.h10.j4 (hE.h8.j4 (hE.h6.j4 (hE.h4.j4 (hE.h2.j4 hE.here.2.c4)))))) (fun hHeld => ?_)
   clear hK K
   try simp only [PL]
   refine tk 3 ?_
   try simp only [PL]
   refine tk 4 ?_
   try simp only [PL]
   refine tk 5 ?_
   try simp only [PL]
   refine tk 6 ?_
   try simp only [PL]
   refine r1 7 (fun K hK => ?_)
   go_simp
   refine hE.br (fcmp_v (ca := cp2) (da := dp2) (cb := cp3) (db := dp3) (hE.h9) (hE.h7) Hl2.out Hl3.out ) ?_
   clear hE
   intro w114 hE
   go_wp2_with fail
   refine hK.out _ _ (hE.h12.j4 (hE.h10.j4 (hE.h8.j4 (hE.h6.j4 (hE.h4.j4 (hE.h2.j4 hE.here.2.c4)))))) (fun hHeld => ?_)
   clear hK K
   try simp only [PL]
   refine tk 8 ?_
   try simp only [PL]
   refine tk 9 ?_
   try simp only [PL]
   refine tk 10 ?_
   try simp only [PL]
   refine tk 11 ?_
   try simp only [PL]
   refine tk 13 ?_
   try simp only [PL]
   refine r1 12 (fun K hK => ?_)
   go_simp
   refine hE.fr (ffromInt_v 1 _ (by decide) (by decide)) ?_
   clear hE
   intro sf1 Af1 nf1 cf1 tf1 Bf1 mf1 df1 w115 hE
   go_wp2_with fail
   refine hK.out _ _ (hE.h13.j4 (hE.h11.j4 (hE.h9.j4 (hE.h7.j4 (hE.h5.j4 (hE.h3.j4 hE.here.1.2.c4)))))) (fun hHeld => ?_)
   clear hK K
   try simp only [PL]
   refine r1 14 (fun K hK => ?_)
   go_simp
   refine hE.fr (cw_sum (ca := cf1) (da := df1) (cb := cp6) (db := dp6) (hE.here.2) (hE.h2) fl_one Hls.out Hls1.out) ?_
   clear hE
   intro sf2 Af2 nf2 cf2 tf2 Bf2 mf2 df2 w116 hE
   go_wp2_with fail
   refine hK.out _ _ (hE.h14.j4 (hE.h12.j4 (hE.h10.j4 (hE.h8.j4 (hE.h6.j4 (hE.h4.j4 hE.h2.c4)))))) (fun hHeld => ?_)
   clear hK K
   try simp only [PL]
   refine r1 15 (fun K hK => ?_)
   go_simp
   refine hE.br (cw_equal (v := true) (ca := cp4) (da := dp4) (cb := cf2) (db := df2) (hE.h7) (hE.here.2) Hls1.out Hls1.out (decide_eq_true rfl)) ?_
   clear hE
   intro w117 hE
   go_wp2_with fail
   refine hK.out _ _ (hE.h14.j4 (hE.h12.j4 (hE.h10.j4 (hE.h8.j4 (hE.h6.j4 (hE.h4.j4 hE.h2.c4)))))) (fun hHeld => ?_)
   clear hK K
   try simp only [PL]
   refine tk 16 ?_
   try simp only [PL]
   refine tk 17 ?_
   try simp only [PL]
   refine tk 18 ?_
   try simp only [PL]
   refine r1 19 (fun K hK => ?_)
   go_simp
   refine hE.fr (ffromInt_v 1 _ (by decide) (by decide)) ?_
   clear hE
   intro sf3 Af3 nf3 cf3 tf3 Bf3 mf3 df3 w118 hE
   go_wp2_with fail
   refine hK.out _ _ (hE.h15.j4 (hE.h13.j4 (hE.h11.j4 (hE.h9.j4 (hE.h7.j4 (hE.h5.j4 hE.h3.c4)))))) (fun hHeld => ?_)
   clear hK K
   try simp only [PL]
   refine r1 20 (fun K hK => ?_)
   go_simp
   refine hE.br (cw_equal (v := true) (ca := cp5) (da := dp5) (cb := cf3) (db := df3) (hE.h6) (hE.here.2) fl_one fl_one (decide_eq_true rfl)) ?_
   clear hE
   intro w119 hE
   go_wp2_with fail
   refine hK.out _ _ (hE.h15.j4 (hE.h13.j4 (hE.h11.j4 (hE.h9.j4 (hE.h7.j4 (hE.h5.j4 hE.h3.c4)))))) (fun hHeld => ?_)
   clear hK K
   try simp only [PL]
   refine tk 21 ?_
   try simp only [PL]
   refine tk 22 ?_
   try simp only [PL]
   refine wpAnyH_done (by kernel_rfl) ?_ _
   go_wp2_with fail
   go_ret
   exact ⟨rfl, hE.bel⟩
 ·
  have HT := Lib.hid hT
  have Hr := Lib.hid hr
  have HU := Lib.hid hU
  clear hT hr hU
  have hE := ((Env.start w).blk 31 #[.int .i64 F, .int .i64 S, .slice A n c, .bool si, .slice Ai ni ci, .bool ti, .slice Bi mi di] (g := w.heap.size) rfl).blk 33 #[.int .i64 E, .int .i64 Y] (g := w.heap.size + 1) (by simp)
  obtain ⟨W0, hW0⟩ : ∃ W0, W0 = ((w.alloc (.cells #[.int .i64 F, .int .i64 S, .slice A n c, .bool si, .slice Ai ni ci, .bool ti, .slice Bi mi di] 31)).alloc (.cells #[.int .i64 E, .int .i64 Y] 33)) := ⟨_, rfl⟩
  rw [← hW0] at hE
  have HW0 := Lib.hid hW0
  clear hW0
  go_enter Tryz.func9, Tryz.ntmps9
  go_upto_region 1 with (fail)
  rw [← HW0.out]
  go_wp2_with fail
  refine hE.br (awakeB_t _) ?_
  clear hE
  intro w1 hE
  obtain ⟨k2, k3, k4, k5, k6, k7, k8⟩ := (hE.here.1.2).c7
  obtain ⟨k9, k10⟩ := (hE.here.2).c2
  go_wp2_with fail
  refine hE.br (usableB_f (HT.out.below hE.bel) (Hr.out.below hE.bel) HU.out) ?_
  clear hE k2 k3 k4 k5 k6 k7 k8 k9 k10
  intro w11 hE
  go_wp2_with fail
  go_ret
  exact ⟨rfl, hE.bel⟩
end Go.Proofs.YtmjlankpihnicaaGreat
