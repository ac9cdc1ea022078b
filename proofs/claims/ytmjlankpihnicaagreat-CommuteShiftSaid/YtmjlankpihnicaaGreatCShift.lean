/-
  The walk of CommuteShift.
-/
import Derived.Test.YtmjlankpihnicaaGreatK1
import Derived.Test.YtmjlankpihnicaaGreatHk
import Derived.Test.YtmjlankpihnicaaGreatC11
namespace Go.Proofs.YtmjlankpihnicaaGreat
open Go.RowKit

theorem wpList_ld {P : Program} {w : World} {ops : Array Oper} {rest : List Oper} {o : Oper} {a : Act} {Q : Exit → Act → World → Prop} {ty : TypeId} {x : Operand} {p v : Value} (hr : (Instr.loadAt ty p).run P w = .ok v w) (hg : o.guard = none) (ho : o.op = .load ty x) (hx : a.eval x = p)
  (h : wpList P ops Q rest (a.put o.dst v) w) : wpList P ops Q (o :: rest) a w :=
 wpList_plain hg fun _ hK => by
  unfold Oper.wp execOp
  simp only [ho, hx, Sem.run_bind, Sem.run_pure, Result.andThen_ok, hr]
  exact hK _ _ h
theorem wpList_st {P : Program} {w w' : World} {ops : Array Oper} {rest : List Oper} {o : Oper} {a : Act} {Q : Exit → Act → World → Prop} {ty : TypeId} {x y : Operand} {p v : Value} (hr : (Instr.storeAt ty p v).run P w = .ok () w') (hg : o.guard = none) (ho : o.op = .store ty x y) (hx : a.eval x = p) (hy : a.eval y = v)
  (h : wpList P ops Q rest (a.put o.dst undef) w') : wpList P ops Q (o :: rest) a w :=
 wpList_plain hg fun _ hK => by
  unfold Oper.wp execOp
  simp only [ho, hx, hy, Sem.run_bind, Sem.run_pure, Result.andThen_ok, hr]
  exact hK _ _ h
theorem laterB_v (E Y k : Int) (w : World) (h1 : 0 ≤ Y) (h2 : Y ≤ 1000000) (h3 : 0 ≤ k) (h4 : k ≤ 1000000) :
  Calls Tryz.prog 25 #[.agg #[.int .i64 E, .int .i64 Y], .int .i64 k] w fun e w' => e = .returned (.agg #[.int .i64 E, .int .i64 (Y + k)]) ∧ Below w.heap.size w w' := by
 have hE := ((Env.start w).blk 33 #[.int .i64 E, .int .i64 Y] (g := w.heap.size) rfl).blk 33 #[.int .i64 0, .int .i64 0] (g := w.heap.size + 1) (by simp)
 obtain ⟨W0, hW0⟩ : ∃ W0, W0 = (w.alloc (.cells #[.int .i64 E, .int .i64 Y] 33)).alloc (.cells #[.int .i64 0, .int .i64 0] 33) := ⟨_, rfl⟩
 rw [← hW0] at hE
 have HW0 := Lib.hid hW0
 clear hW0
 have o1 : IntKind.i64.wrap (Y + k) = Y + k := by rw [IntKind.wrap_i64]; omega
 go_enter Tryz.func25, Tryz.ntmps25
 go_upto_region 1 with (fail)
 rw [← HW0.out]
 obtain ⟨k1, k2⟩ := (hE.here.1.2).c2
 obtain ⟨x1, x2⟩ := (hE.here.2).c2
 have f1 := (hE.here.2).frozen 0
 have f2 := (hE.here.2).frozen 1
 have hB := (hE.here.2).s2 (.int .i64 E) (.int .i64 (Y + k))
 have hBel := bel2 hE.bel (show w.heap.size ≤ w.heap.size + 1 by omega) (.int .i64 E) (.int .i64 (Y + k))
 go_wp2_with fail
 obtain ⟨y1, y2⟩ := hB.c2
 refine bodyPost_ret (v := .agg #[.int .i64 E, .int .i64 (Y + k)]) (by simp [results, Tryz.results25, go_sem, y1, y2]) rfl ?_
 exact ⟨rfl, hBel⟩
set_option linter.unusedSimpArgs false in
set_option maxRecDepth 100000 in
set_option maxHeartbeats 8000000 in
theorem cshift_walk (F S E Y : Int) (A : Option Addr) (n c : Nat) (r : Nat → RH) (si ti : Bool) (Ai Bi : Option Addr) (ni mi ci di : Nat) (fi gi : Nat → Nat) (w : World) (hT : TabM w A n r) (hr : FRd w Ai ni fi Bi mi gi) (x : Int) (x0 : 0 ≤ x) (x1 : x ≤ 255) :
  Calls Tryz.prog 6 #[.agg #[.int .i64 F, .int .i64 S, .slice A n c, .bool si, .slice Ai ni ci, .bool ti, .slice Bi mi di], .agg #[.int .i64 E, .int .i64 Y], .int .u8 x] w fun e w' => e = .returned (.bool true) ∧ Below w.heap.size w w' := by
 obtain ⟨fn, rfl⟩ : ∃ k : Nat, x = (k : Int) := ⟨x.toNat, by omega⟩
 by_cases hU : UsB F S n r E Y si ni fi ti mi gi
 ·
  by_cases hR2 : RightP F S n r E (Y + (fn : Int))
  ·
   obtain ⟨hB, hn, hm, hbk, hR, N, h21, hN⟩ := hU.get (1 / (1 + qOf si ni fi mi gi))
   obtain ⟨K, hK0, hKc⟩ := life_cnt (1 / (1 + qOf si ni fi mi gi)) hR2
   have hK21 : K ≤ 80 := by have h := hR2.1.2.1.2; have h2 := hU.1.1.1; omega
   obtain ⟨hqv, hi⟩ := intB_rti hr hbk.2
   have hdis := hi.dis
   have hrts := rt_rates hT hR (fn + 200)
   have hY := hR.2.2.2
   have ofn : IntKind.i64.wrap (fn : Int) = (fn : Int) := by rw [IntKind.wrap_i64]; omega
   have hCol := fun (W : World) (hW : Below w.heap.size w W) => cColumns_v (c := c) (ci := ci) (di := di) (hT.below hW) hB (hr.below hW) hn hm hbk hR N hN (by omega)
   have hCol2 := fun (W : World) (hW : Below w.heap.size w W) => cColumns_v (c := c) (ci := ci) (di := di) (hT.below hW) hB (hr.below hW) hn hm hbk hR2 K hKc hK21
   have hN0 := hN.pos
   have hK1 := hKc.pos
   obtain ⟨v, hv⟩ : ∃ v, v = 1 / (1 + qOf si ni fi mi gi) := ⟨_, rfl⟩
   obtain ⟨f, hf⟩ : ∃ f, f = fr F S n r E Y := ⟨_, rfl⟩
   have hf2 : fr F S n r E (Y + (fn : Int)) = fun i => f (fn + i) := by rw [hf]; exact fr_move F S n r E Y fn
   have hrf : Rts f (fn + 200) := by rw [hf]; exact hrts
   rw [hf2, ← hv] at hKc hCol2
   simp only [← hv, ← hf] at hCol hdis hN
   clear hrts hqv hi hv hK0
   have HhT := Lib.hid hT
   clear hT
   have Hhr := Lib.hid hr
   clear hr
   have HhU := Lib.hid hU
   clear hU
   have HhB := Lib.hid hB
   clear hB
   have HhR := Lib.hid hR
   clear hR
   have HhR2 := Lib.hid hR2
   clear hR2
   have Hhbk := Lib.hid hbk
   clear hbk
   have Hhf := Lib.hid hf
   clear hf
   have Hhf2 := Lib.hid hf2
   clear hf2
   have HhCol := Lib.hid hCol
   clear hCol
   have HhCol2 := Lib.hid hCol2
   clear hCol2
   have HhN := Lib.hid hN
   clear hN
   have HhKc := Lib.hid hKc
   clear hKc
   have Hhdis := Lib.hid hdis
   clear hdis
   have Hhrf := Lib.hid hrf
   clear hrf
   have hE := ((Env.start w).blk 31 #[.int .i64 F, .int .i64 S, .slice A n c, .bool si, .slice Ai ni ci, .bool ti, .slice Bi mi di] (g := w.heap.size) rfl).blk 33 #[.int .i64 E, .int .i64 Y] (g := w.heap.size + 1) (by simp)
   obtain ⟨W0, hW0⟩ : ∃ W0, W0 = ((w.alloc (.cells #[.int .i64 F, .int .i64 S, .slice A n c, .bool si, .slice Ai ni ci, .bool ti, .slice Bi mi di] 31)).alloc (.cells #[.int .i64 E, .int .i64 Y] 33)) := ⟨_, rfl⟩
   rw [← hW0] at hE
   have HW0 := Lib.hid hW0
   clear hW0
   go_enter Tryz.func6, Tryz.ntmps6
   go_upto_region 1 with (fail)
   rw [← HW0.out]
   go_wp2_with fail
   refine hE.br (awakeB_t _) ?_
   clear hE
   intro w1 hE
   go_upto_region 3 with (fail)
   replace hE := hE.drew
   refine wp_region_held_drew (S := fun w' => w'.cell? ⟨w.heap.size, 0, none⟩ = some (.int .i64 F) ∧ w'.cell? ⟨w.heap.size, 1, none⟩ = some (.int .i64 S) ∧ w'.cell? ⟨w.heap.size, 2, none⟩ = some (.slice A n c) ∧ w'.cell? ⟨w.heap.size, 3, none⟩ = some (.bool si) ∧ w'.cell? ⟨w.heap.size, 4, none⟩ = some (.slice Ai ni ci) ∧ w'.cell? ⟨w.heap.size, 5, none⟩ = some (.bool ti) ∧ w'.cell? ⟨w.heap.size, 6, none⟩ = some (.slice Bi mi di) ∧ w'.cell? ⟨w.heap.size + 1, 0, none⟩ = some (.int .i64 E) ∧ w'.cell? ⟨w.heap.size + 1, 1, none⟩ = some (.int .i64 Y)) (by kernel_rfl) (⟨(hE.here.1.2).c7.1, (hE.here.1.2).c7.2.1, (hE.here.1.2).c7.2.2.1, (hE.here.1.2).c7.2.2.2.1, (hE.here.1.2).c7.2.2.2.2.1, (hE.here.1.2).c7.2.2.2.2.2.1, (hE.here.1.2).c7.2.2.2.2.2.2, (hE.here.2).c2.1, (hE.here.2).c2.2⟩) (fun hHeld => ?_)
   refine tk 0 ?_
   try simp only [PL]
   refine tk 1 ?_
   try simp only [PL]
   refine r1 2 (fun K hK => ?_)
   go_simp
   refine hE.br (usableB_t (HhT.out.below hE.bel) (Hhr.out.below hE.bel) HhU.out) ?_
   clear hE
   intro w2 hE
   go_wp2_with fail
   refine hK.out _ _ (⟨(hE.here.1.2).c7.1, (hE.here.1.2).c7.2.1, (hE.here.1.2).c7.2.2.1, (hE.here.1.2).c7.2.2.2.1, (hE.here.1.2).c7.2.2.2.2.1, (hE.here.1.2).c7.2.2.2.2.2.1, (hE.here.1.2).c7.2.2.2.2.2.2, (hE.here.2).c2.1, (hE.here.2).c2.2⟩) (fun hHeld => ?_)
   clear hK K
   try simp only [PL]
   refine tk 3 ?_
   try simp only [PL]
   refine tk 4 ?_
   try simp only [PL]
   refine tk 5 ?_
   try simp only [PL]
   refine tk 6 ?_
   try simp only [PL]
   refine tk 7 ?_
   try simp only [PL]
   refine tk 8 ?_
   try simp only [PL]
   refine tk 9 ?_
   try simp only [PL]
   refine r1 10 (fun K hK => ?_)
   go_simp
   refine hE.br (laterB_v E Y (fn : Int) _ hY.1 (by omega) (by omega) (by omega)) ?_
   clear hE
   intro w3 hE
   go_wp2_with fail
   refine hK.out _ _ (⟨(hE.here.1.2).c7.1, (hE.here.1.2).c7.2.1, (hE.here.1.2).c7.2.2.1, (hE.here.1.2).c7.2.2.2.1, (hE.here.1.2).c7.2.2.2.2.1, (hE.here.1.2).c7.2.2.2.2.2.1, (hE.here.1.2).c7.2.2.2.2.2.2, (hE.here.2).c2.1, (hE.here.2).c2.2⟩) (fun hHeld => ?_)
   clear hK K
   try simp only [PL]
   refine r1 11 (fun K hK => ?_)
   go_simp
   refine hE.br (lright_t (c := c) (HhT.out.below hE.bel) HhB.out HhR2.out) ?_
   clear hE
   intro w4 hE
   go_wp2_with fail
   refine hK.out _ _ (⟨(hE.here.1.2).c7.1, (hE.here.1.2).c7.2.1, (hE.here.1.2).c7.2.2.1, (hE.here.1.2).c7.2.2.2.1, (hE.here.1.2).c7.2.2.2.2.1, (hE.here.1.2).c7.2.2.2.2.2.1, (hE.here.1.2).c7.2.2.2.2.2.2, (hE.here.2).c2.1, (hE.here.2).c2.2⟩) (fun hHeld => ?_)
   clear hK K
   try simp only [PL]
   refine tk 12 ?_
   try simp only [PL]
   refine tk 13 ?_
   try simp only [PL]
   refine wpAnyH_done (by kernel_rfl) ?_ _
   go_upto_region 5 with (fail)
   obtain ⟨k5, k6, k7, k8, k9, k10, k11⟩ := (hE.here.1.2).c7
   obtain ⟨k12, k13⟩ := (hE.here.2).c2
   go_wp2_with fail
   refine (HhCol.out _ hE.bel).mono ?_
   clear k5 k6 k7 k8 k9 k10 k11 k12 k13
   rintro e wc1 ⟨cv, h1, rfl, hcv, hcq, hb1⟩
   replace hE := hE.step hb1
   rcases hcv with ⟨-, h0⟩ | ⟨g1, cap1, rfl, -, hCB⟩
   · omega
   clear hb1
   replace hE := (hE.colp hCB).colq hcq
   clear hCB hcq
   go_upto_region 6 with (fail)
   replace hE := hE.drew
   refine wp_region_held_drew (S := fun w' => w'.cell? ⟨w.heap.size, 0, none⟩ = some (.int .i64 F) ∧ w'.cell? ⟨w.heap.size, 1, none⟩ = some (.int .i64 S) ∧ w'.cell? ⟨w.heap.size, 2, none⟩ = some (.slice A n c) ∧ w'.cell? ⟨w.heap.size, 3, none⟩ = some (.bool si) ∧ w'.cell? ⟨w.heap.size, 4, none⟩ = some (.slice Ai ni ci) ∧ w'.cell? ⟨w.heap.size, 5, none⟩ = some (.bool ti) ∧ w'.cell? ⟨w.heap.size, 6, none⟩ = some (.slice Bi mi di) ∧ w'.cell? ⟨w.heap.size + 1, 0, none⟩ = some (.int .i64 E) ∧ w'.cell? ⟨w.heap.size + 1, 1, none⟩ = some (.int .i64 Y)) (by kernel_rfl) (⟨(hE.h3).c7.1, (hE.h3).c7.2.1, (hE.h3).c7.2.2.1, (hE.h3).c7.2.2.2.1, (hE.h3).c7.2.2.2.2.1, (hE.h3).c7.2.2.2.2.2.1, (hE.h3).c7.2.2.2.2.2.2, (hE.h2).c2.1, (hE.h2).c2.2⟩) (fun hHeld => ?_)
   refine tk 0 ?_
   try simp only [PL]
   refine tk 1 ?_
   try simp only [PL]
   refine tk 2 ?_
   try simp only [PL]
   refine tk 3 ?_
   try simp only [PL]
   refine r1 4 (fun K hK => ?_)
   go_simp
   refine hE.br (laterB_v E Y (fn : Int) _ hY.1 (by omega) (by omega) (by omega)) ?_
   clear hE
   intro w14 hE
   go_wp2_with fail
   refine hK.out _ _ (⟨(hE.h3).c7.1, (hE.h3).c7.2.1, (hE.h3).c7.2.2.1, (hE.h3).c7.2.2.2.1, (hE.h3).c7.2.2.2.2.1, (hE.h3).c7.2.2.2.2.2.1, (hE.h3).c7.2.2.2.2.2.2, (hE.h2).c2.1, (hE.h2).c2.2⟩) (fun hHeld => ?_)
   clear hK K
   try simp only [PL]
   refine r1 5 (fun K hK => ?_)
   go_simp
   refine (HhCol2.out _ hE.bel).mono ?_
   rintro e wc2 ⟨cv, h2, rfl, hcv, hcq, hb1⟩
   replace hE := hE.step hb1
   rcases hcv with ⟨-, h0⟩ | ⟨g2, cap2, rfl, -, hCB⟩
   · omega
   clear hb1
   replace hE := (hE.colp hCB).colq hcq
   clear hCB hcq
   go_wp2_with fail
   refine hK.out _ _ (⟨(hE.h5).c7.1, (hE.h5).c7.2.1, (hE.h5).c7.2.2.1, (hE.h5).c7.2.2.2.1, (hE.h5).c7.2.2.2.2.1, (hE.h5).c7.2.2.2.2.2.1, (hE.h5).c7.2.2.2.2.2.2, (hE.h4).c2.1, (hE.h4).c2.2⟩) (fun hHeld => ?_)
   clear hK K
   try simp only [PL]
   refine tk 6 ?_
   try simp only [PL]
   refine tk 7 ?_
   try simp only [PL]
   refine tk 8 ?_
   try simp only [PL]
   refine tk 9 ?_
   try simp only [PL]
   refine tk 10 ?_
   try simp only [PL]
   refine wpAnyH_done (by kernel_rfl) ?_ _
   by_cases hnN : N ≤ fn
   ·
    have t1 : decide ((N : Int) ≤ (fn : Int)) = true := decide_eq_true (by omega)
    have t2 : (N : Int) ≤ (fn : Int) := by omega
    go_wp2_with fail
    go_ret
    exact ⟨rfl, hE.bel⟩
   ·
    have t1 : decide ((N : Int) ≤ (fn : Int)) = false := decide_eq_false (by omega)
    have t2 : ¬ (N : Int) ≤ (fn : Int) := by omega
    have t3 : (fn : Int) < (N : Int) := by omega
    have hNK : N = fn + K := Cnt.shift HhN.out (by omega) HhKc.out
    have HNK := Lib.hid hNK
    have o1 : IntKind.i64.wrap ((N : Int) - (fn : Int)) = (N : Int) - (fn : Int) := by rw [IntKind.wrap_i64]; omega
    have t4 : ((K : Int) != (N : Int) - (fn : Int)) = false := by rw [bne_eq_false_iff_eq]; omega
    clear hNK
    replace hE := hE.fv (show FV wc2 (dd v f fn) (h1 fn 0).s (h1 fn 0).A (h1 fn 0).n (h1 fn 0).t (h1 fn 0).B (h1 fn 0).m from (hE.h2) fn (by omega) 0 (by decide) trivial)
    have q0 := ColB.at2 (o := fn * 24) (j := 0) (i := 0) (v := .bool (h1 fn 0).s) (hE.h4) (show fn < N by omega) (by decide) (by decide) (by omega) rfl
    have q1 := ColB.at2 (o := fn * 24 + 1) (j := 0) (i := 1) (v := .slice (h1 fn 0).A (h1 fn 0).n (h1 fn 0).c) (hE.h4) (show fn < N by omega) (by decide) (by decide) (by omega) rfl
    have q2 := ColB.at2 (o := fn * 24 + 2) (j := 0) (i := 2) (v := .bool (h1 fn 0).t) (hE.h4) (show fn < N by omega) (by decide) (by decide) (by omega) rfl
    have q3 := ColB.at2 (o := fn * 24 + 3) (j := 0) (i := 3) (v := .slice (h1 fn 0).B (h1 fn 0).m (h1 fn 0).d) (hE.h4) (show fn < N by omega) (by decide) (by decide) (by omega) rfl
    go_upto_region 14 with (fail)
    clear q0 q1 q2 q3 t4 o1
    obtain ⟨g15, hg15⟩ : ∃ g15, g15 = wc2.heap.size := ⟨_, rfl⟩
    have hl15_0 : w.heap.size < g15 := by rw [hg15]; exact (hE.h6).lt
    have hl15_1 : w.heap.size + 1 < g15 := by rw [hg15]; exact (hE.h5).lt
    replace hE := hE.blk 29 #[.bool (h1 fn 0).s, .slice (h1 fn 0).A (h1 fn 0).n (h1 fn 0).c, .bool (h1 fn 0).t, .slice (h1 fn 0).B (h1 fn 0).m (h1 fn 0).d] (g := g15) hg15.symm
    generalize wc2.alloc (.cells #[.bool (h1 fn 0).s, .slice (h1 fn 0).A (h1 fn 0).n (h1 fn 0).c, .bool (h1 fn 0).t, .slice (h1 fn 0).B (h1 fn 0).m (h1 fn 0).d] 29) = W15 at hE ⊢
    rw [← hg15]
    clear hg15
    go_wp2_with fail
    go_loopw [12] (fun p wr => ∃ k : Nat, p = .int .i64 (k : Int) ∧ k ≤ K ∧ Env w (fun V => ((((((True ∧ ColB g1 N cap1 h1 V) ∧ ColQ h1 N (fun _ _ => True) (colq v f N) V) ∧ ColB g2 K cap2 h2 V) ∧ ColQ h2 K (fun _ _ => True) (colq v (fun i => f (fn + i)) K) V) ∧ FV V (dd v f fn) (h1 fn 0).s (h1 fn 0).A (h1 fn 0).n (h1 fn 0).t (h1 fn 0).B (h1 fn 0).m) ∧ Blk 29 (g15) #[.bool (h1 fn 0).s, .slice (h1 fn 0).A (h1 fn 0).n (h1 fn 0).c, .bool (h1 fn 0).t, .slice (h1 fn 0).B (h1 fn 0).m (h1 fn 0).d] V)) wr) (fun p _ => K - (intOf p).toNat)
    case atStart => exact ⟨0, rfl, Nat.zero_le _, (((((((Env.again hE.bel).colp (hE.h5)).colq (hE.h4)).colp (hE.h3)).colq (hE.h2)).fv (hE.here.1.2)).blkI (hE.here.2))⟩
    case round =>
     clear hE
     obtain ⟨k, rfl, hkK, hE⟩ := hrel
     by_cases hk : k < K
     ·
      have t5 : decide ((k : Int) < (K : Int)) = true := decide_eq_true (by omega)
      have t6 : (k : Int) < (K : Int) := by omega
      have o2 : IntKind.i64.wrap ((fn : Int) + (k : Int)) = (fn : Int) + (k : Int) := by rw [IntKind.wrap_i64]; omega
      have hkN : fn + k < N := by have := HNK.out; omega
      have t7 : (fn : Int) + (k : Int) < (N : Int) := by omega
      have t8 : (0 : Int) ≤ (fn : Int) + (k : Int) := by omega
      have hld := col_load (hE.h5) hkN
      obtain ⟨V, hst, -, hba, -, hbx⟩ := col_store wr (h1 (fn + k))
      replace hE := hE.step hba
      replace hE := hE.blkI hbx
      clear hbx
      go_upto_region 18 with (first | refine wpList_ld hld rfl rfl rfl ?_ | refine wpList_st hst rfl rfl rfl rfl ?_)
      clear hld hst hba
      have hrN : Rts f N := fun i hi => Hhrf.out i (by omega)
      have hrK : Rts (fun i => f (fn + i)) K := fun i hi => Hhrf.out (fn + i) (by omega)
      have ldd : fl (dd v f fn) ≤ 256 := (dd_ql Hhdis.out hrN (show fn ≤ N by omega)).l (by decide) (by decide) (by omega)
      have lc0 : fl ((dd v f) (fn + k)) ≤ 256 := (dd_ql Hhdis.out hrN (Nat.le_of_lt hkN)).l (by decide) (by decide) (by omega)
      have lm0 : fl ((dd v (fun i => f (fn + i))) k) ≤ 256 := (dd_ql Hhdis.out hrK (Nat.le_of_lt hk)).l (by decide) (by decide) (by omega)
      have se0 : (dd v f) (fn + k) = dd v f fn * (dd v (fun i => f (fn + i))) k := dd_shift v f fn k
      have lc1 : fl ((sf (dd v f) N) (fn + k)) ≤ 256 := (nn_ql Hhdis.out hrN (Nat.le_of_lt hkN)).l (by omega) (Nat.lt_of_le_of_lt (show N * 1 ≤ 80 by omega) (by decide)) (by omega)
      have lm1 : fl ((sf (dd v (fun i => f (fn + i))) K) k) ≤ 256 := (nn_ql Hhdis.out hrK (Nat.le_of_lt hk)).l (by omega) (Nat.lt_of_le_of_lt (show K * 1 ≤ 80 by omega) (by decide)) (by omega)
      have se1 : (sf (dd v f) N) (fn + k) = dd v f fn * (sf (dd v (fun i => f (fn + i))) K) k := nn_shift HNK.out k (by omega)
      have lc2 : fl ((sf (sf (dd v f) N) N) (fn + k)) ≤ 256 := (ss_ql Hhdis.out hrN (Nat.le_of_lt hkN)).l (Nat.mul_pos (by omega) (by omega)) (Nat.lt_of_le_of_lt (Nat.mul_le_mul (show N ≤ 80 by omega) (show N * 1 ≤ 80 by omega)) (by decide)) (by omega)
      have lm2 : fl ((sf (sf (dd v (fun i => f (fn + i))) K) K) k) ≤ 256 := (ss_ql Hhdis.out hrK (Nat.le_of_lt hk)).l (Nat.mul_pos (by omega) (by omega)) (Nat.lt_of_le_of_lt (Nat.mul_le_mul (show K ≤ 80 by omega) (show K * 1 ≤ 80 by omega)) (by decide)) (by omega)
      have se2 : (sf (sf (dd v f) N) N) (fn + k) = dd v f fn * (sf (sf (dd v (fun i => f (fn + i))) K) K) k := ss_shift HNK.out k (by omega)
      have lc3 : fl ((cc v f) (fn + k)) ≤ 256 := (cc_ql Hhdis.out hrN hkN).l (by decide) (by decide) (by omega)
      have lm3 : fl ((cc v (fun i => f (fn + i))) k) ≤ 256 := (cc_ql Hhdis.out hrK hk).l (by decide) (by decide) (by omega)
      have se3 : (cc v f) (fn + k) = dd v f fn * (cc v (fun i => f (fn + i))) k := cc_shift v f fn k
      have lc4 : fl ((sf (cc v f) N) (fn + k)) ≤ 256 := (mm_ql Hhdis.out hrN (Nat.le_of_lt hkN)).l (by omega) (Nat.lt_of_le_of_lt (show N * 1 ≤ 80 by omega) (by decide)) (by omega)
      have lm4 : fl ((sf (cc v (fun i => f (fn + i))) K) k) ≤ 256 := (mm_ql Hhdis.out hrK (Nat.le_of_lt hk)).l (by omega) (Nat.lt_of_le_of_lt (show K * 1 ≤ 80 by omega) (by decide)) (by omega)
      have se4 : (sf (cc v f) N) (fn + k) = dd v f fn * (sf (cc v (fun i => f (fn + i))) K) k := mm_shift HNK.out k (by omega)
      have lc5 : fl ((sf (sf (cc v f) N) N) (fn + k)) ≤ 256 := (rr_ql Hhdis.out hrN (Nat.le_of_lt hkN)).l (Nat.mul_pos (by omega) (by omega)) (Nat.lt_of_le_of_lt (Nat.mul_le_mul (show N ≤ 80 by omega) (show N * 1 ≤ 80 by omega)) (by decide)) (by omega)
      have lm5 : fl ((sf (sf (cc v (fun i => f (fn + i))) K) K) k) ≤ 256 := (rr_ql Hhdis.out hrK (Nat.le_of_lt hk)).l (Nat.mul_pos (by omega) (by omega)) (Nat.lt_of_le_of_lt (Nat.mul_le_mul (show K ≤ 80 by omega) (show K * 1 ≤ 80 by omega)) (by decide)) (by omega)
      have se5 : (sf (sf (cc v f) N) N) (fn + k) = dd v f fn * (sf (sf (cc v (fun i => f (fn + i))) K) K) k := rr_shift HNK.out k (by omega)
      have Hldd := Lib.hid ldd
      clear ldd
      have Hlc0 := Lib.hid lc0
      clear lc0
      have Hlc1 := Lib.hid lc1
      clear lc1
      have Hlc2 := Lib.hid lc2
      clear lc2
      have Hlc3 := Lib.hid lc3
      clear lc3
      have Hlc4 := Lib.hid lc4
      clear lc4
      have Hlc5 := Lib.hid lc5
      clear lc5
      have Hlm0 := Lib.hid lm0
      clear lm0
      have Hlm1 := Lib.hid lm1
      clear lm1
      have Hlm2 := Lib.hid lm2
      clear lm2
      have Hlm3 := Lib.hid lm3
      clear lm3
      have Hlm4 := Lib.hid lm4
      clear lm4
      have Hlm5 := Lib.hid lm5
      clear lm5
      have Hse0 := Lib.hid se0
      clear se0
      have Hse1 := Lib.hid se1
      clear se1
      have Hse2 := Lib.hid se2
      clear se2
      have Hse3 := Lib.hid se3
      clear se3
      have Hse4 := Lib.hid se4
      clear se4
      have Hse5 := Lib.hid se5
      clear se5
      replace hE := hE.fv (show FV V ((dd v f) (fn + k)) (h1 (fn + k) 0).s (h1 (fn + k) 0).A (h1 (fn + k) 0).n (h1 (fn + k) 0).t (h1 (fn + k) 0).B (h1 (fn + k) 0).m from (hE.h5) (fn + k) (by omega) 0 (by decide) trivial)
      replace hE := hE.fv (show FV V ((dd v (fun i => f (fn + i))) k) (h2 k 0).s (h2 k 0).A (h2 k 0).n (h2 k 0).t (h2 k 0).B (h2 k 0).m from (hE.h4) k (by omega) 0 (by decide) trivial)
      replace hE := hE.fv (show FV V ((sf (dd v f) N) (fn + k)) (h1 (fn + k) 1).s (h1 (fn + k) 1).A (h1 (fn + k) 1).n (h1 (fn + k) 1).t (h1 (fn + k) 1).B (h1 (fn + k) 1).m from (hE.h7) (fn + k) (by omega) 1 (by decide) trivial)
      replace hE := hE.fv (show FV V ((sf (dd v (fun i => f (fn + i))) K) k) (h2 k 1).s (h2 k 1).A (h2 k 1).n (h2 k 1).t (h2 k 1).B (h2 k 1).m from (hE.h6) k (by omega) 1 (by decide) trivial)
      replace hE := hE.fv (show FV V ((sf (sf (dd v f) N) N) (fn + k)) (h1 (fn + k) 2).s (h1 (fn + k) 2).A (h1 (fn + k) 2).n (h1 (fn + k) 2).t (h1 (fn + k) 2).B (h1 (fn + k) 2).m from (hE.h9) (fn + k) (by omega) 2 (by decide) trivial)
      replace hE := hE.fv (show FV V ((sf (sf (dd v (fun i => f (fn + i))) K) K) k) (h2 k 2).s (h2 k 2).A (h2 k 2).n (h2 k 2).t (h2 k 2).B (h2 k 2).m from (hE.h8) k (by omega) 2 (by decide) trivial)
      replace hE := hE.fv (show FV V ((cc v f) (fn + k)) (h1 (fn + k) 3).s (h1 (fn + k) 3).A (h1 (fn + k) 3).n (h1 (fn + k) 3).t (h1 (fn + k) 3).B (h1 (fn + k) 3).m from (hE.h11) (fn + k) (by omega) 3 (by decide) trivial)
      replace hE := hE.fv (show FV V ((cc v (fun i => f (fn + i))) k) (h2 k 3).s (h2 k 3).A (h2 k 3).n (h2 k 3).t (h2 k 3).B (h2 k 3).m from (hE.h10) k (by omega) 3 (by decide) trivial)
      replace hE := hE.fv (show FV V ((sf (cc v f) N) (fn + k)) (h1 (fn + k) 4).s (h1 (fn + k) 4).A (h1 (fn + k) 4).n (h1 (fn + k) 4).t (h1 (fn + k) 4).B (h1 (fn + k) 4).m from (hE.h13) (fn + k) (by omega) 4 (by decide) trivial)
      replace hE := hE.fv (show FV V ((sf (cc v (fun i => f (fn + i))) K) k) (h2 k 4).s (h2 k 4).A (h2 k 4).n (h2 k 4).t (h2 k 4).B (h2 k 4).m from (hE.h12) k (by omega) 4 (by decide) trivial)
      replace hE := hE.fv (show FV V ((sf (sf (cc v f) N) N) (fn + k)) (h1 (fn + k) 5).s (h1 (fn + k) 5).A (h1 (fn + k) 5).n (h1 (fn + k) 5).t (h1 (fn + k) 5).B (h1 (fn + k) 5).m from (hE.h15) (fn + k) (by omega) 5 (by decide) trivial)
      replace hE := hE.fv (show FV V ((sf (sf (cc v (fun i => f (fn + i))) K) K) k) (h2 k 5).s (h2 k 5).A (h2 k 5).n (h2 k 5).t (h2 k 5).B (h2 k 5).m from (hE.h14) k (by omega) 5 (by decide) trivial)
      have t9 : (0 : Int) ≤ (k : Int) := by omega
      replace hE := hE.drew
      refine wp_region_held_drew (S := fun V => (((((((((((((((((((True ∧ ColB g1 N cap1 h1 V) ∧ ColQ h1 N (fun _ _ => True) (colq v f N) V) ∧ ColB g2 K cap2 h2 V) ∧ ColQ h2 K (fun _ _ => True) (colq v (fun i => f (fn + i)) K) V) ∧ FV V (dd v f fn) (h1 fn 0).s (h1 fn 0).A (h1 fn 0).n (h1 fn 0).t (h1 fn 0).B (h1 fn 0).m) ∧ Blk 29 (g15) #[.bool (h1 fn 0).s, .slice (h1 fn 0).A (h1 fn 0).n (h1 fn 0).c, .bool (h1 fn 0).t, .slice (h1 fn 0).B (h1 fn 0).m (h1 fn 0).d] V) ∧ Blk 53 wr.heap.size (cols1 (h1 (fn + k))).toArray V) ∧ FV V ((dd v f) (fn + k)) (h1 (fn + k) 0).s (h1 (fn + k) 0).A (h1 (fn + k) 0).n (h1 (fn + k) 0).t (h1 (fn + k) 0).B (h1 (fn + k) 0).m) ∧ FV V ((dd v (fun i => f (fn + i))) k) (h2 k 0).s (h2 k 0).A (h2 k 0).n (h2 k 0).t (h2 k 0).B (h2 k 0).m) ∧ FV V ((sf (dd v f) N) (fn + k)) (h1 (fn + k) 1).s (h1 (fn + k) 1).A (h1 (fn + k) 1).n (h1 (fn + k) 1).t (h1 (fn + k) 1).B (h1 (fn + k) 1).m) ∧ FV V ((sf (dd v (fun i => f (fn + i))) K) k) (h2 k 1).s (h2 k 1).A (h2 k 1).n (h2 k 1).t (h2 k 1).B (h2 k 1).m) ∧ FV V ((sf (sf (dd v f) N) N) (fn + k)) (h1 (fn + k) 2).s (h1 (fn + k) 2).A (h1 (fn + k) 2).n (h1 (fn + k) 2).t (h1 (fn + k) 2).B (h1 (fn + k) 2).m) ∧ FV V ((sf (sf (dd v (fun i => f (fn + i))) K) K) k) (h2 k 2).s (h2 k 2).A (h2 k 2).n (h2 k 2).t (h2 k 2).B (h2 k 2).m) ∧ FV V ((cc v f) (fn + k)) (h1 (fn + k) 3).s (h1 (fn + k) 3).A (h1 (fn + k) 3).n (h1 (fn + k) 3).t (h1 (fn + k) 3).B (h1 (fn + k) 3).m) ∧ FV V ((cc v (fun i => f (fn + i))) k) (h2 k 3).s (h2 k 3).A (h2 k 3).n (h2 k 3).t (h2 k 3).B (h2 k 3).m) ∧ FV V ((sf (cc v f) N) (fn + k)) (h1 (fn + k) 4).s (h1 (fn + k) 4).A (h1 (fn + k) 4).n (h1 (fn + k) 4).t (h1 (fn + k) 4).B (h1 (fn + k) 4).m) ∧ FV V ((sf (cc v (fun i => f (fn + i))) K) k) (h2 k 4).s (h2 k 4).A (h2 k 4).n (h2 k 4).t (h2 k 4).B (h2 k 4).m) ∧ FV V ((sf (sf (cc v f) N) N) (fn + k)) (h1 (fn + k) 5).s (h1 (fn + k) 5).A (h1 (fn + k) 5).n (h1 (fn + k) 5).t (h1 (fn + k) 5).B (h1 (fn + k) 5).m) ∧ FV V ((sf (sf (cc v (fun i => f (fn + i))) K) K) k) (h2 k 5).s (h2 k 5).A (h2 k 5).n (h2 k 5).t (h2 k 5).B (h2 k 5).m)) (by kernel_rfl) hE.here (fun hHeld => ?_)
      refine wpAnyH_take (i := 0) (v := ?v3_0_1) rfl (by kernel_rfl) (by kernel_rfl) (by kernel_rfl) (fun _ _ _ h => h) (Or.inl ⟨by rfl, ?hy3_0_1⟩) (by assumption) ?rest3_0_1
      case hy3_0_1 =>
       intro w hSw
       obtain ⟨c0, c1, c2, c3⟩ := (hSw.1.1.1.1.1.1.1.1.1.1.1.1.1.2).c4
       clear hSw
       first | (go_simp; done) | (go_simp; with_reducible rfl)
      try simp only [PL]
      refine wpAnyH_take (i := 1) (v := ?v3_1_2) rfl (by kernel_rfl) (by kernel_rfl) (by kernel_rfl) (fun _ _ _ h => h) (Or.inl ⟨by rfl, ?hy3_1_2⟩) (by assumption) ?rest3_1_2
      case hy3_1_2 =>
       intro w hSw
       clear hSw
       first | (go_simp; done) | (go_simp; with_reducible rfl)
      try simp only [PL]
      refine wpAnyH_take (i := 2) (v := ?v3_2_3) rfl (by kernel_rfl) (by kernel_rfl) (by kernel_rfl) (fun _ _ _ h => h) (Or.inl ⟨by rfl, ?hy3_2_3⟩) (by assumption) ?rest3_2_3
      case hy3_2_3 =>
       intro w hSw
       clear hSw
       first | (go_simp; done) | (go_simp; with_reducible rfl)
      try simp only [PL]
      refine wpAnyH_take (i := 3) (v := ?v3_3_4) rfl (by kernel_rfl) (by kernel_rfl) (by kernel_rfl) (fun _ _ _ h => h) (Or.inl ⟨by rfl, ?hy3_3_4⟩) (by assumption) ?rest3_3_4
      case hy3_3_4 =>
       intro w hSw
       clear hSw
       first | (go_simp; done) | (go_simp; with_reducible rfl)
      try simp only [PL]
      refine wpAnyH_take (i := 4) (v := ?v3_4_5) rfl (by kernel_rfl) (by kernel_rfl) (by kernel_rfl) (fun _ _ _ h => h) (Or.inl ⟨by rfl, ?hy3_4_5⟩) (by assumption) ?rest3_4_5
      case hy3_4_5 =>
       intro w hSw
       clear hSw
       first | (go_simp; done) | (go_simp; with_reducible rfl)
      try simp only [PL]
      refine wpAnyH_take (i := 5) (v := ?v3_5_6) rfl (by kernel_rfl) (by kernel_rfl) (by kernel_rfl) (fun _ _ _ h => h) (Or.inl ⟨by rfl, ?hy3_5_6⟩) (by assumption) ?rest3_5_6
      case hy3_5_6 =>
       intro w hSw
       have c0_0 := ColB.at2 (o := k * 24) (j := 0) (i := 0) (v := .bool (h2 k 0).s) (hSw.1.1.1.1.1.1.1.1.1.1.1.1.1.1.1.1.2) hk (by decide) (by decide) (by omega) rfl
       have c1_0 := ColB.at2 (o := k * 24 + 1) (j := 0) (i := 1) (v := .slice (h2 k 0).A (h2 k 0).n (h2 k 0).c) (hSw.1.1.1.1.1.1.1.1.1.1.1.1.1.1.1.1.2) hk (by decide) (by decide) (by omega) rfl
       have c2_0 := ColB.at2 (o := k * 24 + 2) (j := 0) (i := 2) (v := .bool (h2 k 0).t) (hSw.1.1.1.1.1.1.1.1.1.1.1.1.1.1.1.1.2) hk (by decide) (by decide) (by omega) rfl
       have c3_0 := ColB.at2 (o := k * 24 + 3) (j := 0) (i := 3) (v := .slice (h2 k 0).B (h2 k 0).m (h2 k 0).d) (hSw.1.1.1.1.1.1.1.1.1.1.1.1.1.1.1.1.2) hk (by decide) (by decide) (by omega) rfl
       clear hSw
       first | (go_simp; done) | (go_simp; with_reducible rfl)
      try simp only [PL]
      refine wpAnyH_take (i := 7) (v := ?v3_7_7) rfl (by kernel_rfl) (by kernel_rfl) (by kernel_rfl) (fun _ _ _ h => h) (Or.inl ⟨by rfl, ?hy3_7_7⟩) (by assumption) ?rest3_7_7
      case hy3_7_7 =>
       intro w hSw
       clear hSw
       first | (go_simp; done) | (go_simp; with_reducible rfl)
      try simp only [PL]
      refine wpAnyH_take (i := 8) (v := ?v3_8_8) rfl (by kernel_rfl) (by kernel_rfl) (by kernel_rfl) (fun _ _ _ h => h) (Or.inl ⟨by rfl, ?hy3_8_8⟩) (by assumption) ?rest3_8_8
      case hy3_8_8 =>
       intro w hSw
       have c0 := (hSw.1.1.1.1.1.1.1.1.1.1.1.1.2).col (o := 0) (j := 0) (i := 0) (v := .bool (h1 (fn + k) 0).s) (by decide) (by decide) rfl rfl
       have c1 := (hSw.1.1.1.1.1.1.1.1.1.1.1.1.2).col (o := 1) (j := 0) (i := 1) (v := .slice (h1 (fn + k) 0).A (h1 (fn + k) 0).n (h1 (fn + k) 0).c) (by decide) (by decide) rfl rfl
       have c2 := (hSw.1.1.1.1.1.1.1.1.1.1.1.1.2).col (o := 2) (j := 0) (i := 2) (v := .bool (h1 (fn + k) 0).t) (by decide) (by decide) rfl rfl
       have c3 := (hSw.1.1.1.1.1.1.1.1.1.1.1.1.2).col (o := 3) (j := 0) (i := 3) (v := .slice (h1 (fn + k) 0).B (h1 (fn + k) 0).m (h1 (fn + k) 0).d) (by decide) (by decide) rfl rfl
       clear hSw
       first | (go_simp; done) | (go_simp; with_reducible rfl)
      try simp only [PL]
      refine r1 6 (fun K hK => ?_)
      go_simp
      refine hE.fr (cw_product (ca := (h1 fn 0).c) (da := (h1 fn 0).d) (cb := (h2 k 0).c) (db := (h2 k 0).d) (hE.h14) (hE.h10) Hldd.out Hlm0.out (by rw [← Hse0.out]; exact Hlc0.out)) ?_
      clear hE
      intro sp0 Ap0 np0 cp0 tp0 Bp0 mp0 dp0 w16 hE
      go_wp2_with fail
      refine hK.out _ _ (hE.here.1) (fun hHeld => ?_)
      clear hK K
      try simp only [PL]
      refine r1 9 (fun K hK => ?_)
      go_simp
      refine hE.br (cw_equal (v := true) (ca := cp0) (da := dp0) (cb := (h1 (fn + k) 0).c) (db := (h1 (fn + k) 0).d) (hE.here.2) (hE.h12) (by rw [← Hse0.out]; exact Hlc0.out) Hlc0.out (decide_eq_true Hse0.out.symm)) ?_
      clear hE
      intro w17 hE
      go_wp2_with fail
      refine hK.out _ _ (hE.here.1) (fun hHeld => ?_)
      clear hK K
      try simp only [PL]
      refine wpAnyH_take (i := 10) (v := ?v3_10_9) rfl (by kernel_rfl) (by kernel_rfl) (by kernel_rfl) (fun _ _ _ h => h) (Or.inl ⟨by rfl, ?hy3_10_9⟩) (by assumption) ?rest3_10_9
      case hy3_10_9 =>
       intro w hSw
       clear hSw
       first | (go_simp; done) | (go_simp; with_reducible rfl)
      try simp only [PL]
      refine wpAnyH_take (i := 11) (v := ?v3_11_10) rfl (by kernel_rfl) (by kernel_rfl) (by kernel_rfl) (fun _ _ _ h => h) (Or.inl ⟨by rfl, ?hy3_11_10⟩) (by assumption) ?rest3_11_10
      case hy3_11_10 =>
       intro w hSw
       clear hSw
       first | (go_simp; done) | (go_simp; with_reducible rfl)
      try simp only [PL]
      refine wpAnyH_take (i := 12) (v := ?v3_12_11) rfl (by kernel_rfl) (by kernel_rfl) (by kernel_rfl) (fun _ _ _ h => h) (Or.inl ⟨by rfl, ?hy3_12_11⟩) (by assumption) ?rest3_12_11
      case hy3_12_11 =>
       intro w hSw
       obtain ⟨c0, c1, c2, c3⟩ := (hSw.1.1.1.1.1.1.1.1.1.1.1.1.1.2).c4
       clear hSw
       first | (go_simp; done) | (go_simp; with_reducible rfl)
      try simp only [PL]
      refine wpAnyH_take (i := 13) (v := ?v3_13_12) rfl (by kernel_rfl) (by kernel_rfl) (by kernel_rfl) (fun _ _ _ h => h) (Or.inl ⟨by rfl, ?hy3_13_12⟩) (by assumption) ?rest3_13_12
      case hy3_13_12 =>
       intro w hSw
       clear hSw
       first | (go_simp; done) | (go_simp; with_reducible rfl)
      try simp only [PL]
      refine wpAnyH_take (i := 14) (v := ?v3_14_13) rfl (by kernel_rfl) (by kernel_rfl) (by kernel_rfl) (fun _ _ _ h => h) (Or.inl ⟨by rfl, ?hy3_14_13⟩) (by assumption) ?rest3_14_13
      case hy3_14_13 =>
       intro w hSw
       clear hSw
       first | (go_simp; done) | (go_simp; with_reducible rfl)
      try simp only [PL]
      refine wpAnyH_take (i := 15) (v := ?v3_15_14) rfl (by kernel_rfl) (by kernel_rfl) (by kernel_rfl) (fun _ _ _ h => h) (Or.inl ⟨by rfl, ?hy3_15_14⟩) (by assumption) ?rest3_15_14
      case hy3_15_14 =>
       intro w hSw
       clear hSw
       first | (go_simp; done) | (go_simp; with_reducible rfl)
      try simp only [PL]
      refine wpAnyH_take (i := 16) (v := ?v3_16_15) rfl (by kernel_rfl) (by kernel_rfl) (by kernel_rfl) (fun _ _ _ h => h) (Or.inl ⟨by rfl, ?hy3_16_15⟩) (by assumption) ?rest3_16_15
      case hy3_16_15 =>
       intro w hSw
       clear hSw
       first | (go_simp; done) | (go_simp; with_reducible rfl)
      try simp only [PL]
      refine wpAnyH_take (i := 17) (v := ?v3_17_16) rfl (by kernel_rfl) (by kernel_rfl) (by kernel_rfl) (fun _ _ _ h => h) (Or.inl ⟨by rfl, ?hy3_17_16⟩) (by assumption) ?rest3_17_16
      case hy3_17_16 =>
       intro w hSw
       have c0_0 := ColB.at2 (o := k * 24 + 4) (j := 1) (i := 0) (v := .bool (h2 k 1).s) (hSw.1.1.1.1.1.1.1.1.1.1.1.1.1.1.1.1.2) hk (by decide) (by decide) (by omega) rfl
       have c1_0 := ColB.at2 (o := k * 24 + 5) (j := 1) (i := 1) (v := .slice (h2 k 1).A (h2 k 1).n (h2 k 1).c) (hSw.1.1.1.1.1.1.1.1.1.1.1.1.1.1.1.1.2) hk (by decide) (by decide) (by omega) rfl
       have c1_1 := ColB.at2 (o := k * 24 + 4 + 1) (j := 1) (i := 1) (v := .slice (h2 k 1).A (h2 k 1).n (h2 k 1).c) (hSw.1.1.1.1.1.1.1.1.1.1.1.1.1.1.1.1.2) hk (by decide) (by decide) (by omega) rfl
       have c2_0 := ColB.at2 (o := k * 24 + 6) (j := 1) (i := 2) (v := .bool (h2 k 1).t) (hSw.1.1.1.1.1.1.1.1.1.1.1.1.1.1.1.1.2) hk (by decide) (by decide) (by omega) rfl
       have c2_1 := ColB.at2 (o := k * 24 + 4 + 2) (j := 1) (i := 2) (v := .bool (h2 k 1).t) (hSw.1.1.1.1.1.1.1.1.1.1.1.1.1.1.1.1.2) hk (by decide) (by decide) (by omega) rfl
       have c3_0 := ColB.at2 (o := k * 24 + 7) (j := 1) (i := 3) (v := .slice (h2 k 1).B (h2 k 1).m (h2 k 1).d) (hSw.1.1.1.1.1.1.1.1.1.1.1.1.1.1.1.1.2) hk (by decide) (by decide) (by omega) rfl
       have c3_1 := ColB.at2 (o := k * 24 + 4 + 3) (j := 1) (i := 3) (v := .slice (h2 k 1).B (h2 k 1).m (h2 k 1).d) (hSw.1.1.1.1.1.1.1.1.1.1.1.1.1.1.1.1.2) hk (by decide) (by decide) (by omega) rfl
       clear hSw
       first | (go_simp; done) | (go_simp; with_reducible rfl)
      try simp only [PL]
      refine wpAnyH_take (i := 19) (v := ?v3_19_17) rfl (by kernel_rfl) (by kernel_rfl) (by kernel_rfl) (fun _ _ _ h => h) (Or.inl ⟨by rfl, ?hy3_19_17⟩) (by assumption) ?rest3_19_17
      case hy3_19_17 =>
       intro w hSw
       clear hSw
       first | (go_simp; done) | (go_simp; with_reducible rfl)
      try simp only [PL]
      refine wpAnyH_take (i := 20) (v := ?v3_20_18) rfl (by kernel_rfl) (by kernel_rfl) (by kernel_rfl) (fun _ _ _ h => h) (Or.inl ⟨by rfl, ?hy3_20_18⟩) (by assumption) ?rest3_20_18
      case hy3_20_18 =>
       intro w hSw
       have c0 := (hSw.1.1.1.1.1.1.1.1.1.1.1.1.2).col (o := 4) (j := 1) (i := 0) (v := .bool (h1 (fn + k) 1).s) (by decide) (by decide) rfl rfl
       have c1 := (hSw.1.1.1.1.1.1.1.1.1.1.1.1.2).col (o := 5) (j := 1) (i := 1) (v := .slice (h1 (fn + k) 1).A (h1 (fn + k) 1).n (h1 (fn + k) 1).c) (by decide) (by decide) rfl rfl
       have c2 := (hSw.1.1.1.1.1.1.1.1.1.1.1.1.2).col (o := 6) (j := 1) (i := 2) (v := .bool (h1 (fn + k) 1).t) (by decide) (by decide) rfl rfl
       have c3 := (hSw.1.1.1.1.1.1.1.1.1.1.1.1.2).col (o := 7) (j := 1) (i := 3) (v := .slice (h1 (fn + k) 1).B (h1 (fn + k) 1).m (h1 (fn + k) 1).d) (by decide) (by decide) rfl rfl
       clear hSw
       first | (go_simp; done) | (go_simp; with_reducible rfl)
      try simp only [PL]
      refine r1 18 (fun K hK => ?_)
      go_simp
      refine hE.fr (cw_product (ca := (h1 fn 0).c) (da := (h1 fn 0).d) (cb := (h2 k 1).c) (db := (h2 k 1).d) (hE.h15) (hE.h9) Hldd.out Hlm1.out (by rw [← Hse1.out]; exact Hlc1.out)) ?_
      clear hE
      intro sp1 Ap1 np1 cp1 tp1 Bp1 mp1 dp1 w18 hE
      go_wp2_with fail
      refine hK.out _ _ (hE.here.1.1) (fun hHeld => ?_)
      clear hK K
      try simp only [PL]
      refine r1 21 (fun K hK => ?_)
      go_simp
      refine hE.br (cw_equal (v := true) (ca := cp1) (da := dp1) (cb := (h1 (fn + k) 1).c) (db := (h1 (fn + k) 1).d) (hE.here.2) (hE.h11) (by rw [← Hse1.out]; exact Hlc1.out) Hlc1.out (decide_eq_true Hse1.out.symm)) ?_
      clear hE
      intro w19 hE
      go_wp2_with fail
      refine hK.out _ _ (hE.here.1.1) (fun hHeld => ?_)
      clear hK K
      try simp only [PL]
      refine wpAnyH_take (i := 22) (v := ?v3_22_19) rfl (by kernel_rfl) (by kernel_rfl) (by kernel_rfl) (fun _ _ _ h => h) (Or.inl ⟨by rfl, ?hy3_22_19⟩) (by assumption) ?rest3_22_19
      case hy3_22_19 =>
       intro w hSw
       clear hSw
       first | (go_simp; done) | (go_simp; with_reducible rfl)
      try simp only [PL]
      refine wpAnyH_take (i := 23) (v := ?v3_23_20) rfl (by kernel_rfl) (by kernel_rfl) (by kernel_rfl) (fun _ _ _ h => h) (Or.inl ⟨by rfl, ?hy3_23_20⟩) (by assumption) ?rest3_23_20
      case hy3_23_20 =>
       intro w hSw
       clear hSw
       first | (go_simp; done) | (go_simp; with_reducible rfl)
      try simp only [PL]
      refine wpAnyH_take (i := 24) (v := ?v3_24_21) rfl (by kernel_rfl) (by kernel_rfl) (by kernel_rfl) (fun _ _ _ h => h) (Or.inl ⟨by rfl, ?hy3_24_21⟩) (by assumption) ?rest3_24_21
      case hy3_24_21 =>
       intro w hSw
       clear hSw
       first | (go_simp; done) | (go_simp; with_reducible rfl)
      try simp only [PL]
      refine wpAnyH_take (i := 25) (v := ?v3_25_22) rfl (by kernel_rfl) (by kernel_rfl) (by kernel_rfl) (fun _ _ _ h => h) (Or.inl ⟨by rfl, ?hy3_25_22⟩) (by assumption) ?rest3_25_22
      case hy3_25_22 =>
       intro w hSw
       obtain ⟨c0, c1, c2, c3⟩ := (hSw.1.1.1.1.1.1.1.1.1.1.1.1.1.2).c4
       clear hSw
       first | (go_simp; done) | (go_simp; with_reducible rfl)
      try simp only [PL]
      refine wpAnyH_take (i := 26) (v := ?v3_26_23) rfl (by kernel_rfl) (by kernel_rfl) (by kernel_rfl) (fun _ _ _ h => h) (Or.inl ⟨by rfl, ?hy3_26_23⟩) (by assumption) ?rest3_26_23
      case hy3_26_23 =>
       intro w hSw
       clear hSw
       first | (go_simp; done) | (go_simp; with_reducible rfl)
      try simp only [PL]
      refine wpAnyH_take (i := 27) (v := ?v3_27_24) rfl (by kernel_rfl) (by kernel_rfl) (by kernel_rfl) (fun _ _ _ h => h) (Or.inl ⟨by rfl, ?hy3_27_24⟩) (by assumption) ?rest3_27_24
      case hy3_27_24 =>
       intro w hSw
       clear hSw
       first | (go_simp; done) | (go_simp; with_reducible rfl)
      try simp only [PL]
      refine wpAnyH_take (i := 28) (v := ?v3_28_25) rfl (by kernel_rfl) (by kernel_rfl) (by kernel_rfl) (fun _ _ _ h => h) (Or.inl ⟨by rfl, ?hy3_28_25⟩) (by assumption) ?rest3_28_25
      case hy3_28_25 =>
       intro w hSw
       clear hSw
       first | (go_simp; done) | (go_simp; with_reducible rfl)
      try simp only [PL]
      refine wpAnyH_take (i := 29) (v := ?v3_29_26) rfl (by kernel_rfl) (by kernel_rfl) (by kernel_rfl) (fun _ _ _ h => h) (Or.inl ⟨by rfl, ?hy3_29_26⟩) (by assumption) ?rest3_29_26
      case hy3_29_26 =>
       intro w hSw
       clear hSw
       first | (go_simp; done) | (go_simp; with_reducible rfl)
      try simp only [PL]
      refine wpAnyH_take (i := 30) (v := ?v3_30_27) rfl (by kernel_rfl) (by kernel_rfl) (by kernel_rfl) (fun _ _ _ h => h) (Or.inl ⟨by rfl, ?hy3_30_27⟩) (by assumption) ?rest3_30_27
      case hy3_30_27 =>
       intro w hSw
       have c0_0 := ColB.at2 (o := k * 24 + 8) (j := 2) (i := 0) (v := .bool (h2 k 2).s) (hSw.1.1.1.1.1.1.1.1.1.1.1.1.1.1.1.1.2) hk (by decide) (by decide) (by omega) rfl
       have c1_0 := ColB.at2 (o := k * 24 + 9) (j := 2) (i := 1) (v := .slice (h2 k 2).A (h2 k 2).n (h2 k 2).c) (hSw.1.1.1.1.1.1.1.1.1.1.1.1.1.1.1.1.2) hk (by decide) (by decide) (by omega) rfl
       have c1_1 := ColB.at2 (o := k * 24 + 8 + 1) (j := 2) (i := 1) (v := .slice (h2 k 2).A (h2 k 2).n (h2 k 2).c) (hSw.1.1.1.1.1.1.1.1.1.1.1.1.1.1.1.1.2) hk (by decide) (by decide) (by omega) rfl
       have c2_0 := ColB.at2 (o := k * 24 + 10) (j := 2) (i := 2) (v := .bool (h2 k 2).t) (hSw.1.1.1.1.1.1.1.1.1.1.1.1.1.1.1.1.2) hk (by decide) (by decide) (by omega) rfl
       have c2_1 := ColB.at2 (o := k * 24 + 8 + 2) (j := 2) (i := 2) (v := .bool (h2 k 2).t) (hSw.1.1.1.1.1.1.1.1.1.1.1.1.1.1.1.1.2) hk (by decide) (by decide) (by omega) rfl
       have c3_0 := ColB.at2 (o := k * 24 + 11) (j := 2) (i := 3) (v := .slice (h2 k 2).B (h2 k 2).m (h2 k 2).d) (hSw.1.1.1.1.1.1.1.1.1.1.1.1.1.1.1.1.2) hk (by decide) (by decide) (by omega) rfl
       have c3_1 := ColB.at2 (o := k * 24 + 8 + 3) (j := 2) (i := 3) (v := .slice (h2 k 2).B (h2 k 2).m (h2 k 2).d) (hSw.1.1.1.1.1.1.1.1.1.1.1.1.1.1.1.1.2) hk (by decide) (by decide) (by omega) rfl
       clear hSw
       first | (go_simp; done) | (go_simp; with_reducible rfl)
      try simp only [PL]
      refine wpAnyH_take (i := 32) (v := ?v3_32_28) rfl (by kernel_rfl) (by kernel_rfl) (by kernel_rfl) (fun _ _ _ h => h) (Or.inl ⟨by rfl, ?hy3_32_28⟩) (by assumption) ?rest3_32_28
      case hy3_32_28 =>
       intro w hSw
       clear hSw
       first | (go_simp; done) | (go_simp; with_reducible rfl)
      try simp only [PL]
      refine wpAnyH_take (i := 33) (v := ?v3_33_29) rfl (by kernel_rfl) (by kernel_rfl) (by kernel_rfl) (fun _ _ _ h => h) (Or.inl ⟨by rfl, ?hy3_33_29⟩) (by assumption) ?rest3_33_29
      case hy3_33_29 =>
       intro w hSw
       have c0 := (hSw.1.1.1.1.1.1.1.1.1.1.1.1.2).col (o := 8) (j := 2) (i := 0) (v := .bool (h1 (fn + k) 2).s) (by decide) (by decide) rfl rfl
       have c1 := (hSw.1.1.1.1.1.1.1.1.1.1.1.1.2).col (o := 9) (j := 2) (i := 1) (v := .slice (h1 (fn + k) 2).A (h1 (fn + k) 2).n (h1 (fn + k) 2).c) (by decide) (by decide) rfl rfl
       have c2 := (hSw.1.1.1.1.1.1.1.1.1.1.1.1.2).col (o := 10) (j := 2) (i := 2) (v := .bool (h1 (fn + k) 2).t) (by decide) (by decide) rfl rfl
       have c3 := (hSw.1.1.1.1.1.1.1.1.1.1.1.1.2).col (o := 11) (j := 2) (i := 3) (v := .slice (h1 (fn + k) 2).B (h1 (fn + k) 2).m (h1 (fn + k) 2).d) (by decide) (by decide) rfl rfl
       clear hSw
       first | (go_simp; done) | (go_simp; with_reducible rfl)
      try simp only [PL]
      refine r1 31 (fun K hK => ?_)
      go_simp
      refine hE.fr (cw_product (ca := (h1 fn 0).c) (da := (h1 fn 0).d) (cb := (h2 k 2).c) (db := (h2 k 2).d) (hE.h16) (hE.h8) Hldd.out Hlm2.out (by rw [← Hse2.out]; exact Hlc2.out)) ?_
      clear hE
      intro sp2 Ap2 np2 cp2 tp2 Bp2 mp2 dp2 w20 hE
      go_wp2_with fail
      refine hK.out _ _ (hE.here.1.1.1) (fun hHeld => ?_)
      clear hK K
      try simp only [PL]
      refine r1 34 (fun K hK => ?_)
      go_simp
      refine hE.br (cw_equal (v := true) (ca := cp2) (da := dp2) (cb := (h1 (fn + k) 2).c) (db := (h1 (fn + k) 2).d) (hE.here.2) (hE.h10) (by rw [← Hse2.out]; exact Hlc2.out) Hlc2.out (decide_eq_true Hse2.out.symm)) ?_
      clear hE
      intro w21 hE
      go_wp2_with fail
      refine hK.out _ _ (hE.here.1.1.1) (fun hHeld => ?_)
      clear hK K
      try simp only [PL]
      refine wpAnyH_take (i := 35) (v := ?v3_35_30) rfl (by kernel_rfl) (by kernel_rfl) (by kernel_rfl) (fun _ _ _ h => h) (Or.inl ⟨by rfl, ?hy3_35_30⟩) (by assumption) ?rest3_35_30
      case hy3_35_30 =>
       intro w hSw
       clear hSw
       first | (go_simp; done) | (go_simp; with_reducible rfl)
      try simp only [PL]
      refine wpAnyH_take (i := 36) (v := ?v3_36_31) rfl (by kernel_rfl) (by kernel_rfl) (by kernel_rfl) (fun _ _ _ h => h) (Or.inl ⟨by rfl, ?hy3_36_31⟩) (by assumption) ?rest3_36_31
      case hy3_36_31 =>
       intro w hSw
       clear hSw
       first | (go_simp; done) | (go_simp; with_reducible rfl)
      try simp only [PL]
      refine wpAnyH_take (i := 37) (v := ?v3_37_32) rfl (by kernel_rfl) (by kernel_rfl) (by kernel_rfl) (fun _ _ _ h => h) (Or.inl ⟨by rfl, ?hy3_37_32⟩) (by assumption) ?rest3_37_32
      case hy3_37_32 =>
       intro w hSw
       clear hSw
       first | (go_simp; done) | (go_simp; with_reducible rfl)
      try simp only [PL]
      refine wpAnyH_take (i := 38) (v := ?v3_38_33) rfl (by kernel_rfl) (by kernel_rfl) (by kernel_rfl) (fun _ _ _ h => h) (Or.inl ⟨by rfl, ?hy3_38_33⟩) (by assumption) ?rest3_38_33
      case hy3_38_33 =>
       intro w hSw
       obtain ⟨c0, c1, c2, c3⟩ := (hSw.1.1.1.1.1.1.1.1.1.1.1.1.1.2).c4
       clear hSw
       first | (go_simp; done) | (go_simp; with_reducible rfl)
      try simp only [PL]
      refine wpAnyH_take (i := 39) (v := ?v3_39_34) rfl (by kernel_rfl) (by kernel_rfl) (by kernel_rfl) (fun _ _ _ h => h) (Or.inl ⟨by rfl, ?hy3_39_34⟩) (by assumption) ?rest3_39_34
      case hy3_39_34 =>
       intro w hSw
       clear hSw
       first | (go_simp; done) | (go_simp; with_reducible rfl)
      try simp only [PL]
      refine wpAnyH_take (i := 40) (v := ?v3_40_35) rfl (by kernel_rfl) (by kernel_rfl) (by kernel_rfl) (fun _ _ _ h => h) (Or.inl ⟨by rfl, ?hy3_40_35⟩) (by assumption) ?rest3_40_35
      case hy3_40_35 =>
       intro w hSw
       clear hSw
       first | (go_simp; done) | (go_simp; with_reducible rfl)
      try simp only [PL]
      refine wpAnyH_take (i := 41) (v := ?v3_41_36) rfl (by kernel_rfl) (by kernel_rfl) (by kernel_rfl) (fun _ _ _ h => h) (Or.inl ⟨by rfl, ?hy3_41_36⟩) (by assumption) ?rest3_41_36
      case hy3_41_36 =>
       intro w hSw
       clear hSw
       first | (go_simp; done) | (go_simp; with_reducible rfl)
      try simp only [PL]
      refine wpAnyH_take (i := 42) (v := ?v3_42_37) rfl (by kernel_rfl) (by kernel_rfl) (by kernel_rfl) (fun _ _ _ h => h) (Or.inl ⟨by rfl, ?hy3_42_37⟩) (by assumption) ?rest3_42_37
      case hy3_42_37 =>
       intro w hSw
       clear hSw
       first | (go_simp; done) | (go_simp; with_reducible rfl)
      try simp only [PL]
      refine wpAnyH_take (i := 43) (v := ?v3_43_38) rfl (by kernel_rfl) (by kernel_rfl) (by kernel_rfl) (fun _ _ _ h => h) (Or.inl ⟨by rfl, ?hy3_43_38⟩) (by assumption) ?rest3_43_38
      case hy3_43_38 =>
       intro w hSw
       have c0_0 := ColB.at2 (o := k * 24 + 12) (j := 3) (i := 0) (v := .bool (h2 k 3).s) (hSw.1.1.1.1.1.1.1.1.1.1.1.1.1.1.1.1.2) hk (by decide) (by decide) (by omega) rfl
       have c1_0 := ColB.at2 (o := k * 24 + 13) (j := 3) (i := 1) (v := .slice (h2 k 3).A (h2 k 3).n (h2 k 3).c) (hSw.1.1.1.1.1.1.1.1.1.1.1.1.1.1.1.1.2) hk (by decide) (by decide) (by omega) rfl
       have c1_1 := ColB.at2 (o := k * 24 + 12 + 1) (j := 3) (i := 1) (v := .slice (h2 k 3).A (h2 k 3).n (h2 k 3).c) (hSw.1.1.1.1.1.1.1.1.1.1.1.1.1.1.1.1.2) hk (by decide) (by decide) (by omega) rfl
       have c2_0 := ColB.at2 (o := k * 24 + 14) (j := 3) (i := 2) (v := .bool (h2 k 3).t) (hSw.1.1.1.1.1.1.1.1.1.1.1.1.1.1.1.1.2) hk (by decide) (by decide) (by omega) rfl
       have c2_1 := ColB.at2 (o := k * 24 + 12 + 2) (j := 3) (i := 2) (v := .bool (h2 k 3).t) (hSw.1.1.1.1.1.1.1.1.1.1.1.1.1.1.1.1.2) hk (by decide) (by decide) (by omega) rfl
       have c3_0 := ColB.at2 (o := k * 24 + 15) (j := 3) (i := 3) (v := .slice (h2 k 3).B (h2 k 3).m (h2 k 3).d) (hSw.1.1.1.1.1.1.1.1.1.1.1.1.1.1.1.1.2) hk (by decide) (by decide) (by omega) rfl
       have c3_1 := ColB.at2 (o := k * 24 + 12 + 3) (j := 3) (i := 3) (v := .slice (h2 k 3).B (h2 k 3).m (h2 k 3).d) (hSw.1.1.1.1.1.1.1.1.1.1.1.1.1.1.1.1.2) hk (by decide) (by decide) (by omega) rfl
       clear hSw
       first | (go_simp; done) | (go_simp; with_reducible rfl)
      try simp only [PL]
      refine wpAnyH_take (i := 45) (v := ?v3_45_39) rfl (by kernel_rfl) (by kernel_rfl) (by kernel_rfl) (fun _ _ _ h => h) (Or.inl ⟨by rfl, ?hy3_45_39⟩) (by assumption) ?rest3_45_39
      case hy3_45_39 =>
       intro w hSw
       clear hSw
       first | (go_simp; done) | (go_simp; with_reducible rfl)
      try simp only [PL]
      refine wpAnyH_take (i := 46) (v := ?v3_46_40) rfl (by kernel_rfl) (by kernel_rfl) (by kernel_rfl) (fun _ _ _ h => h) (Or.inl ⟨by rfl, ?hy3_46_40⟩) (by assumption) ?rest3_46_40
      case hy3_46_40 =>
       intro w hSw
       have c0 := (hSw.1.1.1.1.1.1.1.1.1.1.1.1.2).col (o := 12) (j := 3) (i := 0) (v := .bool (h1 (fn + k) 3).s) (by decide) (by decide) rfl rfl
       have c1 := (hSw.1.1.1.1.1.1.1.1.1.1.1.1.2).col (o := 13) (j := 3) (i := 1) (v := .slice (h1 (fn + k) 3).A (h1 (fn + k) 3).n (h1 (fn + k) 3).c) (by decide) (by decide) rfl rfl
       have c2 := (hSw.1.1.1.1.1.1.1.1.1.1.1.1.2).col (o := 14) (j := 3) (i := 2) (v := .bool (h1 (fn + k) 3).t) (by decide) (by decide) rfl rfl
       have c3 := (hSw.1.1.1.1.1.1.1.1.1.1.1.1.2).col (o := 15) (j := 3) (i := 3) (v := .slice (h1 (fn + k) 3).B (h1 (fn + k) 3).m (h1 (fn + k) 3).d) (by decide) (by decide) rfl rfl
       clear hSw
       first | (go_simp; done) | (go_simp; with_reducible rfl)
      try simp only [PL]
      refine r1 44 (fun K hK => ?_)
      go_simp
      refine hE.fr (cw_product (ca := (h1 fn 0).c) (da := (h1 fn 0).d) (cb := (h2 k 3).c) (db := (h2 k 3).d) (hE.h17) (hE.h7) Hldd.out Hlm3.out (by rw [← Hse3.out]; exact Hlc3.out)) ?_
      clear hE
      intro sp3 Ap3 np3 cp3 tp3 Bp3 mp3 dp3 w22 hE
      go_wp2_with fail
      refine hK.out _ _ (hE.here.1.1.1.1) (fun hHeld => ?_)
      clear hK K
      try simp only [PL]
      refine r1 47 (fun K hK => ?_)
      go_simp
      refine hE.br (cw_equal (v := true) (ca := cp3) (da := dp3) (cb := (h1 (fn + k) 3).c) (db := (h1 (fn + k) 3).d) (hE.here.2) (hE.h9) (by rw [← Hse3.out]; exact Hlc3.out) Hlc3.out (decide_eq_true Hse3.out.symm)) ?_
      clear hE
      intro w23 hE
      go_wp2_with fail
      refine hK.out _ _ (hE.here.1.1.1.1) (fun hHeld => ?_)
      clear hK K
      try simp only [PL]
      refine wpAnyH_take (i := 48) (v := ?v3_48_41) rfl (by kernel_rfl) (by kernel_rfl) (by kernel_rfl) (fun _ _ _ h => h) (Or.inl ⟨by rfl, ?hy3_48_41⟩) (by assumption) ?rest3_48_41
      case hy3_48_41 =>
       intro w hSw
       clear hSw
       first | (go_simp; done) | (go_simp; with_reducible rfl)
      try simp only [PL]
      refine wpAnyH_take (i := 49) (v := ?v3_49_42) rfl (by kernel_rfl) (by kernel_rfl) (by kernel_rfl) (fun _ _ _ h => h) (Or.inl ⟨by rfl, ?hy3_49_42⟩) (by assumption) ?rest3_49_42
      case hy3_49_42 =>
       intro w hSw
       clear hSw
       first | (go_simp; done) | (go_simp; with_reducible rfl)
      try simp only [PL]
      refine wpAnyH_take (i := 50) (v := ?v3_50_43) rfl (by kernel_rfl) (by kernel_rfl) (by kernel_rfl) (fun _ _ _ h => h) (Or.inl ⟨by rfl, ?hy3_50_43⟩) (by assumption) ?rest3_50_43
      case hy3_50_43 =>
       intro w hSw
       clear hSw
       first | (go_simp; done) | (go_simp; with_reducible rfl)
      try simp only [PL]
      refine wpAnyH_take (i := 51) (v := ?v3_51_44) rfl (by kernel_rfl) (by kernel_rfl) (by kernel_rfl) (fun _ _ _ h => h) (Or.inl ⟨by rfl, ?hy3_51_44⟩) (by assumption) ?rest3_51_44
      case hy3_51_44 =>
       intro w hSw
       obtain ⟨c0, c1, c2, c3⟩ := (hSw.1.1.1.1.1.1.1.1.1.1.1.1.1.2).c4
       clear hSw
       first | (go_simp; done) | (go_simp; with_reducible rfl)
      try simp only [PL]
      refine wpAnyH_take (i := 52) (v := ?v3_52_45) rfl (by kernel_rfl) (by kernel_rfl) (by kernel_rfl) (fun _ _ _ h => h) (Or.inl ⟨by rfl, ?hy3_52_45⟩) (by assumption) ?rest3_52_45
      case hy3_52_45 =>
       intro w hSw
       clear hSw
       first | (go_simp; done) | (go_simp; with_reducible rfl)
      try simp only [PL]
      refine wpAnyH_take (i := 53) (v := ?v3_53_46) rfl (by kernel_rfl) (by kernel_rfl) (by kernel_rfl) (fun _ _ _ h => h) (Or.inl ⟨by rfl, ?hy3_53_46⟩) (by assumption) ?rest3_53_46
      case hy3_53_46 =>
       intro w hSw
       clear hSw
       first | (go_simp; done) | (go_simp; with_reducible rfl)
      try simp only [PL]
      refine wpAnyH_take (i := 54) (v := ?v3_54_47) rfl (by kernel_rfl) (by kernel_rfl) (by kernel_rfl) (fun _ _ _ h => h) (Or.inl ⟨by rfl, ?hy3_54_47⟩) (by assumption) ?rest3_54_47
      case hy3_54_47 =>
       intro w hSw
       clear hSw
       first | (go_simp; done) | (go_simp; with_reducible rfl)
      try simp only [PL]
      refine wpAnyH_take (i := 55) (v := ?v3_55_48) rfl (by kernel_rfl) (by kernel_rfl) (by kernel_rfl) (fun _ _ _ h => h) (Or.inl ⟨by rfl, ?hy3_55_48⟩) (by assumption) ?rest3_55_48
      case hy3_55_48 =>
       intro w hSw
       clear hSw
       first | (go_simp; done) | (go_simp; with_reducible rfl)
      try simp only [PL]
      refine wpAnyH_take (i := 56) (v := ?v3_56_49) rfl (by kernel_rfl) (by kernel_rfl) (by kernel_rfl) (fun _ _ _ h => h) (Or.inl ⟨by rfl, ?hy3_56_49⟩) (by assumption) ?rest3_56_49
      case hy3_56_49 =>
       intro w hSw
       have c0_0 := ColB.at2 (o := k * 24 + 16) (j := 4) (i := 0) (v := .bool (h2 k 4).s) (hSw.1.1.1.1.1.1.1.1.1.1.1.1.1.1.1.1.2) hk (by decide) (by decide) (by omega) rfl
       have c1_0 := ColB.at2 (o := k * 24 + 17) (j := 4) (i := 1) (v := .slice (h2 k 4).A (h2 k 4).n (h2 k 4).c) (hSw.1.1.1.1.1.1.1.1.1.1.1.1.1.1.1.1.2) hk (by decide) (by decide) (by omega) rfl
       have c1_1 := ColB.at2 (o := k * 24 + 16 + 1) (j := 4) (i := 1) (v := .slice (h2 k 4).A (h2 k 4).n (h2 k 4).c) (hSw.1.1.1.1.1.1.1.1.1.1.1.1.1.1.1.1.2) hk (by decide) (by decide) (by omega) rfl
       have c2_0 := ColB.at2 (o := k * 24 + 18) (j := 4) (i := 2) (v := .bool (h2 k 4).t) (hSw.1.1.1.1.1.1.1.1.1.1.1.1.1.1.1.1.2) hk (by decide) (by decide) (by omega) rfl
       have c2_1 := ColB.at2 (o := k * 24 + 16 + 2) (j := 4) (i := 2) (v := .bool (h2 k 4).t) (hSw.1.1.1.1.1.1.1.1.1.1.1.1.1.1.1.1.2) hk (by decide) (by decide) (by omega) rfl
       have c3_0 := ColB.at2 (o := k * 24 + 19) (j := 4) (i := 3) (v := .slice (h2 k 4).B (h2 k 4).m (h2 k 4).d) (hSw.1.1.1.1.1.1.1.1.1.1.1.1.1.1.1.1.2) hk (by decide) (by decide) (by omega) rfl
       have c3_1 := ColB.at2 (o := k * 24 + 16 + 3) (j := 4) (i := 3) (v := .slice (h2 k 4).B (h2 k 4).m (h2 k 4).d) (hSw.1.1.1.1.1.1.1.1.1.1.1.1.1.1.1.1.2) hk (by decide) (by decide) (by omega) rfl
       clear hSw
       first | (go_simp; done) | (go_simp; with_reducible rfl)
      try simp only [PL]
      refine wpAnyH_take (i := 58) (v := ?v3_58_50) rfl (by kernel_rfl) (by kernel_rfl) (by kernel_rfl) (fun _ _ _ h => h) (Or.inl ⟨by rfl, ?hy3_58_50⟩) (by assumption) ?rest3_58_50
      case hy3_58_50 =>
       intro w hSw
       clear hSw
       first | (go_simp; done) | (go_simp; with_reducible rfl)
      try simp only [PL]
      refine wpAnyH_take (i := 59) (v := ?v3_59_51) rfl (by kernel_rfl) (by kernel_rfl) (by kernel_rfl) (fun _ _ _ h => h) (Or.inl ⟨by rfl, ?hy3_59_51⟩) (by assumption) ?rest3_59_51
      case hy3_59_51 =>
       intro w hSw
       have c0 := (hSw.1.1.1.1.1.1.1.1.1.1.1.1.2).col (o := 16) (j := 4) (i := 0) (v := .bool (h1 (fn + k) 4).s) (by decide) (by decide) rfl rfl
       have c1 := (hSw.1.1.1.1.1.1.1.1.1.1.1.1.2).col (o := 17) (j := 4) (i := 1) (v := .slice (h1 (fn + k) 4).A (h1 (fn + k) 4).n (h1 (fn + k) 4).c) (by decide) (by decide) rfl rfl
       have c2 := (hSw.1.1.1.1.1.1.1.1.1.1.1.1.2).col (o := 18) (j := 4) (i := 2) (v := .bool (h1 (fn + k) 4).t) (by decide) (by decide) rfl rfl
       have c3 := (hSw.1.1.1.1.1.1.1.1.1.1.1.1.2).col (o := 19) (j := 4) (i := 3) (v := .slice (h1 (fn + k) 4).B (h1 (fn + k) 4).m (h1 (fn + k) 4).d) (by decide) (by decide) rfl rfl
       clear hSw
       first | (go_simp; done) | (go_simp; with_reducible rfl)
      try simp only [PL]
      refine r1 57 (fun K hK => ?_)
      go_simp
      refine hE.fr (cw_product (ca := (h1 fn 0).c) (da := (h1 fn 0).d) (cb := (h2 k 4).c) (db := (h2 k 4).d) (hE.h18) (hE.h6) Hldd.out Hlm4.out (by rw [← Hse4.out]; exact Hlc4.out)) ?_
      clear hE
      intro sp4 Ap4 np4 cp4 tp4 Bp4 mp4 dp4 w24 hE
      go_wp2_with fail
      refine hK.out _ _ (hE.here.1.1.1.1.1) (fun hHeld => ?_)
      clear hK K
      try simp only [PL]
      refine r1 60 (fun K hK => ?_)
      go_simp
      refine hE.br (cw_equal (v := true) (ca := cp4) (da := dp4) (cb := (h1 (fn + k) 4).c) (db := (h1 (fn + k) 4).d) (hE.here.2) (hE.h8) (by rw [← Hse4.out]; exact Hlc4.out) Hlc4.out (decide_eq_true Hse4.out.symm)) ?_
      clear hE
      intro w25 hE
      go_wp2_with fail
      refine hK.out _ _ (hE.here.1.1.1.1.1) (fun hHeld => ?_)
      clear hK K
      try simp only [PL]
      refine wpAnyH_take (i := 61) (v := ?v3_61_52) rfl (by kernel_rfl) (by kernel_rfl) (by kernel_rfl) (fun _ _ _ h => h) (Or.inl ⟨by rfl, ?hy3_61_52⟩) (by assumption) ?rest3_61_52
      case hy3_61_52 =>
       intro w hSw
       clear hSw
       first | (go_simp; done) | (go_simp; with_reducible rfl)
      try simp only [PL]
      refine wpAnyH_take (i := 62) (v := ?v3_62_53) rfl (by kernel_rfl) (by kernel_rfl) (by kernel_rfl) (fun _ _ _ h => h) (Or.inl ⟨by rfl, ?hy3_62_53⟩) (by assumption) ?rest3_62_53
      case hy3_62_53 =>
       intro w hSw
       clear hSw
       first | (go_simp; done) | (go_simp; with_reducible rfl)
      try simp only [PL]
      refine wpAnyH_take (i := 63) (v := ?v3_63_54) rfl (by kernel_rfl) (by kernel_rfl) (by kernel_rfl) (fun _ _ _ h => h) (Or.inl ⟨by rfl, ?hy3_63_54⟩) (by assumption) ?rest3_63_54
      case hy3_63_54 =>
       intro w hSw
       clear hSw
       first | (go_simp; done) | (go_simp; with_reducible rfl)
      try simp only [PL]
      refine wpAnyH_take (i := 64) (v := ?v3_64_55) rfl (by kernel_rfl) (by kernel_rfl) (by kernel_rfl) (fun _ _ _ h => h) (Or.inl ⟨by rfl, ?hy3_64_55⟩) (by assumption) ?rest3_64_55
      case hy3_64_55 =>
       intro w hSw
       obtain ⟨c0, c1, c2, c3⟩ := (hSw.1.1.1.1.1.1.1.1.1.1.1.1.1.2).c4
       clear hSw
       first | (go_simp; done) | (go_simp; with_reducible rfl)
      try simp only [PL]
      refine wpAnyH_take (i := 65) (v := ?v3_65_56) rfl (by kernel_rfl) (by kernel_rfl) (by kernel_rfl) (fun _ _ _ h => h) (Or.inl ⟨by rfl, ?hy3_65_56⟩) (by assumption) ?rest3_65_56
      case hy3_65_56 =>
       intro w hSw
       clear hSw
       first | (go_simp; done) | (go_simp; with_reducible rfl)
      try simp only [PL]
      refine wpAnyH_take (i := 66) (v := ?v3_66_57) rfl (by kernel_rfl) (by kernel_rfl) (by kernel_rfl) (fun _ _ _ h => h) (Or.inl ⟨by rfl, ?hy3_66_57⟩) (by assumption) ?rest3_66_57
      case hy3_66_57 =>
       intro w hSw
       clear hSw
       first | (go_simp; done) | (go_simp; with_reducible rfl)
      try simp only [PL]
      refine wpAnyH_take (i := 67) (v := ?v3_67_58) rfl (by kernel_rfl) (by kernel_rfl) (by kernel_rfl) (fun _ _ _ h => h) (Or.inl ⟨by rfl, ?hy3_67_58⟩) (by assumption) ?rest3_67_58
      case hy3_67_58 =>
       intro w hSw
       clear hSw
       first | (go_simp; done) | (go_simp; with_reducible rfl)
      try simp only [PL]
      refine wpAnyH_take (i := 68) (v := ?v3_68_59) rfl (by kernel_rfl) (by kernel_rfl) (by kernel_rfl) (fun _ _ _ h => h) (Or.inl ⟨by rfl, ?hy3_68_59⟩) (by assumption) ?rest3_68_59
      case hy3_68_59 =>
       intro w hSw
       clear hSw
       first | (go_simp; done) | (go_simp; with_reducible rfl)
      try simp only [PL]
      refine wpAnyH_take (i := 69) (v := ?v3_69_60) rfl (by kernel_rfl) (by kernel_rfl) (by kernel_rfl) (fun _ _ _ h => h) (Or.inl ⟨by rfl, ?hy3_69_60⟩) (by assumption) ?rest3_69_60
      case hy3_69_60 =>
       intro w hSw
       have c0_0 := ColB.at2 (o := k * 24 + 20) (j := 5) (i := 0) (v := .bool (h2 k 5).s) (hSw.1.1.1.1.1.1.1.1.1.1.1.1.1.1.1.1.2) hk (by decide) (by decide) (by omega) rfl
       have c1_0 := ColB.at2 (o := k * 24 + 21) (j := 5) (i := 1) (v := .slice (h2 k 5).A (h2 k 5).n (h2 k 5).c) (hSw.1.1.1.1.1.1.1.1.1.1.1.1.1.1.1.1.2) hk (by decide) (by decide) (by omega) rfl
       have c1_1 := ColB.at2 (o := k * 24 + 20 + 1) (j := 5) (i := 1) (v := .slice (h2 k 5).A (h2 k 5).n (h2 k 5).c) (hSw.1.1.1.1.1.1.1.1.1.1.1.1.1.1.1.1.2) hk (by decide) (by decide) (by omega) rfl
       have c2_0 := ColB.at2 (o := k * 24 + 22) (j := 5) (i := 2) (v := .bool (h2 k 5).t) (hSw.1.1.1.1.1.1.1.1.1.1.1.1.1.1.1.1.2) hk (by decide) (by decide) (by omega) rfl
       have c2_1 := ColB.at2 (o := k * 24 + 20 + 2) (j := 5) (i := 2) (v := .bool (h2 k 5).t) (hSw.1.1.1.1.1.1.1.1.1.1.1.1.1.1.1.1.2) hk (by decide) (by decide) (by omega) rfl
       have c3_0 := ColB.at2 (o := k * 24 + 23) (j := 5) (i := 3) (v := .slice (h2 k 5).B (h2 k 5).m (h2 k 5).d) (hSw.1.1.1.1.1.1.1.1.1.1.1.1.1.1.1.1.2) hk (by decide) (by decide) (by omega) rfl
       have c3_1 := ColB.at2 (o := k * 24 + 20 + 3) (j := 5) (i := 3) (v := .slice (h2 k 5).B (h2 k 5).m (h2 k 5).d) (hSw.1.1.1.1.1.1.1.1.1.1.1.1.1.1.1.1.2) hk (by decide) (by decide) (by omega) rfl
       clear hSw
       first | (go_simp; done) | (go_simp; with_reducible rfl)
      try simp only [PL]
      refine wpAnyH_take (i := 71) (v := ?v3_71_61) rfl (by kernel_rfl) (by kernel_rfl) (by kernel_rfl) (fun _ _ _ h => h) (Or.inl ⟨by rfl, ?hy3_71_61⟩) (by assumption) ?rest3_71_61
      case hy3_71_61 =>
       intro w hSw
       clear hSw
       first | (go_simp; done) | (go_simp; with_reducible rfl)
      try simp only [PL]
      refine wpAnyH_take (i := 72) (v := ?v3_72_62) rfl (by kernel_rfl) (by kernel_rfl) (by kernel_rfl) (fun _ _ _ h => h) (Or.inl ⟨by rfl, ?hy3_72_62⟩) (by assumption) ?rest3_72_62
      case hy3_72_62 =>
       intro w hSw
       have c0 := (hSw.1.1.1.1.1.1.1.1.1.1.1.1.2).col (o := 20) (j := 5) (i := 0) (v := .bool (h1 (fn + k) 5).s) (by decide) (by decide) rfl rfl
       have c1 := (hSw.1.1.1.1.1.1.1.1.1.1.1.1.2).col (o := 21) (j := 5) (i := 1) (v := .slice (h1 (fn + k) 5).A (h1 (fn + k) 5).n (h1 (fn + k) 5).c) (by decide) (by decide) rfl rfl
       have c2 := (hSw.1.1.1.1.1.1.1.1.1.1.1.1.2).col (o := 22) (j := 5) (i := 2) (v := .bool (h1 (fn + k) 5).t) (by decide) (by decide) rfl rfl
       have c3 := (hSw.1.1.1.1.1.1.1.1.1.1.1.1.2).col (o := 23) (j := 5) (i := 3) (v := .slice (h1 (fn + k) 5).B (h1 (fn + k) 5).m (h1 (fn + k) 5).d) (by decide) (by decide) rfl rfl
       clear hSw
       first | (go_simp; done) | (go_simp; with_reducible rfl)
      try simp only [PL]
      refine r1 70 (fun K hK => ?_)
      go_simp
      refine hE.fr (cw_product (ca := (h1 fn 0).c) (da := (h1 fn 0).d) (cb := (h2 k 5).c) (db := (h2 k 5).d) (hE.h19) (hE.h5) Hldd.out Hlm5.out (by rw [← Hse5.out]; exact Hlc5.out)) ?_
      clear hE
      intro sp5 Ap5 np5 cp5 tp5 Bp5 mp5 dp5 w26 hE
      go_wp2_with fail
      refine hK.out _ _ (hE.here.1.1.1.1.1.1) (fun hHeld => ?_)
      clear hK K
      try simp only [PL]
      refine r1 73 (fun K hK => ?_)
      go_simp
      refine hE.br (cw_equal (v := true) (ca := cp5) (da := dp5) (cb := (h1 (fn + k) 5).c) (db := (h1 (fn + k) 5).d) (hE.here.2) (hE.h7) (by rw [← Hse5.out]; exact Hlc5.out) Hlc5.out (decide_eq_true Hse5.out.symm)) ?_
      clear hE
      intro w27 hE
      go_wp2_with fail
      refine hK.out _ _ (hE.here.1.1.1.1.1.1) (fun hHeld => ?_)
      clear hK K
      try simp only [PL]
      refine wpAnyH_take (i := 74) (v := ?v3_74_63) rfl (by kernel_rfl) (by kernel_rfl) (by kernel_rfl) (fun _ _ _ h => h) (Or.inl ⟨by rfl, ?hy3_74_63⟩) (by assumption) ?rest3_74_63
      case hy3_74_63 =>
       intro w hSw
       clear hSw
       first | (go_simp; done) | (go_simp; with_reducible rfl)
      try simp only [PL]
      refine wpAnyH_take (i := 75) (v := ?v3_75_64) rfl (by kernel_rfl) (by kernel_rfl) (by kernel_rfl) (fun _ _ _ h => h) (Or.inl ⟨by rfl, ?hy3_75_64⟩) (by assumption) ?rest3_75_64
      case hy3_75_64 =>
       intro w hSw
       clear hSw
       first | (go_simp; done) | (go_simp; with_reducible rfl)
      try simp only [PL]
      refine wpAnyH_done (by kernel_rfl) ?_ _
      have o3 : IntKind.i64.wrap ((k : Int) + 1) = (k : Int) + 1 := by rw [IntKind.wrap_i64]; omega
      go_wp2_with fail
      go_roundw
      case rel => exact ⟨k + 1, by simp, by omega, (((((((Env.again hE.bel).colp (hE.h24)).colq (hE.h23)).colp (hE.h22)).colq (hE.h21)).fv (hE.h20)).blkI (hE.h19))⟩
      case measure => simp [intOf]; omega
     ·
      have t5 : decide ((k : Int) < (K : Int)) = false := decide_eq_false (by omega)
      have t6 : ¬ (k : Int) < (K : Int) := by omega
      go_wp2_with fail
      go_ret
      exact ⟨rfl, hE.bel⟩
  ·
   have ofn : IntKind.i64.wrap (fn : Int) = (fn : Int) := by rw [IntKind.wrap_i64]; omega
   have hB := (hU.get 1).1
   have hY := hU.2.2.2.2.2
   have HhR2 := Lib.hid hR2
   clear hR2
   have HhB := Lib.hid hB
   clear hB
   have HhT := Lib.hid hT
   clear hT
   have Hhr := Lib.hid hr
   clear hr
   have HhU := Lib.hid hU
   clear hU
   have hE := ((Env.start w).blk 31 #[.int .i64 F, .int .i64 S, .slice A n c, .bool si, .slice Ai ni ci, .bool ti, .slice Bi mi di] (g := w.heap.size) rfl).blk 33 #[.int .i64 E, .int .i64 Y] (g := w.heap.size + 1) (by simp)
   obtain ⟨W0, hW0⟩ : ∃ W0, W0 = ((w.alloc (.cells #[.int .i64 F, .int .i64 S, .slice A n c, .bool si, .slice Ai ni ci, .bool ti, .slice Bi mi di] 31)).alloc (.cells #[.int .i64 E, .int .i64 Y] 33)) := ⟨_, rfl⟩
   rw [← hW0] at hE
   have HW0 := Lib.hid hW0
   clear hW0
   go_enter Tryz.func6, Tryz.ntmps6
   go_upto_region 1 with (fail)
   rw [← HW0.out]
   go_wp2_with fail
   refine hE.br (awakeB_t _) ?_
   clear hE
   intro w1 hE
   go_upto_region 3 with (fail)
   replace hE := hE.drew
   refine wp_region_held_drew (S := fun w' => w'.cell? ⟨w.heap.size, 0, none⟩ = some (.int .i64 F) ∧ w'.cell? ⟨w.heap.size, 1, none⟩ = some (.int .i64 S) ∧ w'.cell? ⟨w.heap.size, 2, none⟩ = some (.slice A n c) ∧ w'.cell? ⟨w.heap.size, 3, none⟩ = some (.bool si) ∧ w'.cell? ⟨w.heap.size, 4, none⟩ = some (.slice Ai ni ci) ∧ w'.cell? ⟨w.heap.size, 5, none⟩ = some (.bool ti) ∧ w'.cell? ⟨w.heap.size, 6, none⟩ = some (.slice Bi mi di) ∧ w'.cell? ⟨w.heap.size + 1, 0, none⟩ = some (.int .i64 E) ∧ w'.cell? ⟨w.heap.size + 1, 1, none⟩ = some (.int .i64 Y)) (by kernel_rfl) (⟨(hE.here.1.2).c7.1, (hE.here.1.2).c7.2.1, (hE.here.1.2).c7.2.2.1, (hE.here.1.2).c7.2.2.2.1, (hE.here.1.2).c7.2.2.2.2.1, (hE.here.1.2).c7.2.2.2.2.2.1, (hE.here.1.2).c7.2.2.2.2.2.2, (hE.here.2).c2.1, (hE.here.2).c2.2⟩) (fun hHeld => ?_)
   refine tk 0 ?_
   try simp only [PL]
   refine tk 1 ?_
   try simp only [PL]
   refine r1 2 (fun K hK => ?_)
   go_simp
   refine hE.br (usableB_t (HhT.out.below hE.bel) (Hhr.out.below hE.bel) HhU.out) ?_
   clear hE
   intro w2 hE
   go_wp2_with fail
   refine hK.out _ _ (⟨(hE.here.1.2).c7.1, (hE.here.1.2).c7.2.1, (hE.here.1.2).c7.2.2.1, (hE.here.1.2).c7.2.2.2.1, (hE.here.1.2).c7.2.2.2.2.1, (hE.here.1.2).c7.2.2.2.2.2.1, (hE.here.1.2).c7.2.2.2.2.2.2, (hE.here.2).c2.1, (hE.here.2).c2.2⟩) (fun hHeld => ?_)
   clear hK K
   try simp only [PL]
   refine tk 3 ?_
   try simp only [PL]
   refine tk 4 ?_
   try simp only [PL]
   refine tk 5 ?_
   try simp only [PL]
   refine tk 6 ?_
   try simp only [PL]
   refine tk 7 ?_
   try simp only [PL]
   refine tk 8 ?_
   try simp only [PL]
   refine tk 9 ?_
   try simp only [PL]
   refine r1 10 (fun K hK => ?_)
   go_simp
   refine hE.br (laterB_v E Y (fn : Int) _ hY.1 (by omega) (by omega) (by omega)) ?_
   clear hE
   intro w3 hE
   go_wp2_with fail
   refine hK.out _ _ (⟨(hE.here.1.2).c7.1, (hE.here.1.2).c7.2.1, (hE.here.1.2).c7.2.2.1, (hE.here.1.2).c7.2.2.2.1, (hE.here.1.2).c7.2.2.2.2.1, (hE.here.1.2).c7.2.2.2.2.2.1, (hE.here.1.2).c7.2.2.2.2.2.2, (hE.here.2).c2.1, (hE.here.2).c2.2⟩) (fun hHeld => ?_)
   clear hK K
   try simp only [PL]
   refine r1 11 (fun K hK => ?_)
   go_simp
   refine hE.br (lright_f (c := c) (HhT.out.below hE.bel) HhB.out HhR2.out) ?_
   clear hE
   intro w4 hE
   go_wp2_with fail
   refine hK.out _ _ (⟨(hE.here.1.2).c7.1, (hE.here.1.2).c7.2.1, (hE.here.1.2).c7.2.2.1, (hE.here.1.2).c7.2.2.2.1, (hE.here.1.2).c7.2.2.2.2.1, (hE.here.1.2).c7.2.2.2.2.2.1, (hE.here.1.2).c7.2.2.2.2.2.2, (hE.here.2).c2.1, (hE.here.2).c2.2⟩) (fun hHeld => ?_)
   clear hK K
   try simp only [PL]
   refine tk 12 ?_
   try simp only [PL]
   refine tk 13 ?_
   try simp only [PL]
   refine wpAnyH_done (by kernel_rfl) ?_ _
   go_wp2_with fail
   go_ret
   exact ⟨rfl, hE.bel⟩
 ·
  have ofn : IntKind.i64.wrap (fn : Int) = (fn : Int) := by rw [IntKind.wrap_i64]; omega
  have HhT := Lib.hid hT
  clear hT
  have Hhr := Lib.hid hr
  clear hr
  have HhU := Lib.hid hU
  clear hU
  have hE := ((Env.start w).blk 31 #[.int .i64 F, .int .i64 S, .slice A n c, .bool si, .slice Ai ni ci, .bool ti, .slice Bi mi di] (g := w.heap.size) rfl).blk 33 #[.int .i64 E, .int .i64 Y] (g := w.heap.size + 1) (by simp)
  obtain ⟨W0, hW0⟩ : ∃ W0, W0 = ((w.alloc (.cells #[.int .i64 F, .int .i64 S, .slice A n c, .bool si, .slice Ai ni ci, .bool ti, .slice Bi mi di] 31)).alloc (.cells #[.int .i64 E, .int .i64 Y] 33)) := ⟨_, rfl⟩
  rw [← hW0] at hE
  have HW0 := Lib.hid hW0
  clear hW0
  go_enter Tryz.func6, Tryz.ntmps6
  go_upto_region 1 with (fail)
  rw [← HW0.out]
  go_wp2_with fail
  refine hE.br (awakeB_t _) ?_
  clear hE
  intro w1 hE
  go_upto_region 3 with (fail)
  replace hE := hE.drew
  refine wp_region_held_drew (S := fun w' => w'.cell? ⟨w.heap.size, 0, none⟩ = some (.int .i64 F) ∧ w'.cell? ⟨w.heap.size, 1, none⟩ = some (.int .i64 S) ∧ w'.cell? ⟨w.heap.size, 2, none⟩ = some (.slice A n c) ∧ w'.cell? ⟨w.heap.size, 3, none⟩ = some (.bool si) ∧ w'.cell? ⟨w.heap.size, 4, none⟩ = some (.slice Ai ni ci) ∧ w'.cell? ⟨w.heap.size, 5, none⟩ = some (.bool ti) ∧ w'.cell? ⟨w.heap.size, 6, none⟩ = some (.slice Bi mi di) ∧ w'.cell? ⟨w.heap.size + 1, 0, none⟩ = some (.int .i64 E) ∧ w'.cell? ⟨w.heap.size + 1, 1, none⟩ = some (.int .i64 Y)) (by kernel_rfl) (⟨(hE.here.1.2).c7.1, (hE.here.1.2).c7.2.1, (hE.here.1.2).c7.2.2.1, (hE.here.1.2).c7.2.2.2.1, (hE.here.1.2).c7.2.2.2.2.1, (hE.here.1.2).c7.2.2.2.2.2.1, (hE.here.1.2).c7.2.2.2.2.2.2, (hE.here.2).c2.1, (hE.here.2).c2.2⟩) (fun hHeld => ?_)
  refine tk 0 ?_
  try simp only [PL]
  refine tk 1 ?_
  try simp only [PL]
  refine r1 2 (fun K hK => ?_)
  go_simp
  refine hE.br (usableB_f (HhT.out.below hE.bel) (Hhr.out.below hE.bel) HhU.out) ?_
  clear hE
  intro w2 hE
  go_wp2_with fail
  refine hK.out _ _ (⟨(hE.here.1.2).c7.1, (hE.here.1.2).c7.2.1, (hE.here.1.2).c7.2.2.1, (hE.here.1.2).c7.2.2.2.1, (hE.here.1.2).c7.2.2.2.2.1, (hE.here.1.2).c7.2.2.2.2.2.1, (hE.here.1.2).c7.2.2.2.2.2.2, (hE.here.2).c2.1, (hE.here.2).c2.2⟩) (fun hHeld => ?_)
  clear hK K
  try simp only [PL]
  refine tk 3 ?_
  try simp only [PL]
  refine tk 4 ?_
  try simp only [PL]
  refine tu 5 ?_
  try simp only [PL]
  refine tu 6 ?_
  try simp only [PL]
  refine tu 7 ?_
  try simp only [PL]
  refine tu 8 ?_
  try simp only [PL]
  refine tu 9 ?_
  try simp only [PL]
  refine tu 10 ?_
  try simp only [PL]
  refine tu 11 ?_
  try simp only [PL]
  refine tu 12 ?_
  try simp only [PL]
  refine tk 13 ?_
  try simp only [PL]
  refine wpAnyH_done (by kernel_rfl) ?_ _
  go_wp2_with fail
  go_ret
  exact ⟨rfl, hE.bel⟩
end Go.Proofs.YtmjlankpihnicaaGreat
