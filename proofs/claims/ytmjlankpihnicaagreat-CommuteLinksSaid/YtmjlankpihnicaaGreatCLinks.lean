/-
  The walk of CommuteLinks.
-/
import Derived.Test.YtmjlankpihnicaaGreatK1
import Derived.Test.YtmjlankpihnicaaGreatHk
import Derived.Test.YtmjlankpihnicaaGreatC11
namespace Go.Proofs.YtmjlankpihnicaaGreat
open Go.RowKit

theorem wpList_ldL {P : Program} {w : World} {ops : Array Oper} {rest : List Oper} {o : Oper} {a : Act} {Q : Exit → Act → World → Prop} {ty : TypeId} {x : Operand} {p v : Value} (hr : (Instr.loadAt ty p).run P w = .ok v w) (hg : o.guard = none) (ho : o.op = .load ty x) (hx : a.eval x = p)
  (h : wpList P ops Q rest (a.put o.dst v) w) : wpList P ops Q (o :: rest) a w :=
 wpList_plain hg fun _ hK => by
  unfold Oper.wp execOp
  simp only [ho, hx, Sem.run_bind, Sem.run_pure, Result.andThen_ok, hr]
  exact hK _ _ h
theorem wpList_stL {P : Program} {w w' : World} {ops : Array Oper} {rest : List Oper} {o : Oper} {a : Act} {Q : Exit → Act → World → Prop} {ty : TypeId} {x y : Operand} {p v : Value} (hr : (Instr.storeAt ty p v).run P w = .ok () w') (hg : o.guard = none) (ho : o.op = .store ty x y) (hx : a.eval x = p) (hy : a.eval y = v)
  (h : wpList P ops Q rest (a.put o.dst undef) w') : wpList P ops Q (o :: rest) a w :=
 wpList_plain hg fun _ hK => by
  unfold Oper.wp execOp
  simp only [ho, hx, hy, Sem.run_bind, Sem.run_pure, Result.andThen_ok, hr]
  exact hK _ _ h
theorem sets_keep {T : TypeId} {R : Nat} {P : World → Prop} (hP : ∀ U cs, P U → Blk T R cs U → cs.toList.all noLimb = true → ∀ i a, P (U.setCell ⟨R, i, none⟩ a)) : ∀ (vs : List Value), vs.all noLimb = true → ∀ (o : Nat) (U : World) (cs : Array Value), Blk T R cs U → cs.toList.all noLimb = true → P U → P (U.setCells R o vs)
 | [], _, _, _, _, _, _, h => h
 | v :: vs, hv, o, U, cs, hB, hn, h => by
  rw [List.all_cons, Bool.and_eq_true] at hv
  refine sets_keep hP vs hv.2 (o + 1) (U.setCell ⟨R, o, none⟩ v) _ (hB.set_ o v) ?_ (hP U cs h hB hn o v)
  rw [List.all_eq_true] at hn ⊢
  intro x hx
  rw [Array.toList_setIfInBounds] at hx
  rcases List.mem_or_eq_of_mem_set hx with g | rfl
  · exact hn x g
  · exact hv.1
theorem sets_blk {T : TypeId} {R : Nat} {l m : List Value} {W : World} (hlm : l.length = m.length) (hl : l.all noLimb = true) (hm : m.all noLimb = true) (hB : Blk T R m.toArray W) : W.there R 0 l.toArray.size ∧ Blk T R l.toArray (W.setCells R 0 l) ∧
  ∀ P : World → Prop, (∀ U cs, P U → Blk T R cs U → cs.toList.all noLimb = true → ∀ i a, P (U.setCell ⟨R, i, none⟩ a)) → P W → P (W.setCells R 0 l) := by
 have ht : W.there R 0 l.toArray.size := fun j hj => by
  rw [List.size_toArray] at hj
  rw [Nat.zero_add]
  refine ⟨?_, hB.frozen j⟩
  rw [hB.cell, List.getElem?_toArray, List.getElem?_eq_getElem (by omega)]
  rfl
 have hk := fun (P : World → Prop) hP h => sets_keep (R := R) (P := P) hP l hl 0 W _ hB (by simpa using hm) h
 obtain ⟨cs, k2, k3⟩ := hk (fun V => ∃ cs, Blk T R cs V ∧ cs.size = m.length) (fun U cs' ⟨cs, h3, h4⟩ _ _ i a => ⟨_, h3.set_ i a, by rw [Array.size_setIfInBounds, h4]⟩) ⟨_, hB, by rw [List.size_toArray]⟩
 have hr := World.rangeAt_setCells_same W R 0 l (by rw [List.size_toArray] at ht; exact ht)
 have hcs : cs = l.toArray := by
  apply Array.ext_getElem?
  intro i
  have h7 := k2.cell i
  rcases Nat.lt_or_ge i l.length with hi | hi
  ·
   have h8 := hr i _ (List.getElem?_eq_getElem hi)
   rw [Nat.zero_add] at h8
   rw [← h7, h8, List.getElem?_toArray, List.getElem?_eq_getElem hi]
  · rw [Array.getElem?_eq_none (by omega), Array.getElem?_eq_none (by rw [List.size_toArray]; omega)]
 rw [hcs] at k2
 exact ⟨ht, k2, hk⟩
theorem cols1_noL (x : Nat → Q8) : (cols1 x).all noLimb = true := List.all_eq_true.2 fun u hu => by
 obtain ⟨y, i, rfl⟩ := cols1_in hu
 exact Q8.noL y i
/-- A column is stored over a column. -/
theorem col_put {w W : World} {R : Nat} {x y : Nat → Q8} (hbel : Below w.heap.size w W) (hR : w.heap.size ≤ R) (hB : Blk 53 R (cols1 y).toArray W) : ∃ V, (Instr.storeAt 53 (.pointer (some ⟨R, 0, none⟩)) (.agg (cols1 x).toArray)).run Tryz.prog W = .ok () V ∧ Below w.heap.size w V ∧ Blk 53 R (cols1 x).toArray V ∧
  ∀ P : World → Prop, (∀ U cs, P U → Blk 53 R cs U → cs.toList.all noLimb = true → ∀ i a, P (U.setCell ⟨R, i, none⟩ a)) → P W → P V := by
 obtain ⟨ht, k2, hk⟩ := sets_blk (l := cols1 x) (m := cols1 y) (by rw [cols1_len, cols1_len]) (cols1_noL x) (cols1_noL y) hB
 exact ⟨_, run_storeAt_mid (P := Tryz.prog) _ R 0 53 (cols1 x).toArray ht (by rw [col_size x, List.size_toArray]) (all_oneCell_toArray (cols1_one x)), hk (fun V => Below w.heap.size w V) (fun U _ h _ _ i a => h.setCell (p := ⟨R, i, none⟩) hR a) hbel, k2, hk⟩
theorem col_get {g : Nat} {x : Nat → Q8} {W : World} (hB : Blk 53 g (cols1 x).toArray W) : (Instr.loadAt 53 (.pointer (some ⟨g, 0, none⟩))).run Tryz.prog W = .ok (.agg (cols1 x).toArray) W := by
 have h : ColB g 1 1 (fun _ => x) W := by
  refine ⟨Nat.le_refl _, by decide, _, hB, by rw [List.size_toArray, cols1_len], fun i v hv => ?_, fun k hk j hj i hi => ?_⟩
  ·
   rw [List.getElem?_toArray] at hv
   obtain ⟨y, i', rfl⟩ := cols1_in (List.mem_of_getElem? hv)
   exact Q8.noL y i'
  ·
   obtain rfl : k = 0 := by omega
   rw [List.getElem?_toArray, cols1_at x (by omega), show (0 * 24 + (j * 4 + i)) / 4 = j by omega, show (0 * 24 + (j * 4 + i)) % 4 = i by omega]
 have h2 := col_load h Nat.one_pos
 rwa [Nat.zero_mul] at h2
theorem colq_end {v : Rat} {f : Nat → Rat} {N : Nat} (h : Cnt v f N) (j : Nat) (hj : j < 6) : colq v f N N j = ((0 : Int) : Rat) := by
 have h0 : dd v f N = 0 := h.1
 have hs : ∀ g, sf g N N = 0 := fun g => sf_end g (Nat.le_refl _)
 unfold colq
 have hc : cc v f N = 0 := by simp only [cc, h0]; grind
 rcases j with _ | _ | _ | _ | _ | _ | j
 · exact h0
 · exact hs _
 · exact hs _
 · exact hc
 · exact hs _
 · exact hs _
 · omega
theorem FV.n0 {w : World} {q : Rat} {s t : Bool} {A B : Option Addr} {n m : Nat} (h : FV w q s A n t B m) (hq : q ≠ 0) : n ≠ 0 := fun h0 => hq (by
 have h1 := h.1.len
 have h2 := (ln_le b16_two (x := q.num.natAbs) (k := 0)).1 (by omega)
 rw [Nat.pow_zero] at h2
 exact Rat.num_eq_zero.1 (by omega))
set_option linter.unusedSimpArgs false in
set_option maxRecDepth 100000 in
set_option maxHeartbeats 8000000 in
theorem clinks_walk (F S E Y : Int) (A : Option Addr) (n c : Nat) (r : Nat → RH) (si ti : Bool) (Ai Bi : Option Addr) (ni mi ci di : Nat) (fi gi : Nat → Nat) (w : World) (hT : TabM w A n r) (hr : FRd w Ai ni fi Bi mi gi) :
  Calls Tryz.prog 5 #[.agg #[.int .i64 F, .int .i64 S, .slice A n c, .bool si, .slice Ai ni ci, .bool ti, .slice Bi mi di], .agg #[.int .i64 E, .int .i64 Y]] w fun e w' => e = .returned (.bool true) ∧ Below w.heap.size w w' := by
 by_cases hU : UsB F S n r E Y si ni fi ti mi gi
 ·
  obtain ⟨hB, hn, hm, hbk, hR, N, h21, hN⟩ := hU.get (1 / (1 + qOf si ni fi mi gi))
  obtain ⟨hqv, hi⟩ := intB_rti hr hbk.2
  have hdis := hi.dis
  have hrts := rt_rates hT hR N
  have hCol := fun (W : World) (hW : Below w.heap.size w W) => cColumns_v (c := c) (ci := ci) (di := di) (hT.below hW) hB (hr.below hW) hn hm hbk hR N hN (by omega)
  have hDis := fun (W : World) (hW : Below w.heap.size w W) => cDiscount_v (c := c) (ci := ci) (di := di) (hT.below hW) hB (hr.below hW) hn hm hbk
  have hone := hi.one
  have hqfl := hi.fl
  have hvq := hi.v
  have hN0 := hN.pos
  obtain ⟨v, hv⟩ : ∃ v, v = 1 / (1 + qOf si ni fi mi gi) := ⟨_, rfl⟩
  obtain ⟨f, hf⟩ : ∃ f, f = fr F S n r E Y := ⟨_, rfl⟩
  have hrf : Rts f N := by rw [hf]; exact hrts
  simp only [← hv, ← hf] at hCol hDis hdis hN hvq
  clear hrts hi hv hf
  have t0 : (0 : Int) < (N : Int) := by omega
  have t1 : ((N : Int) == 0) = false := by rw [beq_eq_false_iff_ne]; omega
  have HhT := Lib.hid hT
  clear hT
  have Hhr := Lib.hid hr
  clear hr
  have HhU := Lib.hid hU
  clear hU
  have HhB := Lib.hid hB
  clear hB
  have HhR := Lib.hid hR
  clear hR
  have Hhbk := Lib.hid hbk
  clear hbk
  have HhCol := Lib.hid hCol
  clear hCol
  have HhDis := Lib.hid hDis
  clear hDis
  have HhN := Lib.hid hN
  clear hN
  have Hhdis := Lib.hid hdis
  clear hdis
  have Hhrf := Lib.hid hrf
  clear hrf
  have Hhqv := Lib.hid hqv
  clear hqv
  have Hhone := Lib.hid hone
  clear hone
  have Hhqfl := Lib.hid hqfl
  clear hqfl
  have Hhvq := Lib.hid hvq
  clear hvq
  have hE := ((Env.start w).blk 31 #[.int .i64 F, .int .i64 S, .slice A n c, .bool si, .slice Ai ni ci, .bool ti, .slice Bi mi di] (g := w.heap.size) rfl).blk 33 #[.int .i64 E, .int .i64 Y] (g := w.heap.size + 1) (by simp)
  obtain ⟨W0, hW0⟩ : ∃ W0, W0 = ((w.alloc (.cells #[.int .i64 F, .int .i64 S, .slice A n c, .bool si, .slice Ai ni ci, .bool ti, .slice Bi mi di] 31)).alloc (.cells #[.int .i64 E, .int .i64 Y] 33)) := ⟨_, rfl⟩
  rw [← hW0] at hE
  have HW0 := Lib.hid hW0
  clear hW0
  go_enter Tryz.func5, Tryz.ntmps5
  go_upto_region 1 with (fail)
  rw [← HW0.out]
  go_wp2_with fail
  refine hE.br (awakeB_t _) ?_
  clear hE
  intro w1 hE
  go_upto_region 3 with (fail)
  obtain ⟨k2, k3, k4, k5, k6, k7, k8⟩ := (hE.here.1.2).c7
  obtain ⟨k9, k10⟩ := (hE.here.2).c2
  go_wp2_with fail
  refine hE.br (usableB_t (HhT.out.below hE.bel) (Hhr.out.below hE.bel) HhU.out) ?_
  clear hE k2 k3 k4 k5 k6 k7 k8 k9 k10
  intro w11 hE
  go_upto_region 5 with (fail)
  obtain ⟨k12, k13, k14, k15, k16, k17, k18⟩ := (hE.here.1.2).c7
  obtain ⟨k19, k20⟩ := (hE.here.2).c2
  go_wp2_with fail
  refine (HhCol.out _ hE.bel).mono ?_
  clear k12 k13 k14 k15 k16 k17 k18 k19 k20
  rintro e wc1 ⟨cv, h1, rfl, hcv, hcq, hb1⟩
  replace hE := hE.step hb1
  rcases hcv with ⟨-, h0⟩ | ⟨g1, cap1, rfl, -, hCB⟩
  · omega
  clear hb1
  replace hE := (hE.colp hCB).colq hcq
  clear hCB hcq
  go_upto_region 6 with (fail)
  obtain ⟨k21, k22, k23, k24, k25, k26, k27⟩ := (hE.h3).c7
  obtain ⟨k28, k29⟩ := (hE.h2).c2
  go_wp2_with fail
  refine hE.fr (HhDis.out _ hE.bel) ?_
  clear hE k21 k22 k23 k24 k25 k26 k27 k28 k29
  intro su Au nu cu tu Bu mu du w30 hE
  go_upto_region 7 with (fail)
  obtain ⟨g31, hg31⟩ : ∃ g31, g31 = w30.heap.size := ⟨_, rfl⟩
  have hl31_0 : w.heap.size < g31 := by rw [hg31]; exact (hE.h4).lt
  have hl31_1 : w.heap.size + 1 < g31 := by rw [hg31]; exact (hE.h3).lt
  replace hE := hE.blk 29 #[.bool su, .slice Au nu cu, .bool tu, .slice Bu mu du] (g := g31) hg31.symm
  generalize w30.alloc (.cells #[.bool su, .slice Au nu cu, .bool tu, .slice Bu mu du] 29) = W31 at hE ⊢
  rw [← hg31]
  clear hg31
  go_wp2_with fail
  refine hE.fr (ffromInt_v 0 _ (by decide) (by decide)) ?_
  clear hE
  intro sz Az nz cz tz Bz mz dz w32 hE
  go_wp2_with fail
  refine hE.fr (ffromInt_v 1 _ (by decide) (by decide)) ?_
  clear hE
  intro sy Ay ny cy ty By my dy w33 hE
  go_upto_region 8 with (fail)
  obtain ⟨g34, hg34⟩ : ∃ g34, g34 = w33.heap.size := ⟨_, rfl⟩
  have hl34_0 : w.heap.size < g34 := by rw [hg34]; exact (hE.h7).lt
  have hl34_1 : w.heap.size + 1 < g34 := by rw [hg34]; exact (hE.h6).lt
  have hl34_5 : g31 < g34 := by rw [hg34]; exact (hE.h2).lt
  replace hE := hE.blk 29 #[.bool sz, .slice Az nz cz, .bool tz, .slice Bz mz dz] (g := g34) hg34.symm
  have hsz : (w33.alloc (.cells #[.bool sz, .slice Az nz cz, .bool tz, .slice Bz mz dz] 29)).heap.size = g34 + 1 := by rw [hg34, World.size_alloc]
  generalize w33.alloc (.cells #[.bool sz, .slice Az nz cz, .bool tz, .slice Bz mz dz] 29) = W34 at hE hsz ⊢
  obtain ⟨g35, hg35⟩ : ∃ g35, g35 = g34 + 1 := ⟨_, rfl⟩
  have hl35_0 : w.heap.size < g35 := by rw [hg35, ← hsz]; exact (hE.h8).lt
  have hl35_1 : w.heap.size + 1 < g35 := by rw [hg35, ← hsz]; exact (hE.h7).lt
  have hl35_5 : g31 < g35 := by rw [hg35, ← hsz]; exact (hE.h3).lt
  have hl35_8 : g34 < g35 := by rw [hg35, ← hsz]; exact (hE.here.2).lt
  replace hE := hE.blk 29 #[.bool sy, .slice Ay ny cy, .bool ty, .slice By my dy] (g := g35) (hsz.trans hg35.symm)
  generalize W34.alloc (.cells #[.bool sy, .slice Ay ny cy, .bool ty, .slice By my dy] 29) = W35 at hE ⊢
  rw [← hg34, ← hg35]
  clear hsz hg35 hg34
  obtain ⟨k36, k37, k38, k39⟩ := (hE.here.2).c4
  obtain ⟨k40, k41, k42, k43⟩ := (hE.h4).c4
  go_wp2_with fail
  have hc := cw_less (ca := cy) (da := dy) (cb := cu) (db := du) (hE.h2) (hE.h5) fl_one (Hhdis.out.ql.l (by decide) (by decide) (by decide)) (Hhdis.out.no.l (by decide) (by decide) (by decide))
  rw [show (((1 : Int) : Rat)) - v = 1 - v from rfl] at hc
  refine hE.fr (hc) ?_
  clear hE k36 k37 k38 k39 k40 k41 k42 k43
  intro se Ae ne ce te Be me de w44 hE
  clear hc
  go_upto_region 9 with (fail)
  obtain ⟨g45, hg45⟩ : ∃ g45, g45 = w44.heap.size := ⟨_, rfl⟩
  have hl45_0 : w.heap.size < g45 := by rw [hg45]; exact (hE.h10).lt
  have hl45_1 : w.heap.size + 1 < g45 := by rw [hg45]; exact (hE.h9).lt
  have hl45_5 : g31 < g45 := by rw [hg45]; exact (hE.h5).lt
  have hl45_8 : g34 < g45 := by rw [hg45]; exact (hE.h2).lt
  have hl45_9 : g35 < g45 := by rw [hg45]; exact (hE.here.1.2).lt
  replace hE := hE.blk 29 #[.bool se, .slice Ae ne ce, .bool te, .slice Be me de] (g := g45) hg45.symm
  generalize w44.alloc (.cells #[.bool se, .slice Ae ne ce, .bool te, .slice Be me de] 29) = W45 at hE ⊢
  rw [← hg45]
  clear hg45
  have hd0 : dd v f 0 = ((1 : Int) : Rat) := rfl
  replace hE := hE.fv (show FV W45 (dd v f 0) (h1 0 0).s (h1 0 0).A (h1 0 0).n (h1 0 0).t (h1 0 0).B (h1 0 0).m from (hE.h8) 0 (show 0 < N by omega) 0 (by decide) trivial)
  replace hE := hE.fv (Hhqv.out.below hE.bel)
  replace hE := hE.drew
  refine wp_region_held_drew (S := fun V => ((((((((((((((True ∧ Blk 31 (w.heap.size) #[.int .i64 F, .int .i64 S, .slice A n c, .bool si, .slice Ai ni ci, .bool ti, .slice Bi mi di] V) ∧ Blk 33 (w.heap.size + 1) #[.int .i64 E, .int .i64 Y] V) ∧ ColB g1 N cap1 h1 V) ∧ ColQ h1 N (fun _ _ => True) (colq v f N) V) ∧ FV V v su Au nu tu Bu mu) ∧ Blk 29 (g31) #[.bool su, .slice Au nu cu, .bool tu, .slice Bu mu du] V) ∧ FV V ((0 : Int) : Rat) sz Az nz tz Bz mz) ∧ FV V ((1 : Int) : Rat) sy Ay ny ty By my) ∧ Blk 29 (g34) #[.bool sz, .slice Az nz cz, .bool tz, .slice Bz mz dz] V) ∧ Blk 29 (g35) #[.bool sy, .slice Ay ny cy, .bool ty, .slice By my dy] V) ∧ FV V (1 - v) se Ae ne te Be me) ∧ Blk 29 (g45) #[.bool se, .slice Ae ne ce, .bool te, .slice Be me de] V) ∧ FV V (dd v f 0) (h1 0 0).s (h1 0 0).A (h1 0 0).n (h1 0 0).t (h1 0 0).B (h1 0 0).m) ∧ FV V (qOf si ni fi mi gi) si Ai ni ti Bi mi)) (by kernel_rfl) hE.here (fun hHeld => ?_)
  refine wpAnyH_take (i := 0) (v := ?v1_0_1) rfl (by kernel_rfl) (by kernel_rfl) (by kernel_rfl) (fun _ _ _ h => h) (Or.inl ⟨by rfl, ?hy1_0_1⟩) (by assumption) ?rest1_0_1
  case hy1_0_1 =>
   intro w hSw
   clear hSw
   first | (go_simp; done) | (go_simp; with_reducible rfl)
  try simp only [PL]
  refine wpAnyH_take (i := 1) (v := ?v1_1_2) rfl (by kernel_rfl) (by kernel_rfl) (by kernel_rfl) (fun _ _ _ h => h) (Or.inl ⟨by rfl, ?hy1_1_2⟩) (by assumption) ?rest1_1_2
  case hy1_1_2 =>
   intro w hSw
   clear hSw
   first | (go_simp; done) | (go_simp; with_reducible rfl)
  try simp only [PL]
  refine wpAnyH_take (i := 2) (v := ?v1_2_3) rfl (by kernel_rfl) (by kernel_rfl) (by kernel_rfl) (fun _ _ _ h => h) (Or.inl ⟨by rfl, ?hy1_2_3⟩) (by assumption) ?rest1_2_3
  case hy1_2_3 =>
   intro w hSw
   clear hSw
   first | (go_simp; done) | (go_simp; with_reducible rfl)
  try simp only [PL]
  refine wpAnyH_take (i := 3) (v := ?v1_3_4) rfl (by kernel_rfl) (by kernel_rfl) (by kernel_rfl) (fun _ _ _ h => h) (Or.inl ⟨by rfl, ?hy1_3_4⟩) (by assumption) ?rest1_3_4
  case hy1_3_4 =>
   intro w hSw
   clear hSw
   first | (go_simp; done) | (go_simp; with_reducible rfl)
  try simp only [PL]
  refine wpAnyH_take (i := 4) (v := ?v1_4_5) rfl (by kernel_rfl) (by kernel_rfl) (by kernel_rfl) (fun _ _ _ h => h) (Or.inl ⟨by rfl, ?hy1_4_5⟩) (by assumption) ?rest1_4_5
  case hy1_4_5 =>
   intro w hSw
   clear hSw
   first | (go_simp; done) | (go_simp; with_reducible rfl)
  try simp only [PL]
  refine wpAnyH_take (i := 5) (v := ?v1_5_6) rfl (by kernel_rfl) (by kernel_rfl) (by kernel_rfl) (fun _ _ _ h => h) (Or.inl ⟨by rfl, ?hy1_5_6⟩) (by assumption) ?rest1_5_6
  case hy1_5_6 =>
   intro w hSw
   clear hSw
   first | (go_simp; done) | (go_simp; with_reducible rfl)
  try simp only [PL]
  refine wpAnyH_take (i := 6) (v := ?v1_6_7) rfl (by kernel_rfl) (by kernel_rfl) (by kernel_rfl) (fun _ _ _ h => h) (Or.inl ⟨by rfl, ?hy1_6_7⟩) (by assumption) ?rest1_6_7
  case hy1_6_7 =>
   intro w hSw
   clear hSw
   first | (go_simp; done) | (go_simp; with_reducible rfl)
  try simp only [PL]
  refine wpAnyH_take (i := 7) (v := ?v1_7_8) rfl (by kernel_rfl) (by kernel_rfl) (by kernel_rfl) (fun _ _ _ h => h) (Or.inl ⟨by rfl, ?hy1_7_8⟩) (by assumption) ?rest1_7_8
  case hy1_7_8 =>
   intro w hSw
   clear hSw
   first | (go_simp; done) | (go_simp; with_reducible rfl)
  try simp only [PL]
  refine wpAnyH_take (i := 8) (v := ?v1_8_9) rfl (by kernel_rfl) (by kernel_rfl) (by kernel_rfl) (fun _ _ _ h => h) (Or.inl ⟨by rfl, ?hy1_8_9⟩) (by assumption) ?rest1_8_9
  case hy1_8_9 =>
   intro w hSw
   clear hSw
   first | (go_simp; done) | (go_simp; with_reducible rfl)
  try simp only [PL]
  refine wpAnyH_take (i := 9) (v := ?v1_9_10) rfl (by kernel_rfl) (by kernel_rfl) (by kernel_rfl) (fun _ _ _ h => h) (Or.inl ⟨by rfl, ?hy1_9_10⟩) (by assumption) ?rest1_9_10
  case hy1_9_10 =>
   intro w hSw
   clear hSw
   first | (go_simp; done) | (go_simp; with_reducible rfl)
  try simp only [PL]
  refine wpAnyH_take (i := 10) (v := ?v1_10_11) rfl (by kernel_rfl) (by kernel_rfl) (by kernel_rfl) (fun _ _ _ h => h) (Or.inl ⟨by rfl, ?hy1_10_11⟩) (by assumption) ?rest1_10_11
  case hy1_10_11 =>
   intro w hSw
   clear hSw
   first | (go_simp; done) | (go_simp; with_reducible rfl)
  try simp only [PL]
  refine wpAnyH_take (i := 11) (v := ?v1_11_12) rfl (by kernel_rfl) (by kernel_rfl) (by kernel_rfl) (fun _ _ _ h => h) (Or.inl ⟨by rfl, ?hy1_11_12⟩) (by assumption) ?rest1_11_12
  case hy1_11_12 =>
   intro w hSw
   clear hSw
   first | (go_simp; done) | (go_simp; with_reducible rfl)
  try simp only [PL]
  refine wpAnyH_take (i := 12) (v := ?v1_12_13) rfl (by kernel_rfl) (by kernel_rfl) (by kernel_rfl) (fun _ _ _ h => h) (Or.inl ⟨by rfl, ?hy1_12_13⟩) (by assumption) ?rest1_12_13
  case hy1_12_13 =>
   intro w hSw
   clear hSw
   first | (go_simp; done) | (go_simp; with_reducible rfl)
  try simp only [PL]
  refine wpAnyH_take (i := 13) (v := ?v1_13_14) rfl (by kernel_rfl) (by kernel_rfl) (by kernel_rfl) (fun _ _ _ h => h) (Or.inl ⟨by rfl, ?hy1_13_14⟩) (by assumption) ?rest1_13_14
  case hy1_13_14 =>
   intro w hSw
   clear hSw
   first | (go_simp; done) | (go_simp; with_reducible rfl)
  try simp only [PL]
  refine wpAnyH_take (i := 14) (v := ?v1_14_15) rfl (by kernel_rfl) (by kernel_rfl) (by kernel_rfl) (fun _ _ _ h => h) (Or.inl ⟨by rfl, ?hy1_14_15⟩) (by assumption) ?rest1_14_15
  case hy1_14_15 =>
   intro w hSw
   clear hSw
   first | (go_simp; done) | (go_simp; with_reducible rfl)
  try simp only [PL]
  refine wpAnyH_take (i := 15) (v := ?v1_15_16) rfl (by kernel_rfl) (by kernel_rfl) (by kernel_rfl) (fun _ _ _ h => h) (Or.inl ⟨by rfl, ?hy1_15_16⟩) (by assumption) ?rest1_15_16
  case hy1_15_16 =>
   intro w hSw
   have c0 := ColB.at2 (o := 0) (k := 0) (j := 0) (i := 0) (v := .bool (h1 0 0).s) (hSw.1.1.1.1.1.1.1.1.1.1.1.2) (show 0 < N by omega) (by decide) (by decide) (by omega) rfl
   have c1 := ColB.at2 (o := 1) (k := 0) (j := 0) (i := 1) (v := .slice (h1 0 0).A (h1 0 0).n (h1 0 0).c) (hSw.1.1.1.1.1.1.1.1.1.1.1.2) (show 0 < N by omega) (by decide) (by decide) (by omega) rfl
   have c2 := ColB.at2 (o := 2) (k := 0) (j := 0) (i := 2) (v := .bool (h1 0 0).t) (hSw.1.1.1.1.1.1.1.1.1.1.1.2) (show 0 < N by omega) (by decide) (by decide) (by omega) rfl
   have c3 := ColB.at2 (o := 3) (k := 0) (j := 0) (i := 3) (v := .slice (h1 0 0).B (h1 0 0).m (h1 0 0).d) (hSw.1.1.1.1.1.1.1.1.1.1.1.2) (show 0 < N by omega) (by decide) (by decide) (by omega) rfl
   clear hSw
   first | (go_simp; done) | (go_simp; with_reducible rfl)
  try simp only [PL]
  refine wpAnyH_take (i := 16) (v := ?v1_16_17) rfl (by kernel_rfl) (by kernel_rfl) (by kernel_rfl) (fun _ _ _ h => h) (Or.inl ⟨by rfl, ?hy1_16_17⟩) (by assumption) ?rest1_16_17
  case hy1_16_17 =>
   intro w hSw
   obtain ⟨c0, c1, c2, c3⟩ := (hSw.1.1.1.1.2).c4
   clear hSw
   first | (go_simp; done) | (go_simp; with_reducible rfl)
  try simp only [PL]
  refine r1 17 (fun K hK => ?_)
  go_simp
  refine hE.br (cw_equal (v := true) (ca := (h1 0 0).c) (da := (h1 0 0).d) (cb := cy) (db := dy) (hE.here.1.2) (hE.h6) fl_one fl_one (decide_eq_true rfl)) ?_
  clear hE
  intro w46 hE
  go_wp2_with fail
  refine hK.out _ _ (hE.here) (fun hHeld => ?_)
  clear hK K
  try simp only [PL]
  refine wpAnyH_take (i := 18) (v := ?v1_18_18) rfl (by kernel_rfl) (by kernel_rfl) (by kernel_rfl) (fun _ _ _ h => h) (Or.inl ⟨by rfl, ?hy1_18_18⟩) (by assumption) ?rest1_18_18
  case hy1_18_18 =>
   intro w hSw
   clear hSw
   first | (go_simp; done) | (go_simp; with_reducible rfl)
  try simp only [PL]
  refine wpAnyH_take (i := 19) (v := ?v1_19_19) rfl (by kernel_rfl) (by kernel_rfl) (by kernel_rfl) (fun _ _ _ h => h) (Or.inl ⟨by rfl, ?hy1_19_19⟩) (by assumption) ?rest1_19_19
  case hy1_19_19 =>
   intro w hSw
   clear hSw
   first | (go_simp; done) | (go_simp; with_reducible rfl)
  try simp only [PL]
  refine wpAnyH_take (i := 20) (v := ?v1_20_20) rfl (by kernel_rfl) (by kernel_rfl) (by kernel_rfl) (fun _ _ _ h => h) (Or.inl ⟨by rfl, ?hy1_20_20⟩) (by assumption) ?rest1_20_20
  case hy1_20_20 =>
   intro w hSw
   clear hSw
   first | (go_simp; done) | (go_simp; with_reducible rfl)
  try simp only [PL]
  refine wpAnyH_take (i := 21) (v := ?v1_21_21) rfl (by kernel_rfl) (by kernel_rfl) (by kernel_rfl) (fun _ _ _ h => h) (Or.inl ⟨by rfl, ?hy1_21_21⟩) (by assumption) ?rest1_21_21
  case hy1_21_21 =>
   intro w hSw
   obtain ⟨c0, c1, c2, c3⟩ := (hSw.1.1.1.1.1.1.1.1.2).c4
   clear hSw
   first | (go_simp; done) | (go_simp; with_reducible rfl)
  try simp only [PL]
  refine wpAnyH_take (i := 22) (v := ?v1_22_22) rfl (by kernel_rfl) (by kernel_rfl) (by kernel_rfl) (fun _ _ _ h => h) (Or.inl ⟨by rfl, ?hy1_22_22⟩) (by assumption) ?rest1_22_22
  case hy1_22_22 =>
   intro w hSw
   obtain ⟨c0, c1, c2, c3⟩ := (hSw.1.1.1.1.2).c4
   clear hSw
   first | (go_simp; done) | (go_simp; with_reducible rfl)
  try simp only [PL]
  refine wpAnyH_take (i := 23) (v := ?v1_23_23) rfl (by kernel_rfl) (by kernel_rfl) (by kernel_rfl) (fun _ _ _ h => h) (Or.inl ⟨by rfl, ?hy1_23_23⟩) (by assumption) ?rest1_23_23
  case hy1_23_23 =>
   intro w hSw
   clear hSw
   first | (go_simp; done) | (go_simp; with_reducible rfl)
  try simp only [PL]
  refine wpAnyH_take (i := 24) (v := ?v1_24_24) rfl (by kernel_rfl) (by kernel_rfl) (by kernel_rfl) (fun _ _ _ h => h) (Or.inl ⟨by rfl, ?hy1_24_24⟩) (by assumption) ?rest1_24_24
  case hy1_24_24 =>
   intro w hSw
   obtain ⟨c0, c1, c2, c3, c4, c5, c6⟩ := (hSw.1.1.1.1.1.1.1.1.1.1.1.1.1.2).c7
   clear hSw
   first | (go_simp; done) | (go_simp; with_reducible rfl)
  try simp only [PL]
  refine wpAnyH_take (i := 27) (v := ?v1_27_25) rfl (by kernel_rfl) (by kernel_rfl) (by kernel_rfl) (fun _ _ _ h => h) (Or.inl ⟨by rfl, ?hy1_27_25⟩) (by assumption) ?rest1_27_25
  case hy1_27_25 =>
   intro w hSw
   obtain ⟨c0, c1, c2, c3⟩ := (hSw.1.1.1.1.2).c4
   clear hSw
   first | (go_simp; done) | (go_simp; with_reducible rfl)
  try simp only [PL]
  refine r1 25 (fun K hK => ?_)
  go_simp
  refine hE.fr (cw_sum (ca := cy) (da := dy) (cb := ci) (db := di) (hE.h6) (hE.here.2) fl_one (Nat.le_trans Hhqfl.out (by decide)) (Nat.le_trans Hhone.out (by decide))) ?_
  clear hE
  intro ss1 As1 ns1 cs1 ts1 Bs1 ms1 ds1 w47 hE
  go_wp2_with fail
  refine hK.out _ _ (hE.here.1) (fun hHeld => ?_)
  clear hK K
  try simp only [PL]
  refine r1 26 (fun K hK => ?_)
  go_simp
  refine hE.fr (cw_product (ca := cu) (da := du) (cb := cs1) (db := ds1) (hE.h10) (hE.here.2) (Hhdis.out.ql.l (by decide) (by decide) (by decide)) (Nat.le_trans Hhone.out (by decide)) (by rw [show v * (((1 : Int) : Rat) + qOf si ni fi mi gi) = 1 from Hhvq.out]; exact fl_one)) ?_
  clear hE
  intro spv Apv npv cpv tpv Bpv mpv dpv w48 hE
  go_wp2_with fail
  refine hK.out _ _ (hE.here.1.1) (fun hHeld => ?_)
  clear hK K
  try simp only [PL]
  refine r1 28 (fun K hK => ?_)
  go_simp
  refine hE.br (cw_equal (v := true) (ca := cpv) (da := dpv) (cb := cy) (db := dy) (hE.here.2) (hE.h8) (by rw [show v * (((1 : Int) : Rat) + qOf si ni fi mi gi) = 1 from Hhvq.out]; exact fl_one) fl_one (decide_eq_true Hhvq.out)) ?_
  clear hE
  intro w49 hE
  go_wp2_with fail
  refine hK.out _ _ (hE.here.1.1) (fun hHeld => ?_)
  clear hK K
  try simp only [PL]
  refine wpAnyH_take (i := 29) (v := ?v1_29_26) rfl (by kernel_rfl) (by kernel_rfl) (by kernel_rfl) (fun _ _ _ h => h) (Or.inl ⟨by rfl, ?hy1_29_26⟩) (by assumption) ?rest1_29_26
  case hy1_29_26 =>
   intro w hSw
   clear hSw
   first | (go_simp; done) | (go_simp; with_reducible rfl)
  try simp only [PL]
  refine wpAnyH_take (i := 30) (v := ?v1_30_27) rfl (by kernel_rfl) (by kernel_rfl) (by kernel_rfl) (fun _ _ _ h => h) (Or.inl ⟨by rfl, ?hy1_30_27⟩) (by assumption) ?rest1_30_27
  case hy1_30_27 =>
   intro w hSw
   clear hSw
   first | (go_simp; done) | (go_simp; with_reducible rfl)
  try simp only [PL]
  refine wpAnyH_done (by kernel_rfl) ?_ _
  go_upto_region 11 with (fail)
  obtain ⟨k50, k51, k52, k53⟩ := (hE.h7).c4
  obtain ⟨zq, hzq⟩ : ∃ zq : Q8, zq = ⟨sz, Az, nz, cz, tz, Bz, mz, dz⟩ := ⟨_, rfl⟩
  obtain ⟨V, hst, -, hba, -, hbx⟩ := col_store w49 (fun _ => zq)
  have hst0 := hst
  rw [hzq] at hst
  obtain ⟨gx, hgx⟩ : ∃ g, g = w49.heap.size := ⟨_, rfl⟩
  have hx_0 : w.heap.size < gx := by rw [hgx]; exact (hE.h15).lt
  have hx_1 : w.heap.size + 1 < gx := by rw [hgx]; exact (hE.h14).lt
  have hx_c : g1 < gx := by rw [hgx]; exact ColP.lt (hE.h13)
  have hx_5 : g31 < gx := by rw [hgx]; exact (hE.h10).lt
  have hx_8 : g34 < gx := by rw [hgx]; exact (hE.h7).lt
  have hx_9 : g35 < gx := by rw [hgx]; exact (hE.h6).lt
  have hx_11 : g45 < gx := by rw [hgx]; exact (hE.h4).lt
  have hx_w : w.heap.size ≤ gx := by rw [hgx]; exact hE.bel.size
  replace hE := hE.step hba
  replace hE := hE.blkI hbx
  clear hbx hst0
  go_upto_region 12 with (first | refine wpList_stL hst rfl rfl rfl rfl ?_)
  clear hst hba
  rw [← hgx] at hE ⊢
  clear hgx
  have HZ := Lib.hid hzq
  clear hzq
  go_wp2_with fail
  replace hE := hE.colq (show ColQ (fun _ => (fun _ : Nat => zq)) 1 (fun _ _ => True) (fun _ j => colq v f N N j) V from fun _ _ j hj _ => by show zq.fv V (colq v f N N j); rw [colq_end HhN.out j hj]; rw [HZ.out]; exact hE.h10)
  go_loopw [13] (fun p wr => ∃ (k : Nat) (p1 : Int) (hn : Nat → Q8), p = .int .i64 p1 ∧ p1 + 1 = (k : Int) ∧ k ≤ N ∧ Env w (fun V => ((((((((True ∧ ColB g1 N cap1 h1 V) ∧ ColQ h1 N (fun _ _ => True) (colq v f N) V) ∧ FV V v su Au nu tu Bu mu) ∧ Blk 29 (g31) #[.bool su, .slice Au nu cu, .bool tu, .slice Bu mu du] V) ∧ FV V (1 - v) se Ae ne te Be me) ∧ Blk 29 (g45) #[.bool se, .slice Ae ne ce, .bool te, .slice Be me de] V) ∧ Blk 53 gx (cols1 hn).toArray V) ∧ ColQ (fun _ => hn) 1 (fun _ _ => True) (fun _ j => colq v f N k j) V)) wr) (fun p _ => (intOf p + 1).toNat)
  case atStart => exact ⟨N, _, _, rfl, by omega, Nat.le_refl _, (((((((((Env.again hE.bel).colp (hE.h15)).colq (hE.h14)).fv (hE.h13)).blkI (hE.h12)).fv (hE.h7)).blkI (hE.h6)).blkI (hE.here.1.2)).colq (hE.here.2))⟩
  case round =>
   clear hE
   obtain ⟨k, p1, hn, rfl, hp1, hkN, hE⟩ := hrel
   rcases k with _ | k
   ·
    obtain rfl : p1 = -1 := by omega
    go_wp2_with fail
    go_ret
    exact ⟨rfl, hE.bel⟩
   ·
    obtain rfl : p1 = (k : Int) := by omega
    have hk : k < N := by omega
    have t5 : decide ((k : Int) ≥ 0) = true := decide_eq_true (by omega)
    have t6 : (0 : Int) ≤ (k : Int) := by omega
    have t7 : (k : Int) < (N : Int) := by omega
    have hld := col_load (hE.h7) hk
    obtain ⟨V, hst, hldc, hba, -, hbx⟩ := col_store wr (h1 k)
    obtain ⟨gc, hgc⟩ : ∃ g, g = wr.heap.size := ⟨_, rfl⟩
    have hnx : gx < gc := by rw [hgc]; exact (hE.here.1.2).lt
    clear hgc hnx
    replace hE := hE.step hba
    replace hE := hE.blkI hbx
    clear hbx
    go_upto_region 16 with (first | refine wpList_ldL hld rfl rfl rfl ?_ | refine wpList_stL hst rfl rfl rfl rfl ?_)
    clear hld hst hba
    have lc0 : fl ((dd v f) k) ≤ 256 := (dd_ql Hhdis.out Hhrf.out (Nat.le_of_lt hk)).l (by decide) (by decide) (by omega)
    have ln0 : fl ((dd v f) (k + 1)) ≤ 256 := (dd_ql Hhdis.out Hhrf.out hkN).l (by decide) (by decide) (by omega)
    have lc1 : fl ((sf (dd v f) N) k) ≤ 256 := (nn_ql Hhdis.out Hhrf.out (Nat.le_of_lt hk)).l (by omega) (Nat.lt_of_le_of_lt (show N * 1 ≤ 80 by omega) (by decide)) (by omega)
    have ln1 : fl ((sf (dd v f) N) (k + 1)) ≤ 256 := (nn_ql Hhdis.out Hhrf.out hkN).l (by omega) (Nat.lt_of_le_of_lt (show N * 1 ≤ 80 by omega) (by decide)) (by omega)
    have lc2 : fl ((sf (sf (dd v f) N) N) k) ≤ 256 := (ss_ql Hhdis.out Hhrf.out (Nat.le_of_lt hk)).l (Nat.mul_pos (by omega) (by omega)) (Nat.lt_of_le_of_lt (Nat.mul_le_mul (show N ≤ 80 by omega) (show N * 1 ≤ 80 by omega)) (by decide)) (by omega)
    have ln2 : fl ((sf (sf (dd v f) N) N) (k + 1)) ≤ 256 := (ss_ql Hhdis.out Hhrf.out hkN).l (Nat.mul_pos (by omega) (by omega)) (Nat.lt_of_le_of_lt (Nat.mul_le_mul (show N ≤ 80 by omega) (show N * 1 ≤ 80 by omega)) (by decide)) (by omega)
    have lc3 : fl ((cc v f) k) ≤ 256 := (cc_ql Hhdis.out Hhrf.out hk).l (by decide) (by decide) (by omega)
    have lc4 : fl ((sf (cc v f) N) k) ≤ 256 := (mm_ql Hhdis.out Hhrf.out (Nat.le_of_lt hk)).l (by omega) (Nat.lt_of_le_of_lt (show N * 1 ≤ 80 by omega) (by decide)) (by omega)
    have ln4 : fl ((sf (cc v f) N) (k + 1)) ≤ 256 := (mm_ql Hhdis.out Hhrf.out hkN).l (by omega) (Nat.lt_of_le_of_lt (show N * 1 ≤ 80 by omega) (by decide)) (by omega)
    have lc5 : fl ((sf (sf (cc v f) N) N) k) ≤ 256 := (rr_ql Hhdis.out Hhrf.out (Nat.le_of_lt hk)).l (Nat.mul_pos (by omega) (by omega)) (Nat.lt_of_le_of_lt (Nat.mul_le_mul (show N ≤ 80 by omega) (show N * 1 ≤ 80 by omega)) (by decide)) (by omega)
    have ln5 : fl ((sf (sf (cc v f) N) N) (k + 1)) ≤ 256 := (rr_ql Hhdis.out Hhrf.out hkN).l (Nat.mul_pos (by omega) (by omega)) (Nat.lt_of_le_of_lt (Nat.mul_le_mul (show N ≤ 80 by omega) (show N * 1 ≤ 80 by omega)) (by decide)) (by omega)
    have e_m : sf (cc v f) N k = dd v f k - (1 - v) * sf (dd v f) N k := link_M HhN.out.1 k (Nat.le_of_lt hk)
    have e_r : sf (sf (cc v f) N) N k = sf (dd v f) N k - (1 - v) * sf (sf (dd v f) N) N k := link_R HhN.out.1 k (Nat.le_of_lt hk)
    have e_c : cc v f k = v * dd v f k - dd v f (k + 1) := link_C v f k
    have e_s0 : sf (dd v f) N k = (dd v f) k + sf (dd v f) N (k + 1) := by rw [sf_step (dd v f) hk, Rat.add_comm]
    have e_s1 : sf (sf (dd v f) N) N k = (sf (dd v f) N) k + sf (sf (dd v f) N) N (k + 1) := by rw [sf_step (sf (dd v f) N) hk, Rat.add_comm]
    have e_s3 : sf (cc v f) N k = (cc v f) k + sf (cc v f) N (k + 1) := by rw [sf_step (cc v f) hk, Rat.add_comm]
    have e_s4 : sf (sf (cc v f) N) N k = (sf (cc v f) N) k + sf (sf (cc v f) N) N (k + 1) := by rw [sf_step (sf (cc v f) N) hk, Rat.add_comm]
    have ln_a : fl ((1 - v) * sf (dd v f) N k) ≤ 256 := (Hhdis.out.no.mul (nn_ql Hhdis.out Hhrf.out (Nat.le_of_lt hk))).l (by omega) (Nat.lt_of_le_of_lt (show 1 * (N * 1) ≤ 80 by omega) (by decide)) (by omega)
    have ln_b : fl ((1 - v) * sf (sf (dd v f) N) N k) ≤ 256 := (Hhdis.out.no.mul (ss_ql Hhdis.out Hhrf.out (Nat.le_of_lt hk))).l (by rw [Nat.one_mul]; exact Nat.mul_pos (by omega) (by omega)) (by rw [Nat.one_mul]; exact (Nat.lt_of_le_of_lt (Nat.mul_le_mul (show N ≤ 80 by omega) (show N * 1 ≤ 80 by omega)) (by decide))) (by omega)
    have ln_v : fl (v * dd v f k) ≤ 256 := (Hhdis.out.ql.mul (dd_ql Hhdis.out Hhrf.out (Nat.le_of_lt hk))).l (by decide) (by decide) (by omega)
    have Hlc0 := Lib.hid lc0
    clear lc0
    have Hlc1 := Lib.hid lc1
    clear lc1
    have Hlc2 := Lib.hid lc2
    clear lc2
    have Hlc3 := Lib.hid lc3
    clear lc3
    have Hlc4 := Lib.hid lc4
    clear lc4
    have Hlc5 := Lib.hid lc5
    clear lc5
    have Hln0 := Lib.hid ln0
    clear ln0
    have Hln1 := Lib.hid ln1
    clear ln1
    have Hln2 := Lib.hid ln2
    clear ln2
    have Hln4 := Lib.hid ln4
    clear ln4
    have Hln5 := Lib.hid ln5
    clear ln5
    have He_m := Lib.hid e_m
    clear e_m
    have He_r := Lib.hid e_r
    clear e_r
    have He_c := Lib.hid e_c
    clear e_c
    have He_s0 := Lib.hid e_s0
    clear e_s0
    have He_s1 := Lib.hid e_s1
    clear e_s1
    have He_s3 := Lib.hid e_s3
    clear e_s3
    have He_s4 := Lib.hid e_s4
    clear e_s4
    have Hln_a := Lib.hid ln_a
    clear ln_a
    have Hln_b := Lib.hid ln_b
    clear ln_b
    have Hln_v := Lib.hid ln_v
    clear ln_v
    replace hE := hE.fv (show FV V ((dd v f) k) (h1 k 0).s (h1 k 0).A (h1 k 0).n (h1 k 0).t (h1 k 0).B (h1 k 0).m from (hE.h7) k hk 0 (by decide) trivial)
    replace hE := hE.fv (show FV V ((dd v f) (k + 1)) (hn 0).s (hn 0).A (hn 0).n (hn 0).t (hn 0).B (hn 0).m from (hE.h2) 0 Nat.one_pos 0 (by decide) trivial)
    replace hE := hE.fv (show FV V ((sf (dd v f) N) k) (h1 k 1).s (h1 k 1).A (h1 k 1).n (h1 k 1).t (h1 k 1).B (h1 k 1).m from (hE.h9) k hk 1 (by decide) trivial)
    replace hE := hE.fv (show FV V ((sf (dd v f) N) (k + 1)) (hn 1).s (hn 1).A (hn 1).n (hn 1).t (hn 1).B (hn 1).m from (hE.h4) 0 Nat.one_pos 1 (by decide) trivial)
    replace hE := hE.fv (show FV V ((sf (sf (dd v f) N) N) k) (h1 k 2).s (h1 k 2).A (h1 k 2).n (h1 k 2).t (h1 k 2).B (h1 k 2).m from (hE.h11) k hk 2 (by decide) trivial)
    replace hE := hE.fv (show FV V ((sf (sf (dd v f) N) N) (k + 1)) (hn 2).s (hn 2).A (hn 2).n (hn 2).t (hn 2).B (hn 2).m from (hE.h6) 0 Nat.one_pos 2 (by decide) trivial)
    replace hE := hE.fv (show FV V ((cc v f) k) (h1 k 3).s (h1 k 3).A (h1 k 3).n (h1 k 3).t (h1 k 3).B (h1 k 3).m from (hE.h13) k hk 3 (by decide) trivial)
    replace hE := hE.fv (show FV V ((cc v f) (k + 1)) (hn 3).s (hn 3).A (hn 3).n (hn 3).t (hn 3).B (hn 3).m from (hE.h8) 0 Nat.one_pos 3 (by decide) trivial)
    replace hE := hE.fv (show FV V ((sf (cc v f) N) k) (h1 k 4).s (h1 k 4).A (h1 k 4).n (h1 k 4).t (h1 k 4).B (h1 k 4).m from (hE.h15) k hk 4 (by decide) trivial)
    replace hE := hE.fv (show FV V ((sf (cc v f) N) (k + 1)) (hn 4).s (hn 4).A (hn 4).n (hn 4).t (hn 4).B (hn 4).m from (hE.h10) 0 Nat.one_pos 4 (by decide) trivial)
    replace hE := hE.fv (show FV V ((sf (sf (cc v f) N) N) k) (h1 k 5).s (h1 k 5).A (h1 k 5).n (h1 k 5).t (h1 k 5).B (h1 k 5).m from (hE.h17) k hk 5 (by decide) trivial)
    replace hE := hE.fv (show FV V ((sf (sf (cc v f) N) N) (k + 1)) (hn 5).s (hn 5).A (hn 5).n (hn 5).t (hn 5).B (hn 5).m from (hE.h12) 0 Nat.one_pos 5 (by decide) trivial)
    have hnz : (h1 k 0).n ≠ 0 := FV.n0 (hE.h11) (HhN.out.2 k hk)
    have t8 : ((((h1 k 0).n : Nat) : Int) == 0) = false := by rw [beq_eq_false_iff_ne]; omega
    replace hE := hE.drew
    refine wp_region_held_drew (S := fun V => (((((((((((((((((((((True ∧ ColB g1 N cap1 h1 V) ∧ ColQ h1 N (fun _ _ => True) (colq v f N) V) ∧ FV V v su Au nu tu Bu mu) ∧ Blk 29 (g31) #[.bool su, .slice Au nu cu, .bool tu, .slice Bu mu du] V) ∧ FV V (1 - v) se Ae ne te Be me) ∧ Blk 29 (g45) #[.bool se, .slice Ae ne ce, .bool te, .slice Be me de] V) ∧ Blk 53 gx (cols1 hn).toArray V) ∧ ColQ (fun _ => hn) 1 (fun _ _ => True) (fun _ j => colq v f N (k + 1) j) V) ∧ Blk 53 wr.heap.size (cols1 (h1 k)).toArray V) ∧ FV V ((dd v f) k) (h1 k 0).s (h1 k 0).A (h1 k 0).n (h1 k 0).t (h1 k 0).B (h1 k 0).m) ∧ FV V ((dd v f) (k + 1)) (hn 0).s (hn 0).A (hn 0).n (hn 0).t (hn 0).B (hn 0).m) ∧ FV V ((sf (dd v f) N) k) (h1 k 1).s (h1 k 1).A (h1 k 1).n (h1 k 1).t (h1 k 1).B (h1 k 1).m) ∧ FV V ((sf (dd v f) N) (k + 1)) (hn 1).s (hn 1).A (hn 1).n (hn 1).t (hn 1).B (hn 1).m) ∧ FV V ((sf (sf (dd v f) N) N) k) (h1 k 2).s (h1 k 2).A (h1 k 2).n (h1 k 2).t (h1 k 2).B (h1 k 2).m) ∧ FV V ((sf (sf (dd v f) N) N) (k + 1)) (hn 2).s (hn 2).A (hn 2).n (hn 2).t (hn 2).B (hn 2).m) ∧ FV V ((cc v f) k) (h1 k 3).s (h1 k 3).A (h1 k 3).n (h1 k 3).t (h1 k 3).B (h1 k 3).m) ∧ FV V ((cc v f) (k + 1)) (hn 3).s (hn 3).A (hn 3).n (hn 3).t (hn 3).B (hn 3).m) ∧ FV V ((sf (cc v f) N) k) (h1 k 4).s (h1 k 4).A (h1 k 4).n (h1 k 4).t (h1 k 4).B (h1 k 4).m) ∧ FV V ((sf (cc v f) N) (k + 1)) (hn 4).s (hn 4).A (hn 4).n (hn 4).t (hn 4).B (hn 4).m) ∧ FV V ((sf (sf (cc v f) N) N) k) (h1 k 5).s (h1 k 5).A (h1 k 5).n (h1 k 5).t (h1 k 5).B (h1 k 5).m) ∧ FV V ((sf (sf (cc v f) N) N) (k + 1)) (hn 5).s (hn 5).A (hn 5).n (hn 5).t (hn 5).B (hn 5).m)) (by kernel_rfl) hE.here (fun hHeld => ?_)
    refine wpAnyH_take (i := 0) (v := ?v2_0_1) rfl (by kernel_rfl) (by kernel_rfl) (by kernel_rfl) (fun _ _ _ h => h) (Or.inl ⟨by rfl, ?hy2_0_1⟩) (by assumption) ?rest2_0_1
    case hy2_0_1 =>
     intro w hSw
     clear hSw
     first | (go_simp; done) | (go_simp; with_reducible rfl)
    try simp only [PL]
    refine wpAnyH_take (i := 1) (v := ?v2_1_2) rfl (by kernel_rfl) (by kernel_rfl) (by kernel_rfl) (fun _ _ _ h => h) (Or.inl ⟨by rfl, ?hy2_1_2⟩) (by assumption) ?rest2_1_2
    case hy2_1_2 =>
     intro w hSw
     clear hSw
     first | (go_simp; done) | (go_simp; with_reducible rfl)
    try simp only [PL]
    refine wpAnyH_take (i := 2) (v := ?v2_2_3) rfl (by kernel_rfl) (by kernel_rfl) (by kernel_rfl) (fun _ _ _ h => h) (Or.inl ⟨by rfl, ?hy2_2_3⟩) (by assumption) ?rest2_2_3
    case hy2_2_3 =>
     intro w hSw
     clear hSw
     first | (go_simp; done) | (go_simp; with_reducible rfl)
    try simp only [PL]
    refine wpAnyH_take (i := 3) (v := ?v2_3_4) rfl (by kernel_rfl) (by kernel_rfl) (by kernel_rfl) (fun _ _ _ h => h) (Or.inl ⟨by rfl, ?hy2_3_4⟩) (by assumption) ?rest2_3_4
    case hy2_3_4 =>
     intro w hSw
     have c0 := (hSw.1.1.1.1.1.1.1.1.1.1.1.1.2).col (o := 0) (j := 0) (i := 0) (v := .bool (h1 k 0).s) (by decide) (by decide) rfl rfl
     have c1 := (hSw.1.1.1.1.1.1.1.1.1.1.1.1.2).col (o := 1) (j := 0) (i := 1) (v := .slice (h1 k 0).A (h1 k 0).n (h1 k 0).c) (by decide) (by decide) rfl rfl
     have c2 := (hSw.1.1.1.1.1.1.1.1.1.1.1.1.2).col (o := 2) (j := 0) (i := 2) (v := .bool (h1 k 0).t) (by decide) (by decide) rfl rfl
     have c3 := (hSw.1.1.1.1.1.1.1.1.1.1.1.1.2).col (o := 3) (j := 0) (i := 3) (v := .slice (h1 k 0).B (h1 k 0).m (h1 k 0).d) (by decide) (by decide) rfl rfl
     clear hSw
     first | (go_simp; done) | (go_simp; with_reducible rfl)
    try simp only [PL]
    refine wpAnyH_take (i := 4) (v := ?v2_4_5) rfl (by kernel_rfl) (by kernel_rfl) (by kernel_rfl) (fun _ _ _ h => h) (Or.inl ⟨by rfl, ?hy2_4_5⟩) (by assumption) ?rest2_4_5
    case hy2_4_5 =>
     intro w hSw
     clear hSw
     first | (go_simp; done) | (go_simp; with_reducible rfl)
    try simp only [PL]
    refine wpAnyH_take (i := 5) (v := ?v2_5_6) rfl (by kernel_rfl) (by kernel_rfl) (by kernel_rfl) (fun _ _ _ h => h) (Or.inl ⟨by rfl, ?hy2_5_6⟩) (by assumption) ?rest2_5_6
    case hy2_5_6 =>
     intro w hSw
     clear hSw
     first | (go_simp; done) | (go_simp; with_reducible rfl)
    try simp only [PL]
    refine wpAnyH_take (i := 6) (v := ?v2_6_7) rfl (by kernel_rfl) (by kernel_rfl) (by kernel_rfl) (fun _ _ _ h => h) (Or.inl ⟨by rfl, ?hy2_6_7⟩) (by assumption) ?rest2_6_7
    case hy2_6_7 =>
     intro w hSw
     clear hSw
     first | (go_simp; done) | (go_simp; with_reducible rfl)
    try simp only [PL]
    refine wpAnyH_take (i := 7) (v := ?v2_7_8) rfl (by kernel_rfl) (by kernel_rfl) (by kernel_rfl) (fun _ _ _ h => h) (Or.inl ⟨by rfl, ?hy2_7_8⟩) (by assumption) ?rest2_7_8
    case hy2_7_8 =>
     intro w hSw
     clear hSw
     first | (go_simp; done) | (go_simp; with_reducible rfl)
    try simp only [PL]
    refine wpAnyH_take (i := 8) (v := ?v2_8_9) rfl (by kernel_rfl) (by kernel_rfl) (by kernel_rfl) (fun _ _ _ h => h) (Or.inl ⟨by rfl, ?hy2_8_9⟩) (by assumption) ?rest2_8_9
    case hy2_8_9 =>
     intro w hSw
     have c0 := (hSw.1.1.1.1.1.1.1.1.1.1.1.1.2).col (o := 16) (j := 4) (i := 0) (v := .bool (h1 k 4).s) (by decide) (by decide) rfl rfl
     have c1 := (hSw.1.1.1.1.1.1.1.1.1.1.1.1.2).col (o := 17) (j := 4) (i := 1) (v := .slice (h1 k 4).A (h1 k 4).n (h1 k 4).c) (by decide) (by decide) rfl rfl
     have c2 := (hSw.1.1.1.1.1.1.1.1.1.1.1.1.2).col (o := 18) (j := 4) (i := 2) (v := .bool (h1 k 4).t) (by decide) (by decide) rfl rfl
     have c3 := (hSw.1.1.1.1.1.1.1.1.1.1.1.1.2).col (o := 19) (j := 4) (i := 3) (v := .slice (h1 k 4).B (h1 k 4).m (h1 k 4).d) (by decide) (by decide) rfl rfl
     clear hSw
     first | (go_simp; done) | (go_simp; with_reducible rfl)
    try simp only [PL]
    refine wpAnyH_take (i := 9) (v := ?v2_9_10) rfl (by kernel_rfl) (by kernel_rfl) (by kernel_rfl) (fun _ _ _ h => h) (Or.inl ⟨by rfl, ?hy2_9_10⟩) (by assumption) ?rest2_9_10
    case hy2_9_10 =>
     intro w hSw
     clear hSw
     first | (go_simp; done) | (go_simp; with_reducible rfl)
    try simp only [PL]
    refine wpAnyH_take (i := 10) (v := ?v2_10_11) rfl (by kernel_rfl) (by kernel_rfl) (by kernel_rfl) (fun _ _ _ h => h) (Or.inl ⟨by rfl, ?hy2_10_11⟩) (by assumption) ?rest2_10_11
    case hy2_10_11 =>
     intro w hSw
     have c0 := (hSw.1.1.1.1.1.1.1.1.1.1.1.1.2).col (o := 0) (j := 0) (i := 0) (v := .bool (h1 k 0).s) (by decide) (by decide) rfl rfl
     have c1 := (hSw.1.1.1.1.1.1.1.1.1.1.1.1.2).col (o := 1) (j := 0) (i := 1) (v := .slice (h1 k 0).A (h1 k 0).n (h1 k 0).c) (by decide) (by decide) rfl rfl
     have c2 := (hSw.1.1.1.1.1.1.1.1.1.1.1.1.2).col (o := 2) (j := 0) (i := 2) (v := .bool (h1 k 0).t) (by decide) (by decide) rfl rfl
     have c3 := (hSw.1.1.1.1.1.1.1.1.1.1.1.1.2).col (o := 3) (j := 0) (i := 3) (v := .slice (h1 k 0).B (h1 k 0).m (h1 k 0).d) (by decide) (by decide) rfl rfl
     clear hSw
     first | (go_simp; done) | (go_simp; with_reducible rfl)
    try simp only [PL]
    refine wpAnyH_take (i := 11) (v := ?v2_11_12) rfl (by kernel_rfl) (by kernel_rfl) (by kernel_rfl) (fun _ _ _ h => h) (Or.inl ⟨by rfl, ?hy2_11_12⟩) (by assumption) ?rest2_11_12
    case hy2_11_12 =>
     intro w hSw
     obtain ⟨c0, c1, c2, c3⟩ := (hSw.1.1.1.1.1.1.1.1.1.1.1.1.1.1.1.2).c4
     clear hSw
     first | (go_simp; done) | (go_simp; with_reducible rfl)
    try simp only [PL]
    refine wpAnyH_take (i := 12) (v := ?v2_12_13) rfl (by kernel_rfl) (by kernel_rfl) (by kernel_rfl) (fun _ _ _ h => h) (Or.inl ⟨by rfl, ?hy2_12_13⟩) (by assumption) ?rest2_12_13
    case hy2_12_13 =>
     intro w hSw
     clear hSw
     first | (go_simp; done) | (go_simp; with_reducible rfl)
    try simp only [PL]
    refine wpAnyH_take (i := 13) (v := ?v2_13_14) rfl (by kernel_rfl) (by kernel_rfl) (by kernel_rfl) (fun _ _ _ h => h) (Or.inl ⟨by rfl, ?hy2_13_14⟩) (by assumption) ?rest2_13_14
    case hy2_13_14 =>
     intro w hSw
     have c0 := (hSw.1.1.1.1.1.1.1.1.1.1.1.1.2).col (o := 4) (j := 1) (i := 0) (v := .bool (h1 k 1).s) (by decide) (by decide) rfl rfl
     have c1 := (hSw.1.1.1.1.1.1.1.1.1.1.1.1.2).col (o := 5) (j := 1) (i := 1) (v := .slice (h1 k 1).A (h1 k 1).n (h1 k 1).c) (by decide) (by decide) rfl rfl
     have c2 := (hSw.1.1.1.1.1.1.1.1.1.1.1.1.2).col (o := 6) (j := 1) (i := 2) (v := .bool (h1 k 1).t) (by decide) (by decide) rfl rfl
     have c3 := (hSw.1.1.1.1.1.1.1.1.1.1.1.1.2).col (o := 7) (j := 1) (i := 3) (v := .slice (h1 k 1).B (h1 k 1).m (h1 k 1).d) (by decide) (by decide) rfl rfl
     clear hSw
     first | (go_simp; done) | (go_simp; with_reducible rfl)
    try simp only [PL]
    refine r1 14 (fun K hK => ?_)
    go_simp
    refine hE.fr (cw_product (ca := ce) (da := de) (cb := (h1 k 1).c) (db := (h1 k 1).d) (hE.h16) (hE.h9) (Hhdis.out.no.l (by decide) (by decide) (by decide)) Hlc1.out Hln_a.out) ?_
    clear hE k50 k51 k52 k53
    intro spa Apa npa cpa tpa Bpa mpa dpa w54 hE
    go_wp2_with fail
    refine hK.out _ _ (hE.here.1) (fun hHeld => ?_)
    clear hK K
    try simp only [PL]
    refine r1 15 (fun K hK => ?_)
    go_simp
    refine hE.fr (cw_less (ca := (h1 k 0).c) (da := (h1 k 0).d) (cb := cpa) (db := dpa) (hE.h12) (hE.here.2) Hlc0.out Hln_a.out (by rw [← He_m.out]; exact Hlc4.out)) ?_
    clear hE
    intro sla Ala nla cla tla Bla mla dla w55 hE
    go_wp2_with fail
    refine hK.out _ _ (hE.here.1.1) (fun hHeld => ?_)
    clear hK K
    try simp only [PL]
    refine r1 16 (fun K hK => ?_)
    go_simp
    refine hE.br (cw_equal (v := true) (ca := (h1 k 4).c) (da := (h1 k 4).d) (cb := cla) (db := dla) (hE.h5) (hE.here.2) Hlc4.out (by rw [← He_m.out]; exact Hlc4.out) (decide_eq_true He_m.out)) ?_
    clear hE
    intro w56 hE
    go_wp2_with fail
    refine hK.out _ _ (hE.here.1.1) (fun hHeld => ?_)
    clear hK K
    try simp only [PL]
    refine wpAnyH_take (i := 17) (v := ?v2_17_15) rfl (by kernel_rfl) (by kernel_rfl) (by kernel_rfl) (fun _ _ _ h => h) (Or.inl ⟨by rfl, ?hy2_17_15⟩) (by assumption) ?rest2_17_15
    case hy2_17_15 =>
     intro w hSw
     clear hSw
     first | (go_simp; done) | (go_simp; with_reducible rfl)
    try simp only [PL]
    refine wpAnyH_take (i := 18) (v := ?v2_18_16) rfl (by kernel_rfl) (by kernel_rfl) (by kernel_rfl) (fun _ _ _ h => h) (Or.inl ⟨by rfl, ?hy2_18_16⟩) (by assumption) ?rest2_18_16
    case hy2_18_16 =>
     intro w hSw
     clear hSw
     first | (go_simp; done) | (go_simp; with_reducible rfl)
    try simp only [PL]
    refine wpAnyH_take (i := 19) (v := ?v2_19_17) rfl (by kernel_rfl) (by kernel_rfl) (by kernel_rfl) (fun _ _ _ h => h) (Or.inl ⟨by rfl, ?hy2_19_17⟩) (by assumption) ?rest2_19_17
    case hy2_19_17 =>
     intro w hSw
     clear hSw
     first | (go_simp; done) | (go_simp; with_reducible rfl)
    try simp only [PL]
    refine wpAnyH_take (i := 20) (v := ?v2_20_18) rfl (by kernel_rfl) (by kernel_rfl) (by kernel_rfl) (fun _ _ _ h => h) (Or.inl ⟨by rfl, ?hy2_20_18⟩) (by assumption) ?rest2_20_18
    case hy2_20_18 =>
     intro w hSw
     clear hSw
     first | (go_simp; done) | (go_simp; with_reducible rfl)
    try simp only [PL]
    refine wpAnyH_take (i := 21) (v := ?v2_21_19) rfl (by kernel_rfl) (by kernel_rfl) (by kernel_rfl) (fun _ _ _ h => h) (Or.inl ⟨by rfl, ?hy2_21_19⟩) (by assumption) ?rest2_21_19
    case hy2_21_19 =>
     intro w hSw
     have c0 := (hSw.1.1.1.1.1.1.1.1.1.1.1.1.2).col (o := 20) (j := 5) (i := 0) (v := .bool (h1 k 5).s) (by decide) (by decide) rfl rfl
     have c1 := (hSw.1.1.1.1.1.1.1.1.1.1.1.1.2).col (o := 21) (j := 5) (i := 1) (v := .slice (h1 k 5).A (h1 k 5).n (h1 k 5).c) (by decide) (by decide) rfl rfl
     have c2 := (hSw.1.1.1.1.1.1.1.1.1.1.1.1.2).col (o := 22) (j := 5) (i := 2) (v := .bool (h1 k 5).t) (by decide) (by decide) rfl rfl
     have c3 := (hSw.1.1.1.1.1.1.1.1.1.1.1.1.2).col (o := 23) (j := 5) (i := 3) (v := .slice (h1 k 5).B (h1 k 5).m (h1 k 5).d) (by decide) (by decide) rfl rfl
     clear hSw
     first | (go_simp; done) | (go_simp; with_reducible rfl)
    try simp only [PL]
    refine wpAnyH_take (i := 22) (v := ?v2_22_20) rfl (by kernel_rfl) (by kernel_rfl) (by kernel_rfl) (fun _ _ _ h => h) (Or.inl ⟨by rfl, ?hy2_22_20⟩) (by assumption) ?rest2_22_20
    case hy2_22_20 =>
     intro w hSw
     clear hSw
     first | (go_simp; done) | (go_simp; with_reducible rfl)
    try simp only [PL]
    refine wpAnyH_take (i := 23) (v := ?v2_23_21) rfl (by kernel_rfl) (by kernel_rfl) (by kernel_rfl) (fun _ _ _ h => h) (Or.inl ⟨by rfl, ?hy2_23_21⟩) (by assumption) ?rest2_23_21
    case hy2_23_21 =>
     intro w hSw
     have c0 := (hSw.1.1.1.1.1.1.1.1.1.1.1.1.2).col (o := 4) (j := 1) (i := 0) (v := .bool (h1 k 1).s) (by decide) (by decide) rfl rfl
     have c1 := (hSw.1.1.1.1.1.1.1.1.1.1.1.1.2).col (o := 5) (j := 1) (i := 1) (v := .slice (h1 k 1).A (h1 k 1).n (h1 k 1).c) (by decide) (by decide) rfl rfl
     have c2 := (hSw.1.1.1.1.1.1.1.1.1.1.1.1.2).col (o := 6) (j := 1) (i := 2) (v := .bool (h1 k 1).t) (by decide) (by decide) rfl rfl
     have c3 := (hSw.1.1.1.1.1.1.1.1.1.1.1.1.2).col (o := 7) (j := 1) (i := 3) (v := .slice (h1 k 1).B (h1 k 1).m (h1 k 1).d) (by decide) (by decide) rfl rfl
     clear hSw
     first | (go_simp; done) | (go_simp; with_reducible rfl)
    try simp only [PL]
    refine wpAnyH_take (i := 24) (v := ?v2_24_22) rfl (by kernel_rfl) (by kernel_rfl) (by kernel_rfl) (fun _ _ _ h => h) (Or.inl ⟨by rfl, ?hy2_24_22⟩) (by assumption) ?rest2_24_22
    case hy2_24_22 =>
     intro w hSw
     obtain ⟨c0, c1, c2, c3⟩ := (hSw.1.1.1.1.1.1.1.1.1.1.1.1.1.1.1.2).c4
     clear hSw
     first | (go_simp; done) | (go_simp; with_reducible rfl)
    try simp only [PL]
    refine wpAnyH_take (i := 25) (v := ?v2_25_23) rfl (by kernel_rfl) (by kernel_rfl) (by kernel_rfl) (fun _ _ _ h => h) (Or.inl ⟨by rfl, ?hy2_25_23⟩) (by assumption) ?rest2_25_23
    case hy2_25_23 =>
     intro w hSw
     clear hSw
     first | (go_simp; done) | (go_simp; with_reducible rfl)
    try simp only [PL]
    refine wpAnyH_take (i := 26) (v := ?v2_26_24) rfl (by kernel_rfl) (by kernel_rfl) (by kernel_rfl) (fun _ _ _ h => h) (Or.inl ⟨by rfl, ?hy2_26_24⟩) (by assumption) ?rest2_26_24
    case hy2_26_24 =>
     intro w hSw
     have c0 := (hSw.1.1.1.1.1.1.1.1.1.1.1.1.2).col (o := 8) (j := 2) (i := 0) (v := .bool (h1 k 2).s) (by decide) (by decide) rfl rfl
     have c1 := (hSw.1.1.1.1.1.1.1.1.1.1.1.1.2).col (o := 9) (j := 2) (i := 1) (v := .slice (h1 k 2).A (h1 k 2).n (h1 k 2).c) (by decide) (by decide) rfl rfl
     have c2 := (hSw.1.1.1.1.1.1.1.1.1.1.1.1.2).col (o := 10) (j := 2) (i := 2) (v := .bool (h1 k 2).t) (by decide) (by decide) rfl rfl
     have c3 := (hSw.1.1.1.1.1.1.1.1.1.1.1.1.2).col (o := 11) (j := 2) (i := 3) (v := .slice (h1 k 2).B (h1 k 2).m (h1 k 2).d) (by decide) (by decide) rfl rfl
     clear hSw
     first | (go_simp; done) | (go_simp; with_reducible rfl)
    try simp only [PL]
    refine r1 27 (fun K hK => ?_)
    go_simp
    refine hE.fr (cw_product (ca := ce) (da := de) (cb := (h1 k 2).c) (db := (h1 k 2).d) (hE.h18) (hE.h9) (Hhdis.out.no.l (by decide) (by decide) (by decide)) Hlc2.out Hln_b.out) ?_
    clear hE
    intro spb Apb npb cpb tpb Bpb mpb dpb w57 hE
    go_wp2_with fail
    refine hK.out _ _ (hE.here.1.1.1) (fun hHeld => ?_)
    clear hK K
    try simp only [PL]
    refine r1 28 (fun K hK => ?_)
    go_simp
    refine hE.fr (cw_less (ca := (h1 k 1).c) (da := (h1 k 1).d) (cb := cpb) (db := dpb) (hE.h12) (hE.here.2) Hlc1.out Hln_b.out (by rw [← He_r.out]; exact Hlc5.out)) ?_
    clear hE
    intro slb Alb nlb clb tlb Blb mlb dlb w58 hE
    go_wp2_with fail
    refine hK.out _ _ (hE.here.1.1.1.1) (fun hHeld => ?_)
    clear hK K
    try simp only [PL]
    refine r1 29 (fun K hK => ?_)
    go_simp
    refine hE.br (cw_equal (v := true) (ca := (h1 k 5).c) (da := (h1 k 5).d) (cb := clb) (db := dlb) (hE.h5) (hE.here.2) Hlc5.out (by rw [← He_r.out]; exact Hlc5.out) (decide_eq_true He_r.out)) ?_
    clear hE
    intro w59 hE
    go_wp2_with fail
    refine hK.out _ _ (hE.here.1.1.1.1) (fun hHeld => ?_)
    clear hK K
    try simp only [PL]
    refine wpAnyH_take (i := 30) (v := ?v2_30_25) rfl (by kernel_rfl) (by kernel_rfl) (by kernel_rfl) (fun _ _ _ h => h) (Or.inl ⟨by rfl, ?hy2_30_25⟩) (by assumption) ?rest2_30_25
    case hy2_30_25 =>
     intro w hSw
     clear hSw
     first | (go_simp; done) | (go_simp; with_reducible rfl)
    try simp only [PL]
    refine wpAnyH_take (i := 31) (v := ?v2_31_26) rfl (by kernel_rfl) (by kernel_rfl) (by kernel_rfl) (fun _ _ _ h => h) (Or.inl ⟨by rfl, ?hy2_31_26⟩) (by assumption) ?rest2_31_26
    case hy2_31_26 =>
     intro w hSw
     clear hSw
     first | (go_simp; done) | (go_simp; with_reducible rfl)
    try simp only [PL]
    refine wpAnyH_take (i := 32) (v := ?v2_32_27) rfl (by kernel_rfl) (by kernel_rfl) (by kernel_rfl) (fun _ _ _ h => h) (Or.inl ⟨by rfl, ?hy2_32_27⟩) (by assumption) ?rest2_32_27
    case hy2_32_27 =>
     intro w hSw
     clear hSw
     first | (go_simp; done) | (go_simp; with_reducible rfl)
    try simp only [PL]
    refine wpAnyH_take (i := 33) (v := ?v2_33_28) rfl (by kernel_rfl) (by kernel_rfl) (by kernel_rfl) (fun _ _ _ h => h) (Or.inl ⟨by rfl, ?hy2_33_28⟩) (by assumption) ?rest2_33_28
    case hy2_33_28 =>
     intro w hSw
     clear hSw
     first | (go_simp; done) | (go_simp; with_reducible rfl)
    try simp only [PL]
    refine wpAnyH_take (i := 34) (v := ?v2_34_29) rfl (by kernel_rfl) (by kernel_rfl) (by kernel_rfl) (fun _ _ _ h => h) (Or.inl ⟨by rfl, ?hy2_34_29⟩) (by assumption) ?rest2_34_29
    case hy2_34_29 =>
     intro w hSw
     have c0 := (hSw.1.1.1.1.1.1.1.1.1.1.1.1.2).col (o := 4) (j := 1) (i := 0) (v := .bool (h1 k 1).s) (by decide) (by decide) rfl rfl
     have c1 := (hSw.1.1.1.1.1.1.1.1.1.1.1.1.2).col (o := 5) (j := 1) (i := 1) (v := .slice (h1 k 1).A (h1 k 1).n (h1 k 1).c) (by decide) (by decide) rfl rfl
     have c2 := (hSw.1.1.1.1.1.1.1.1.1.1.1.1.2).col (o := 6) (j := 1) (i := 2) (v := .bool (h1 k 1).t) (by decide) (by decide) rfl rfl
     have c3 := (hSw.1.1.1.1.1.1.1.1.1.1.1.1.2).col (o := 7) (j := 1) (i := 3) (v := .slice (h1 k 1).B (h1 k 1).m (h1 k 1).d) (by decide) (by decide) rfl rfl
     clear hSw
     first | (go_simp; done) | (go_simp; with_reducible rfl)
    try simp only [PL]
    refine wpAnyH_take (i := 35) (v := ?v2_35_30) rfl (by kernel_rfl) (by kernel_rfl) (by kernel_rfl) (fun _ _ _ h => h) (Or.inl ⟨by rfl, ?hy2_35_30⟩) (by assumption) ?rest2_35_30
    case hy2_35_30 =>
     intro w hSw
     clear hSw
     first | (go_simp; done) | (go_simp; with_reducible rfl)
    try simp only [PL]
    refine wpAnyH_take (i := 36) (v := ?v2_36_31) rfl (by kernel_rfl) (by kernel_rfl) (by kernel_rfl) (fun _ _ _ h => h) (Or.inl ⟨by rfl, ?hy2_36_31⟩) (by assumption) ?rest2_36_31
    case hy2_36_31 =>
     intro w hSw
     have c0 := (hSw.1.1.1.1.1.1.1.1.1.1.1.1.2).col (o := 0) (j := 0) (i := 0) (v := .bool (h1 k 0).s) (by decide) (by decide) rfl rfl
     have c1 := (hSw.1.1.1.1.1.1.1.1.1.1.1.1.2).col (o := 1) (j := 0) (i := 1) (v := .slice (h1 k 0).A (h1 k 0).n (h1 k 0).c) (by decide) (by decide) rfl rfl
     have c2 := (hSw.1.1.1.1.1.1.1.1.1.1.1.1.2).col (o := 2) (j := 0) (i := 2) (v := .bool (h1 k 0).t) (by decide) (by decide) rfl rfl
     have c3 := (hSw.1.1.1.1.1.1.1.1.1.1.1.1.2).col (o := 3) (j := 0) (i := 3) (v := .slice (h1 k 0).B (h1 k 0).m (h1 k 0).d) (by decide) (by decide) rfl rfl
     clear hSw
     first | (go_simp; done) | (go_simp; with_reducible rfl)
    try simp only [PL]
    refine wpAnyH_take (i := 37) (v := ?v2_37_32) rfl (by kernel_rfl) (by kernel_rfl) (by kernel_rfl) (fun _ _ _ h => h) (Or.inl ⟨by rfl, ?hy2_37_32⟩) (by assumption) ?rest2_37_32
    case hy2_37_32 =>
     intro w hSw
     clear hSw
     first | (go_simp; done) | (go_simp; with_reducible rfl)
    try simp only [PL]
    refine wpAnyH_take (i := 38) (v := ?v2_38_33) rfl (by kernel_rfl) (by kernel_rfl) (by kernel_rfl) (fun _ _ _ h => h) (Or.inl ⟨by rfl, ?hy2_38_33⟩) (by assumption) ?rest2_38_33
    case hy2_38_33 =>
     intro w hSw
     have c0 := (hSw.1.1.1.1.1.1.1.1.1.1.1.1.1.1.2).col (o := 4) (j := 1) (i := 0) (v := .bool (hn 1).s) (by decide) (by decide) rfl rfl
     have c1 := (hSw.1.1.1.1.1.1.1.1.1.1.1.1.1.1.2).col (o := 5) (j := 1) (i := 1) (v := .slice (hn 1).A (hn 1).n (hn 1).c) (by decide) (by decide) rfl rfl
     have c2 := (hSw.1.1.1.1.1.1.1.1.1.1.1.1.1.1.2).col (o := 6) (j := 1) (i := 2) (v := .bool (hn 1).t) (by decide) (by decide) rfl rfl
     have c3 := (hSw.1.1.1.1.1.1.1.1.1.1.1.1.1.1.2).col (o := 7) (j := 1) (i := 3) (v := .slice (hn 1).B (hn 1).m (hn 1).d) (by decide) (by decide) rfl rfl
     clear hSw
     first | (go_simp; done) | (go_simp; with_reducible rfl)
    try simp only [PL]
    refine r1 39 (fun K hK => ?_)
    go_simp
    refine hE.fr (cw_sum (ca := (h1 k 0).c) (da := (h1 k 0).d) (cb := (hn 1).c) (db := (hn 1).d) (hE.h15) (hE.h12) Hlc0.out Hln1.out (by rw [← He_s0.out]; exact Hlc1.out)) ?_
    clear hE
    intro ssm0 Asm0 nsm0 csm0 tsm0 Bsm0 msm0 dsm0 w60 hE
    go_wp2_with fail
    refine hK.out _ _ (hE.here.1.1.1.1.1) (fun hHeld => ?_)
    clear hK K
    try simp only [PL]
    refine r1 40 (fun K hK => ?_)
    go_simp
    refine hE.br (cw_equal (v := true) (ca := (h1 k 1).c) (da := (h1 k 1).d) (cb := csm0) (db := dsm0) (hE.h14) (hE.here.2) Hlc1.out (by rw [← He_s0.out]; exact Hlc1.out) (decide_eq_true He_s0.out)) ?_
    clear hE
    intro w61 hE
    go_wp2_with fail
    refine hK.out _ _ (hE.here.1.1.1.1.1) (fun hHeld => ?_)
    clear hK K
    try simp only [PL]
    refine wpAnyH_take (i := 41) (v := ?v2_41_34) rfl (by kernel_rfl) (by kernel_rfl) (by kernel_rfl) (fun _ _ _ h => h) (Or.inl ⟨by rfl, ?hy2_41_34⟩) (by assumption) ?rest2_41_34
    case hy2_41_34 =>
     intro w hSw
     clear hSw
     first | (go_simp; done) | (go_simp; with_reducible rfl)
    try simp only [PL]
    refine wpAnyH_take (i := 42) (v := ?v2_42_35) rfl (by kernel_rfl) (by kernel_rfl) (by kernel_rfl) (fun _ _ _ h => h) (Or.inl ⟨by rfl, ?hy2_42_35⟩) (by assumption) ?rest2_42_35
    case hy2_42_35 =>
     intro w hSw
     clear hSw
     first | (go_simp; done) | (go_simp; with_reducible rfl)
    try simp only [PL]
    refine wpAnyH_take (i := 43) (v := ?v2_43_36) rfl (by kernel_rfl) (by kernel_rfl) (by kernel_rfl) (fun _ _ _ h => h) (Or.inl ⟨by rfl, ?hy2_43_36⟩) (by assumption) ?rest2_43_36
    case hy2_43_36 =>
     intro w hSw
     clear hSw
     first | (go_simp; done) | (go_simp; with_reducible rfl)
    try simp only [PL]
    refine wpAnyH_take (i := 44) (v := ?v2_44_37) rfl (by kernel_rfl) (by kernel_rfl) (by kernel_rfl) (fun _ _ _ h => h) (Or.inl ⟨by rfl, ?hy2_44_37⟩) (by assumption) ?rest2_44_37
    case hy2_44_37 =>
     intro w hSw
     clear hSw
     first | (go_simp; done) | (go_simp; with_reducible rfl)
    try simp only [PL]
    refine wpAnyH_take (i := 45) (v := ?v2_45_38) rfl (by kernel_rfl) (by kernel_rfl) (by kernel_rfl) (fun _ _ _ h => h) (Or.inl ⟨by rfl, ?hy2_45_38⟩) (by assumption) ?rest2_45_38
    case hy2_45_38 =>
     intro w hSw
     have c0 := (hSw.1.1.1.1.1.1.1.1.1.1.1.1.2).col (o := 8) (j := 2) (i := 0) (v := .bool (h1 k 2).s) (by decide) (by decide) rfl rfl
     have c1 := (hSw.1.1.1.1.1.1.1.1.1.1.1.1.2).col (o := 9) (j := 2) (i := 1) (v := .slice (h1 k 2).A (h1 k 2).n (h1 k 2).c) (by decide) (by decide) rfl rfl
     have c2 := (hSw.1.1.1.1.1.1.1.1.1.1.1.1.2).col (o := 10) (j := 2) (i := 2) (v := .bool (h1 k 2).t) (by decide) (by decide) rfl rfl
     have c3 := (hSw.1.1.1.1.1.1.1.1.1.1.1.1.2).col (o := 11) (j := 2) (i := 3) (v := .slice (h1 k 2).B (h1 k 2).m (h1 k 2).d) (by decide) (by decide) rfl rfl
     clear hSw
     first | (go_simp; done) | (go_simp; with_reducible rfl)
    try simp only [PL]
    refine wpAnyH_take (i := 46) (v := ?v2_46_39) rfl (by kernel_rfl) (by kernel_rfl) (by kernel_rfl) (fun _ _ _ h => h) (Or.inl ⟨by rfl, ?hy2_46_39⟩) (by assumption) ?rest2_46_39
    case hy2_46_39 =>
     intro w hSw
     clear hSw
     first | (go_simp; done) | (go_simp; with_reducible rfl)
    try simp only [PL]
    refine wpAnyH_take (i := 47) (v := ?v2_47_40) rfl (by kernel_rfl) (by kernel_rfl) (by kernel_rfl) (fun _ _ _ h => h) (Or.inl ⟨by rfl, ?hy2_47_40⟩) (by assumption) ?rest2_47_40
    case hy2_47_40 =>
     intro w hSw
     have c0 := (hSw.1.1.1.1.1.1.1.1.1.1.1.1.2).col (o := 4) (j := 1) (i := 0) (v := .bool (h1 k 1).s) (by decide) (by decide) rfl rfl
     have c1 := (hSw.1.1.1.1.1.1.1.1.1.1.1.1.2).col (o := 5) (j := 1) (i := 1) (v := .slice (h1 k 1).A (h1 k 1).n (h1 k 1).c) (by decide) (by decide) rfl rfl
     have c2 := (hSw.1.1.1.1.1.1.1.1.1.1.1.1.2).col (o := 6) (j := 1) (i := 2) (v := .bool (h1 k 1).t) (by decide) (by decide) rfl rfl
     have c3 := (hSw.1.1.1.1.1.1.1.1.1.1.1.1.2).col (o := 7) (j := 1) (i := 3) (v := .slice (h1 k 1).B (h1 k 1).m (h1 k 1).d) (by decide) (by decide) rfl rfl
     clear hSw
     first | (go_simp; done) | (go_simp; with_reducible rfl)
    try simp only [PL]
    refine wpAnyH_take (i := 48) (v := ?v2_48_41) rfl (by kernel_rfl) (by kernel_rfl) (by kernel_rfl) (fun _ _ _ h => h) (Or.inl ⟨by rfl, ?hy2_48_41⟩) (by assumption) ?rest2_48_41
    case hy2_48_41 =>
     intro w hSw
     clear hSw
     first | (go_simp; done) | (go_simp; with_reducible rfl)
    try simp only [PL]
    refine wpAnyH_take (i := 49) (v := ?v2_49_42) rfl (by kernel_rfl) (by kernel_rfl) (by kernel_rfl) (fun _ _ _ h => h) (Or.inl ⟨by rfl, ?hy2_49_42⟩) (by assumption) ?rest2_49_42
    case hy2_49_42 =>
     intro w hSw
     have c0 := (hSw.1.1.1.1.1.1.1.1.1.1.1.1.1.1.2).col (o := 8) (j := 2) (i := 0) (v := .bool (hn 2).s) (by decide) (by decide) rfl rfl
     have c1 := (hSw.1.1.1.1.1.1.1.1.1.1.1.1.1.1.2).col (o := 9) (j := 2) (i := 1) (v := .slice (hn 2).A (hn 2).n (hn 2).c) (by decide) (by decide) rfl rfl
     have c2 := (hSw.1.1.1.1.1.1.1.1.1.1.1.1.1.1.2).col (o := 10) (j := 2) (i := 2) (v := .bool (hn 2).t) (by decide) (by decide) rfl rfl
     have c3 := (hSw.1.1.1.1.1.1.1.1.1.1.1.1.1.1.2).col (o := 11) (j := 2) (i := 3) (v := .slice (hn 2).B (hn 2).m (hn 2).d) (by decide) (by decide) rfl rfl
     clear hSw
     first | (go_simp; done) | (go_simp; with_reducible rfl)
    try simp only [PL]
    refine r1 50 (fun K hK => ?_)
    go_simp
    refine hE.fr (cw_sum (ca := (h1 k 1).c) (da := (h1 k 1).d) (cb := (hn 2).c) (db := (hn 2).d) (hE.h14) (hE.h11) Hlc1.out Hln2.out (by rw [← He_s1.out]; exact Hlc2.out)) ?_
    clear hE
    intro ssm1 Asm1 nsm1 csm1 tsm1 Bsm1 msm1 dsm1 w62 hE
    go_wp2_with fail
    refine hK.out _ _ (hE.here.1.1.1.1.1.1) (fun hHeld => ?_)
    clear hK K
    try simp only [PL]
    refine r1 51 (fun K hK => ?_)
    go_simp
    refine hE.br (cw_equal (v := true) (ca := (h1 k 2).c) (da := (h1 k 2).d) (cb := csm1) (db := dsm1) (hE.h13) (hE.here.2) Hlc2.out (by rw [← He_s1.out]; exact Hlc2.out) (decide_eq_true He_s1.out)) ?_
    clear hE
    intro w63 hE
    go_wp2_with fail
    refine hK.out _ _ (hE.here.1.1.1.1.1.1) (fun hHeld => ?_)
    clear hK K
    try simp only [PL]
    refine wpAnyH_take (i := 52) (v := ?v2_52_43) rfl (by kernel_rfl) (by kernel_rfl) (by kernel_rfl) (fun _ _ _ h => h) (Or.inl ⟨by rfl, ?hy2_52_43⟩) (by assumption) ?rest2_52_43
    case hy2_52_43 =>
     intro w hSw
     clear hSw
     first | (go_simp; done) | (go_simp; with_reducible rfl)
    try simp only [PL]
    refine wpAnyH_take (i := 53) (v := ?v2_53_44) rfl (by kernel_rfl) (by kernel_rfl) (by kernel_rfl) (fun _ _ _ h => h) (Or.inl ⟨by rfl, ?hy2_53_44⟩) (by assumption) ?rest2_53_44
    case hy2_53_44 =>
     intro w hSw
     clear hSw
     first | (go_simp; done) | (go_simp; with_reducible rfl)
    try simp only [PL]
    refine wpAnyH_done (by kernel_rfl) ?_ _
    go_upto_region 18 with (fail)
    replace hE := hE.drew
    refine wp_region_held_drew (S := fun V => (((((((((((((((((((((((((((True ∧ ColB g1 N cap1 h1 V) ∧ ColQ h1 N (fun _ _ => True) (colq v f N) V) ∧ FV V v su Au nu tu Bu mu) ∧ Blk 29 (g31) #[.bool su, .slice Au nu cu, .bool tu, .slice Bu mu du] V) ∧ FV V (1 - v) se Ae ne te Be me) ∧ Blk 29 (g45) #[.bool se, .slice Ae ne ce, .bool te, .slice Be me de] V) ∧ Blk 53 gx (cols1 hn).toArray V) ∧ ColQ (fun _ => hn) 1 (fun _ _ => True) (fun _ j => colq v f N (k + 1) j) V) ∧ Blk 53 wr.heap.size (cols1 (h1 k)).toArray V) ∧ FV V ((dd v f) k) (h1 k 0).s (h1 k 0).A (h1 k 0).n (h1 k 0).t (h1 k 0).B (h1 k 0).m) ∧ FV V ((dd v f) (k + 1)) (hn 0).s (hn 0).A (hn 0).n (hn 0).t (hn 0).B (hn 0).m) ∧ FV V ((sf (dd v f) N) k) (h1 k 1).s (h1 k 1).A (h1 k 1).n (h1 k 1).t (h1 k 1).B (h1 k 1).m) ∧ FV V ((sf (dd v f) N) (k + 1)) (hn 1).s (hn 1).A (hn 1).n (hn 1).t (hn 1).B (hn 1).m) ∧ FV V ((sf (sf (dd v f) N) N) k) (h1 k 2).s (h1 k 2).A (h1 k 2).n (h1 k 2).t (h1 k 2).B (h1 k 2).m) ∧ FV V ((sf (sf (dd v f) N) N) (k + 1)) (hn 2).s (hn 2).A (hn 2).n (hn 2).t (hn 2).B (hn 2).m) ∧ FV V ((cc v f) k) (h1 k 3).s (h1 k 3).A (h1 k 3).n (h1 k 3).t (h1 k 3).B (h1 k 3).m) ∧ FV V ((cc v f) (k + 1)) (hn 3).s (hn 3).A (hn 3).n (hn 3).t (hn 3).B (hn 3).m) ∧ FV V ((sf (cc v f) N) k) (h1 k 4).s (h1 k 4).A (h1 k 4).n (h1 k 4).t (h1 k 4).B (h1 k 4).m) ∧ FV V ((sf (cc v f) N) (k + 1)) (hn 4).s (hn 4).A (hn 4).n (hn 4).t (hn 4).B (hn 4).m) ∧ FV V ((sf (sf (cc v f) N) N) k) (h1 k 5).s (h1 k 5).A (h1 k 5).n (h1 k 5).t (h1 k 5).B (h1 k 5).m) ∧ FV V ((sf (sf (cc v f) N) N) (k + 1)) (hn 5).s (hn 5).A (hn 5).n (hn 5).t (hn 5).B (hn 5).m) ∧ FV V ((1 - v) * sf (dd v f) N k) spa Apa npa tpa Bpa mpa) ∧ FV V (dd v f k - (1 - v) * sf (dd v f) N k) sla Ala nla tla Bla mla) ∧ FV V ((1 - v) * sf (sf (dd v f) N) N k) spb Apb npb tpb Bpb mpb) ∧ FV V (sf (dd v f) N k - (1 - v) * sf (sf (dd v f) N) N k) slb Alb nlb tlb Blb mlb) ∧ FV V ((dd v f) k + sf (dd v f) N (k + 1)) ssm0 Asm0 nsm0 tsm0 Bsm0 msm0) ∧ FV V ((sf (dd v f) N) k + sf (sf (dd v f) N) N (k + 1)) ssm1 Asm1 nsm1 tsm1 Bsm1 msm1)) (by kernel_rfl) hE.here (fun hHeld => ?_)
    refine wpAnyH_take (i := 0) (v := ?v3_0_1) rfl (by kernel_rfl) (by kernel_rfl) (by kernel_rfl) (fun _ _ _ h => h) (Or.inl ⟨by rfl, ?hy3_0_1⟩) (by assumption) ?rest3_0_1
    case hy3_0_1 =>
     intro w hSw
     clear hSw
     first | (go_simp; done) | (go_simp; with_reducible rfl)
    try simp only [PL]
    refine wpAnyH_take (i := 1) (v := ?v3_1_2) rfl (by kernel_rfl) (by kernel_rfl) (by kernel_rfl) (fun _ _ _ h => h) (Or.inl ⟨by rfl, ?hy3_1_2⟩) (by assumption) ?rest3_1_2
    case hy3_1_2 =>
     intro w hSw
     have c0 := (hSw.1.1.1.1.1.1.1.1.1.1.1.1.1.1.1.1.1.1.2).col (o := 16) (j := 4) (i := 0) (v := .bool (h1 k 4).s) (by decide) (by decide) rfl rfl
     have c1 := (hSw.1.1.1.1.1.1.1.1.1.1.1.1.1.1.1.1.1.1.2).col (o := 17) (j := 4) (i := 1) (v := .slice (h1 k 4).A (h1 k 4).n (h1 k 4).c) (by decide) (by decide) rfl rfl
     have c2 := (hSw.1.1.1.1.1.1.1.1.1.1.1.1.1.1.1.1.1.1.2).col (o := 18) (j := 4) (i := 2) (v := .bool (h1 k 4).t) (by decide) (by decide) rfl rfl
     have c3 := (hSw.1.1.1.1.1.1.1.1.1.1.1.1.1.1.1.1.1.1.2).col (o := 19) (j := 4) (i := 3) (v := .slice (h1 k 4).B (h1 k 4).m (h1 k 4).d) (by decide) (by decide) rfl rfl
     clear hSw
     first | (go_simp; done) | (go_simp; with_reducible rfl)
    try simp only [PL]
    refine wpAnyH_take (i := 2) (v := ?v3_2_3) rfl (by kernel_rfl) (by kernel_rfl) (by kernel_rfl) (fun _ _ _ h => h) (Or.inl ⟨by rfl, ?hy3_2_3⟩) (by assumption) ?rest3_2_3
    case hy3_2_3 =>
     intro w hSw
     clear hSw
     first | (go_simp; done) | (go_simp; with_reducible rfl)
    try simp only [PL]
    refine wpAnyH_take (i := 3) (v := ?v3_3_4) rfl (by kernel_rfl) (by kernel_rfl) (by kernel_rfl) (fun _ _ _ h => h) (Or.inl ⟨by rfl, ?hy3_3_4⟩) (by assumption) ?rest3_3_4
    case hy3_3_4 =>
     intro w hSw
     have c0 := (hSw.1.1.1.1.1.1.1.1.1.1.1.1.1.1.1.1.1.1.2).col (o := 12) (j := 3) (i := 0) (v := .bool (h1 k 3).s) (by decide) (by decide) rfl rfl
     have c1 := (hSw.1.1.1.1.1.1.1.1.1.1.1.1.1.1.1.1.1.1.2).col (o := 13) (j := 3) (i := 1) (v := .slice (h1 k 3).A (h1 k 3).n (h1 k 3).c) (by decide) (by decide) rfl rfl
     have c2 := (hSw.1.1.1.1.1.1.1.1.1.1.1.1.1.1.1.1.1.1.2).col (o := 14) (j := 3) (i := 2) (v := .bool (h1 k 3).t) (by decide) (by decide) rfl rfl
     have c3 := (hSw.1.1.1.1.1.1.1.1.1.1.1.1.1.1.1.1.1.1.2).col (o := 15) (j := 3) (i := 3) (v := .slice (h1 k 3).B (h1 k 3).m (h1 k 3).d) (by decide) (by decide) rfl rfl
     clear hSw
     first | (go_simp; done) | (go_simp; with_reducible rfl)
    try simp only [PL]
    refine wpAnyH_take (i := 4) (v := ?v3_4_5) rfl (by kernel_rfl) (by kernel_rfl) (by kernel_rfl) (fun _ _ _ h => h) (Or.inl ⟨by rfl, ?hy3_4_5⟩) (by assumption) ?rest3_4_5
    case hy3_4_5 =>
     intro w hSw
     clear hSw
     first | (go_simp; done) | (go_simp; with_reducible rfl)
    try simp only [PL]
    refine wpAnyH_take (i := 5) (v := ?v3_5_6) rfl (by kernel_rfl) (by kernel_rfl) (by kernel_rfl) (fun _ _ _ h => h) (Or.inl ⟨by rfl, ?hy3_5_6⟩) (by assumption) ?rest3_5_6
    case hy3_5_6 =>
     intro w hSw
     have c0 := (hSw.1.1.1.1.1.1.1.1.1.1.1.1.1.1.1.1.1.1.1.1.2).col (o := 16) (j := 4) (i := 0) (v := .bool (hn 4).s) (by decide) (by decide) rfl rfl
     have c1 := (hSw.1.1.1.1.1.1.1.1.1.1.1.1.1.1.1.1.1.1.1.1.2).col (o := 17) (j := 4) (i := 1) (v := .slice (hn 4).A (hn 4).n (hn 4).c) (by decide) (by decide) rfl rfl
     have c2 := (hSw.1.1.1.1.1.1.1.1.1.1.1.1.1.1.1.1.1.1.1.1.2).col (o := 18) (j := 4) (i := 2) (v := .bool (hn 4).t) (by decide) (by decide) rfl rfl
     have c3 := (hSw.1.1.1.1.1.1.1.1.1.1.1.1.1.1.1.1.1.1.1.1.2).col (o := 19) (j := 4) (i := 3) (v := .slice (hn 4).B (hn 4).m (hn 4).d) (by decide) (by decide) rfl rfl
     clear hSw
     first | (go_simp; done) | (go_simp; with_reducible rfl)
    try simp only [PL]
    refine r1 6 (fun K hK => ?_)
    go_simp
    refine hE.fr (cw_sum (ca := (h1 k 3).c) (da := (h1 k 3).d) (cb := (hn 4).c) (db := (hn 4).d) (hE.h11) (hE.h8) Hlc3.out Hln4.out (by rw [← He_s3.out]; exact Hlc4.out)) ?_
    clear hE
    intro ssm3 Asm3 nsm3 csm3 tsm3 Bsm3 msm3 dsm3 w64 hE
    go_wp2_with fail
    refine hK.out _ _ (hE.here.1) (fun hHeld => ?_)
    clear hK K
    try simp only [PL]
    refine r1 7 (fun K hK => ?_)
    go_simp
    refine hE.br (cw_equal (v := true) (ca := (h1 k 4).c) (da := (h1 k 4).d) (cb := csm3) (db := dsm3) (hE.h10) (hE.here.2) Hlc4.out (by rw [← He_s3.out]; exact Hlc4.out) (decide_eq_true He_s3.out)) ?_
    clear hE
    intro w65 hE
    go_wp2_with fail
    refine hK.out _ _ (hE.here.1) (fun hHeld => ?_)
    clear hK K
    try simp only [PL]
    refine wpAnyH_take (i := 8) (v := ?v3_8_7) rfl (by kernel_rfl) (by kernel_rfl) (by kernel_rfl) (fun _ _ _ h => h) (Or.inl ⟨by rfl, ?hy3_8_7⟩) (by assumption) ?rest3_8_7
    case hy3_8_7 =>
     intro w hSw
     clear hSw
     first | (go_simp; done) | (go_simp; with_reducible rfl)
    try simp only [PL]
    refine wpAnyH_take (i := 9) (v := ?v3_9_8) rfl (by kernel_rfl) (by kernel_rfl) (by kernel_rfl) (fun _ _ _ h => h) (Or.inl ⟨by rfl, ?hy3_9_8⟩) (by assumption) ?rest3_9_8
    case hy3_9_8 =>
     intro w hSw
     clear hSw
     first | (go_simp; done) | (go_simp; with_reducible rfl)
    try simp only [PL]
    refine wpAnyH_take (i := 10) (v := ?v3_10_9) rfl (by kernel_rfl) (by kernel_rfl) (by kernel_rfl) (fun _ _ _ h => h) (Or.inl ⟨by rfl, ?hy3_10_9⟩) (by assumption) ?rest3_10_9
    case hy3_10_9 =>
     intro w hSw
     clear hSw
     first | (go_simp; done) | (go_simp; with_reducible rfl)
    try simp only [PL]
    refine wpAnyH_take (i := 11) (v := ?v3_11_10) rfl (by kernel_rfl) (by kernel_rfl) (by kernel_rfl) (fun _ _ _ h => h) (Or.inl ⟨by rfl, ?hy3_11_10⟩) (by assumption) ?rest3_11_10
    case hy3_11_10 =>
     intro w hSw
     have c0 := (hSw.1.1.1.1.1.1.1.1.1.1.1.1.1.1.1.1.1.1.2).col (o := 20) (j := 5) (i := 0) (v := .bool (h1 k 5).s) (by decide) (by decide) rfl rfl
     have c1 := (hSw.1.1.1.1.1.1.1.1.1.1.1.1.1.1.1.1.1.1.2).col (o := 21) (j := 5) (i := 1) (v := .slice (h1 k 5).A (h1 k 5).n (h1 k 5).c) (by decide) (by decide) rfl rfl
     have c2 := (hSw.1.1.1.1.1.1.1.1.1.1.1.1.1.1.1.1.1.1.2).col (o := 22) (j := 5) (i := 2) (v := .bool (h1 k 5).t) (by decide) (by decide) rfl rfl
     have c3 := (hSw.1.1.1.1.1.1.1.1.1.1.1.1.1.1.1.1.1.1.2).col (o := 23) (j := 5) (i := 3) (v := .slice (h1 k 5).B (h1 k 5).m (h1 k 5).d) (by decide) (by decide) rfl rfl
     clear hSw
     first | (go_simp; done) | (go_simp; with_reducible rfl)
    try simp only [PL]
    refine wpAnyH_take (i := 12) (v := ?v3_12_11) rfl (by kernel_rfl) (by kernel_rfl) (by kernel_rfl) (fun _ _ _ h => h) (Or.inl ⟨by rfl, ?hy3_12_11⟩) (by assumption) ?rest3_12_11
    case hy3_12_11 =>
     intro w hSw
     clear hSw
     first | (go_simp; done) | (go_simp; with_reducible rfl)
    try simp only [PL]
    refine wpAnyH_take (i := 13) (v := ?v3_13_12) rfl (by kernel_rfl) (by kernel_rfl) (by kernel_rfl) (fun _ _ _ h => h) (Or.inl ⟨by rfl, ?hy3_13_12⟩) (by assumption) ?rest3_13_12
    case hy3_13_12 =>
     intro w hSw
     have c0 := (hSw.1.1.1.1.1.1.1.1.1.1.1.1.1.1.1.1.1.1.2).col (o := 16) (j := 4) (i := 0) (v := .bool (h1 k 4).s) (by decide) (by decide) rfl rfl
     have c1 := (hSw.1.1.1.1.1.1.1.1.1.1.1.1.1.1.1.1.1.1.2).col (o := 17) (j := 4) (i := 1) (v := .slice (h1 k 4).A (h1 k 4).n (h1 k 4).c) (by decide) (by decide) rfl rfl
     have c2 := (hSw.1.1.1.1.1.1.1.1.1.1.1.1.1.1.1.1.1.1.2).col (o := 18) (j := 4) (i := 2) (v := .bool (h1 k 4).t) (by decide) (by decide) rfl rfl
     have c3 := (hSw.1.1.1.1.1.1.1.1.1.1.1.1.1.1.1.1.1.1.2).col (o := 19) (j := 4) (i := 3) (v := .slice (h1 k 4).B (h1 k 4).m (h1 k 4).d) (by decide) (by decide) rfl rfl
     clear hSw
     first | (go_simp; done) | (go_simp; with_reducible rfl)
    try simp only [PL]
    refine wpAnyH_take (i := 14) (v := ?v3_14_13) rfl (by kernel_rfl) (by kernel_rfl) (by kernel_rfl) (fun _ _ _ h => h) (Or.inl ⟨by rfl, ?hy3_14_13⟩) (by assumption) ?rest3_14_13
    case hy3_14_13 =>
     intro w hSw
     clear hSw
     first | (go_simp; done) | (go_simp; with_reducible rfl)
    try simp only [PL]
    refine wpAnyH_take (i := 15) (v := ?v3_15_14) rfl (by kernel_rfl) (by kernel_rfl) (by kernel_rfl) (fun _ _ _ h => h) (Or.inl ⟨by rfl, ?hy3_15_14⟩) (by assumption) ?rest3_15_14
    case hy3_15_14 =>
     intro w hSw
     have c0 := (hSw.1.1.1.1.1.1.1.1.1.1.1.1.1.1.1.1.1.1.1.1.2).col (o := 20) (j := 5) (i := 0) (v := .bool (hn 5).s) (by decide) (by decide) rfl rfl
     have c1 := (hSw.1.1.1.1.1.1.1.1.1.1.1.1.1.1.1.1.1.1.1.1.2).col (o := 21) (j := 5) (i := 1) (v := .slice (hn 5).A (hn 5).n (hn 5).c) (by decide) (by decide) rfl rfl
     have c2 := (hSw.1.1.1.1.1.1.1.1.1.1.1.1.1.1.1.1.1.1.1.1.2).col (o := 22) (j := 5) (i := 2) (v := .bool (hn 5).t) (by decide) (by decide) rfl rfl
     have c3 := (hSw.1.1.1.1.1.1.1.1.1.1.1.1.1.1.1.1.1.1.1.1.2).col (o := 23) (j := 5) (i := 3) (v := .slice (hn 5).B (hn 5).m (hn 5).d) (by decide) (by decide) rfl rfl
     clear hSw
     first | (go_simp; done) | (go_simp; with_reducible rfl)
    try simp only [PL]
    refine r1 16 (fun K hK => ?_)
    go_simp
    refine hE.fr (cw_sum (ca := (h1 k 4).c) (da := (h1 k 4).d) (cb := (hn 5).c) (db := (hn 5).d) (hE.h10) (hE.h7) Hlc4.out Hln5.out (by rw [← He_s4.out]; exact Hlc5.out)) ?_
    clear hE
    intro ssm4 Asm4 nsm4 csm4 tsm4 Bsm4 msm4 dsm4 w66 hE
    go_wp2_with fail
    refine hK.out _ _ (hE.here.1.1) (fun hHeld => ?_)
    clear hK K
    try simp only [PL]
    refine r1 17 (fun K hK => ?_)
    go_simp
    refine hE.br (cw_equal (v := true) (ca := (h1 k 5).c) (da := (h1 k 5).d) (cb := csm4) (db := dsm4) (hE.h9) (hE.here.2) Hlc5.out (by rw [← He_s4.out]; exact Hlc5.out) (decide_eq_true He_s4.out)) ?_
    clear hE
    intro w67 hE
    go_wp2_with fail
    refine hK.out _ _ (hE.here.1.1) (fun hHeld => ?_)
    clear hK K
    try simp only [PL]
    refine wpAnyH_take (i := 18) (v := ?v3_18_15) rfl (by kernel_rfl) (by kernel_rfl) (by kernel_rfl) (fun _ _ _ h => h) (Or.inl ⟨by rfl, ?hy3_18_15⟩) (by assumption) ?rest3_18_15
    case hy3_18_15 =>
     intro w hSw
     clear hSw
     first | (go_simp; done) | (go_simp; with_reducible rfl)
    try simp only [PL]
    refine wpAnyH_take (i := 19) (v := ?v3_19_16) rfl (by kernel_rfl) (by kernel_rfl) (by kernel_rfl) (fun _ _ _ h => h) (Or.inl ⟨by rfl, ?hy3_19_16⟩) (by assumption) ?rest3_19_16
    case hy3_19_16 =>
     intro w hSw
     clear hSw
     first | (go_simp; done) | (go_simp; with_reducible rfl)
    try simp only [PL]
    refine wpAnyH_take (i := 20) (v := ?v3_20_17) rfl (by kernel_rfl) (by kernel_rfl) (by kernel_rfl) (fun _ _ _ h => h) (Or.inl ⟨by rfl, ?hy3_20_17⟩) (by assumption) ?rest3_20_17
    case hy3_20_17 =>
     intro w hSw
     clear hSw
     first | (go_simp; done) | (go_simp; with_reducible rfl)
    try simp only [PL]
    refine wpAnyH_take (i := 21) (v := ?v3_21_18) rfl (by kernel_rfl) (by kernel_rfl) (by kernel_rfl) (fun _ _ _ h => h) (Or.inl ⟨by rfl, ?hy3_21_18⟩) (by assumption) ?rest3_21_18
    case hy3_21_18 =>
     intro w hSw
     clear hSw
     first | (go_simp; done) | (go_simp; with_reducible rfl)
    try simp only [PL]
    refine wpAnyH_take (i := 22) (v := ?v3_22_19) rfl (by kernel_rfl) (by kernel_rfl) (by kernel_rfl) (fun _ _ _ h => h) (Or.inl ⟨by rfl, ?hy3_22_19⟩) (by assumption) ?rest3_22_19
    case hy3_22_19 =>
     intro w hSw
     have c0 := (hSw.1.1.1.1.1.1.1.1.1.1.1.1.1.1.1.1.1.1.2).col (o := 12) (j := 3) (i := 0) (v := .bool (h1 k 3).s) (by decide) (by decide) rfl rfl
     have c1 := (hSw.1.1.1.1.1.1.1.1.1.1.1.1.1.1.1.1.1.1.2).col (o := 13) (j := 3) (i := 1) (v := .slice (h1 k 3).A (h1 k 3).n (h1 k 3).c) (by decide) (by decide) rfl rfl
     have c2 := (hSw.1.1.1.1.1.1.1.1.1.1.1.1.1.1.1.1.1.1.2).col (o := 14) (j := 3) (i := 2) (v := .bool (h1 k 3).t) (by decide) (by decide) rfl rfl
     have c3 := (hSw.1.1.1.1.1.1.1.1.1.1.1.1.1.1.1.1.1.1.2).col (o := 15) (j := 3) (i := 3) (v := .slice (h1 k 3).B (h1 k 3).m (h1 k 3).d) (by decide) (by decide) rfl rfl
     clear hSw
     first | (go_simp; done) | (go_simp; with_reducible rfl)
    try simp only [PL]
    refine wpAnyH_take (i := 23) (v := ?v3_23_20) rfl (by kernel_rfl) (by kernel_rfl) (by kernel_rfl) (fun _ _ _ h => h) (Or.inl ⟨by rfl, ?hy3_23_20⟩) (by assumption) ?rest3_23_20
    case hy3_23_20 =>
     intro w hSw
     obtain ⟨c0, c1, c2, c3⟩ := (hSw.1.1.1.1.1.1.1.1.1.1.1.1.1.1.1.1.1.1.1.1.1.1.1.2).c4
     clear hSw
     first | (go_simp; done) | (go_simp; with_reducible rfl)
    try simp only [PL]
    refine wpAnyH_take (i := 24) (v := ?v3_24_21) rfl (by kernel_rfl) (by kernel_rfl) (by kernel_rfl) (fun _ _ _ h => h) (Or.inl ⟨by rfl, ?hy3_24_21⟩) (by assumption) ?rest3_24_21
    case hy3_24_21 =>
     intro w hSw
     clear hSw
     first | (go_simp; done) | (go_simp; with_reducible rfl)
    try simp only [PL]
    refine wpAnyH_take (i := 25) (v := ?v3_25_22) rfl (by kernel_rfl) (by kernel_rfl) (by kernel_rfl) (fun _ _ _ h => h) (Or.inl ⟨by rfl, ?hy3_25_22⟩) (by assumption) ?rest3_25_22
    case hy3_25_22 =>
     intro w hSw
     have c0 := (hSw.1.1.1.1.1.1.1.1.1.1.1.1.1.1.1.1.1.1.2).col (o := 0) (j := 0) (i := 0) (v := .bool (h1 k 0).s) (by decide) (by decide) rfl rfl
     have c1 := (hSw.1.1.1.1.1.1.1.1.1.1.1.1.1.1.1.1.1.1.2).col (o := 1) (j := 0) (i := 1) (v := .slice (h1 k 0).A (h1 k 0).n (h1 k 0).c) (by decide) (by decide) rfl rfl
     have c2 := (hSw.1.1.1.1.1.1.1.1.1.1.1.1.1.1.1.1.1.1.2).col (o := 2) (j := 0) (i := 2) (v := .bool (h1 k 0).t) (by decide) (by decide) rfl rfl
     have c3 := (hSw.1.1.1.1.1.1.1.1.1.1.1.1.1.1.1.1.1.1.2).col (o := 3) (j := 0) (i := 3) (v := .slice (h1 k 0).B (h1 k 0).m (h1 k 0).d) (by decide) (by decide) rfl rfl
     clear hSw
     first | (go_simp; done) | (go_simp; with_reducible rfl)
    try simp only [PL]
    refine wpAnyH_take (i := 27) (v := ?v3_27_23) rfl (by kernel_rfl) (by kernel_rfl) (by kernel_rfl) (fun _ _ _ h => h) (Or.inl ⟨by rfl, ?hy3_27_23⟩) (by assumption) ?rest3_27_23
    case hy3_27_23 =>
     intro w hSw
     clear hSw
     first | (go_simp; done) | (go_simp; with_reducible rfl)
    try simp only [PL]
    refine wpAnyH_take (i := 28) (v := ?v3_28_24) rfl (by kernel_rfl) (by kernel_rfl) (by kernel_rfl) (fun _ _ _ h => h) (Or.inl ⟨by rfl, ?hy3_28_24⟩) (by assumption) ?rest3_28_24
    case hy3_28_24 =>
     intro w hSw
     have c0 := (hSw.1.1.1.1.1.1.1.1.1.1.1.1.1.1.1.1.1.1.1.1.2).col (o := 0) (j := 0) (i := 0) (v := .bool (hn 0).s) (by decide) (by decide) rfl rfl
     have c1 := (hSw.1.1.1.1.1.1.1.1.1.1.1.1.1.1.1.1.1.1.1.1.2).col (o := 1) (j := 0) (i := 1) (v := .slice (hn 0).A (hn 0).n (hn 0).c) (by decide) (by decide) rfl rfl
     have c2 := (hSw.1.1.1.1.1.1.1.1.1.1.1.1.1.1.1.1.1.1.1.1.2).col (o := 2) (j := 0) (i := 2) (v := .bool (hn 0).t) (by decide) (by decide) rfl rfl
     have c3 := (hSw.1.1.1.1.1.1.1.1.1.1.1.1.1.1.1.1.1.1.1.1.2).col (o := 3) (j := 0) (i := 3) (v := .slice (hn 0).B (hn 0).m (hn 0).d) (by decide) (by decide) rfl rfl
     clear hSw
     first | (go_simp; done) | (go_simp; with_reducible rfl)
    try simp only [PL]
    refine r1 26 (fun K hK => ?_)
    go_simp
    refine hE.fr (cw_product (ca := cu) (da := du) (cb := (h1 k 0).c) (db := (h1 k 0).d) (hE.h26) (hE.h19) (Hhdis.out.ql.l (by decide) (by decide) (by decide)) Hlc0.out Hln_v.out) ?_
    clear hE
    intro spc Apc npc cpc tpc Bpc mpc dpc w68 hE
    go_wp2_with fail
    refine hK.out _ _ (hE.here.1.1.1) (fun hHeld => ?_)
    clear hK K
    try simp only [PL]
    refine r1 29 (fun K hK => ?_)
    go_simp
    refine hE.fr (cw_less (ca := cpc) (da := dpc) (cb := (hn 0).c) (db := (hn 0).d) (hE.here.2) (hE.h19) Hln_v.out Hln0.out (by rw [← He_c.out]; exact Hlc3.out)) ?_
    clear hE
    intro slc Alc nlc clc tlc Blc mlc dlc w69 hE
    go_wp2_with fail
    refine hK.out _ _ (hE.here.1.1.1.1) (fun hHeld => ?_)
    clear hK K
    try simp only [PL]
    refine r1 30 (fun K hK => ?_)
    go_simp
    refine hE.br (cw_equal (v := true) (ca := (h1 k 3).c) (da := (h1 k 3).d) (cb := clc) (db := dlc) (hE.h15) (hE.here.2) Hlc3.out (by rw [← He_c.out]; exact Hlc3.out) (decide_eq_true He_c.out)) ?_
    clear hE
    intro w70 hE
    go_wp2_with fail
    refine hK.out _ _ (hE.here.1.1.1.1) (fun hHeld => ?_)
    clear hK K
    try simp only [PL]
    refine wpAnyH_take (i := 31) (v := ?v3_31_25) rfl (by kernel_rfl) (by kernel_rfl) (by kernel_rfl) (fun _ _ _ h => h) (Or.inl ⟨by rfl, ?hy3_31_25⟩) (by assumption) ?rest3_31_25
    case hy3_31_25 =>
     intro w hSw
     clear hSw
     first | (go_simp; done) | (go_simp; with_reducible rfl)
    try simp only [PL]
    refine wpAnyH_take (i := 32) (v := ?v3_32_26) rfl (by kernel_rfl) (by kernel_rfl) (by kernel_rfl) (fun _ _ _ h => h) (Or.inl ⟨by rfl, ?hy3_32_26⟩) (by assumption) ?rest3_32_26
    case hy3_32_26 =>
     intro w hSw
     clear hSw
     first | (go_simp; done) | (go_simp; with_reducible rfl)
    try simp only [PL]
    refine wpAnyH_done (by kernel_rfl) ?_ _
    go_upto_region 20 with (fail)
    have hld := col_get (hE.h22)
    obtain ⟨V2, hst, hbel2, hbx, hkeep⟩ := col_put (x := h1 k) hE.bel hx_w (hE.h24)
    have hcqN := hkeep (fun V => ColQ h1 N (fun _ _ => True) (colq v f N) V) (fun U cs h hB hn i a => ColQ.sep1 h hB hn i a) (hE.h29)
    replace hE := (((((((((Env.again hbel2).colp (hkeep (fun V => ColB g1 N cap1 h1 V) (fun U cs h hB hn i a => ColP.far h (p := ⟨gx, i, none⟩) (show g1 ≠ gx by omega) a) (hE.h30))).colq hcqN).fv (hkeep (fun V => FV V v su Au nu tu Bu mu) (fun U cs h hB hn i a => h.sep hB hn a) (hE.h28))).blkI (hkeep (fun V => Blk 29 (g31) #[.bool su, .slice Au nu cu, .bool tu, .slice Bu mu du] V) (fun U cs h hB hn i a => h.far (p := ⟨gx, i, none⟩) (show g31 ≠ gx by omega) a) (hE.h27))).fv (hkeep (fun V => FV V (1 - v) se Ae ne te Be me) (fun U cs h hB hn i a => h.sep hB hn a) (hE.h26))).blkI (hkeep (fun V => Blk 29 (g45) #[.bool se, .slice Ae ne ce, .bool te, .slice Be me de] V) (fun U cs h hB hn i a => h.far (p := ⟨gx, i, none⟩) (show g45 ≠ gx by omega) a) (hE.h25))).blkI hbx).colq (show ColQ (fun _ => h1 k) 1 (fun _ _ => True) (fun _ j => colq v f N k j) V2 from fun _ _ j hj _ => hcqN k hk j hj trivial))
    clear hkeep hbx hbel2 hcqN
    have o3 : IntKind.i64.wrap ((k : Int) - 1) = (k : Int) - 1 := by rw [IntKind.wrap_i64]; omega
    go_upto_region 14 with (first | refine wpList_ldL hld rfl rfl rfl ?_ | refine wpList_stL hst rfl rfl rfl rfl ?_)
    clear hld hst
    go_wp2_with fail
    go_roundw
    case rel => exact ⟨k, (k : Int) - 1, h1 k, rfl, by omega, by omega, (((((((((Env.again hE.bel).colp (hE.h7)).colq (hE.h6)).fv (hE.h5)).blkI (hE.h4)).fv (hE.h3)).blkI (hE.h2)).blkI (hE.here.1.2)).colq (hE.here.2))⟩
    case measure => simp [intOf]
 ·
  have HhT := Lib.hid hT
  clear hT
  have Hhr := Lib.hid hr
  clear hr
  have HhU := Lib.hid hU
  clear hU
  have hE := ((Env.start w).blk 31 #[.int .i64 F, .int .i64 S, .slice A n c, .bool si, .slice Ai ni ci, .bool ti, .slice Bi mi di] (g := w.heap.size) rfl).blk 33 #[.int .i64 E, .int .i64 Y] (g := w.heap.size + 1) (by simp)
  obtain ⟨W0, hW0⟩ : ∃ W0, W0 = ((w.alloc (.cells #[.int .i64 F, .int .i64 S, .slice A n c, .bool si, .slice Ai ni ci, .bool ti, .slice Bi mi di] 31)).alloc (.cells #[.int .i64 E, .int .i64 Y] 33)) := ⟨_, rfl⟩
  rw [← hW0] at hE
  have HW0 := Lib.hid hW0
  clear hW0
  go_enter Tryz.func5, Tryz.ntmps5
  go_upto_region 1 with (fail)
  rw [← HW0.out]
  go_wp2_with fail
  refine hE.br (awakeB_t _) ?_
  clear hE
  intro w1 hE
  go_upto_region 3 with (fail)
  obtain ⟨k2, k3, k4, k5, k6, k7, k8⟩ := (hE.here.1.2).c7
  obtain ⟨k9, k10⟩ := (hE.here.2).c2
  go_wp2_with fail
  refine hE.br (usableB_f (HhT.out.below hE.bel) (Hhr.out.below hE.bel) HhU.out) ?_
  clear hE k2 k3 k4 k5 k6 k7 k8 k9 k10
  intro w11 hE
  go_wp2_with fail
  go_ret
  exact ⟨rfl, hE.bel⟩
end Go.Proofs.YtmjlankpihnicaaGreat
