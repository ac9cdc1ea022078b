/-
  The walks of commute's Valid, plus, minus, times, discount and Discount, and of life.Rate's error.
-/
import Derived.Test.YtmjlankpihnicaaGreatK1
import Derived.Test.YtmjlankpihnicaaGreatHk
import Derived.Test.YtmjlankpihnicaaGreatComL
import Derived.Test.YtmjlankpihnicaaGreatK7
import Derived.Test.YtmjlankpihnicaaGreatCH
namespace Go.Proofs.YtmjlankpihnicaaGreat
open Go.RowKit

section
variable {t : TypeId} {g : Nat} {w : World} {a b c d e f x y z u : Value}
theorem Blk.c7 (h : Blk t g #[a, b, c, d, e, f, x] w) : w.cell? ⟨g, 0, none⟩ = some a ∧ w.cell? ⟨g, 1, none⟩ = some b ∧ w.cell? ⟨g, 2, none⟩ = some c ∧ w.cell? ⟨g, 3, none⟩ = some d ∧ w.cell? ⟨g, 4, none⟩ = some e ∧ w.cell? ⟨g, 5, none⟩ = some f ∧ w.cell? ⟨g, 6, none⟩ = some x :=
 ⟨h.cell 0, h.cell 1, h.cell 2, h.cell 3, h.cell 4, h.cell 5, h.cell 6⟩
theorem Blk.c10 (h : Blk t g #[a, b, c, d, e, f, x, y, z, u] w) : w.cell? ⟨g, 0, none⟩ = some a ∧ w.cell? ⟨g, 1, none⟩ = some b ∧ w.cell? ⟨g, 2, none⟩ = some c ∧ w.cell? ⟨g, 3, none⟩ = some d ∧ w.cell? ⟨g, 4, none⟩ = some e ∧ w.cell? ⟨g, 5, none⟩ = some f ∧ w.cell? ⟨g, 6, none⟩ = some x ∧ w.cell? ⟨g, 7, none⟩ = some y ∧ w.cell? ⟨g, 8, none⟩ = some z ∧ w.cell? ⟨g, 9, none⟩ = some u :=
 ⟨h.cell 0, h.cell 1, h.cell 2, h.cell 3, h.cell 4, h.cell 5, h.cell 6, h.cell 7, h.cell 8, h.cell 9⟩
end
/-- What commute.Valid says of the interest. -/
def intB (s : Bool) (n : Nat) (f : Nat → Nat) (t : Bool) (m : Nat) (g : Nat → Nat) : Bool := okF s n f t m g && (!s && (decide (n ≤ 1) && decide (m ≤ 1)))
/-- What commute.Valid says. -/
def BOK (F S : Int) (n : Nat) (r : Nat → RH) (si : Bool) (ni : Nat) (fi : Nat → Nat) (ti : Bool) (mi : Nat) (gi : Nat → Nat) : Prop := TOK F S n r ∧ intB si ni fi ti mi gi = true
theorem intB_rti {w : World} {s t : Bool} {A B : Option Addr} {n m : Nat} {f g : Nat → Nat} (hr : FRd w A n f B m g) (h : intB s n f t m g = true) : FV w (qOf s n f m g) s A n t B m ∧ Rti (qOf s n f m g) := by
 unfold intB at h
 simp only [Bool.and_eq_true, Bool.not_eq_true', decide_eq_true_eq] at h
 obtain ⟨h1, rfl, h3, h4⟩ := h
 obtain ⟨hv, -, -, -⟩ := okF_q hr h1
 refine ⟨hv, ?_, ?_, ?_⟩
 ·
  have := hv.1.sgn
  have := of_decide_eq_false this.symm
  exact Rat.num_nonneg.1 (by omega)
 ·
  have := hv.1.len
  simpa using (ln_le b16_two).1 (show ln b16 (qOf false n f m g).num.natAbs ≤ 1 by omega)
 ·
  have := hv.2.len
  rw [Int.natAbs_natCast] at this
  simpa using (ln_le b16_two).1 (show ln b16 (qOf false n f m g).den ≤ 1 by omega)
set_option linter.unusedSimpArgs false in
set_option maxRecDepth 100000 in
set_option maxHeartbeats 2000000 in
theorem cplus_v {a b : Rat} {sa ta sb tb : Bool} {Aa Ba Ab Bb : Option Addr} {na ca ma da nb cb mb db : Nat} {w : World} (ha : FV w a sa Aa na ta Ba ma) (hb : FV w b sb Ab nb tb Bb mb) (la : fl a ≤ 256) (lb : fl b ≤ 256) (lr : fl (a + b) ≤ 256) :
  Calls Tryz.prog 92 #[.agg #[.bool sa, .slice Aa na ca, .bool ta, .slice Ba ma da], .agg #[.bool sb, .slice Ab nb cb, .bool tb, .slice Bb mb db]] w (FR (a + b) w) := by
 have hE := ((((Env.start w).fv ha).fv hb).blk 29 #[.bool sa, .slice Aa na ca, .bool ta, .slice Ba ma da] (g := w.heap.size) rfl).blk 29 #[.bool sb, .slice Ab nb cb, .bool tb, .slice Bb mb db] (g := w.heap.size + 1) (by simp)
 have hE := hE.blk 29 #[.bool false, .slice none 0 0, .bool false, .slice none 0 0] (g := w.heap.size + 1 + 1) (by simp)
 obtain ⟨W0, hW0⟩ : ∃ W0, W0 = (((w.alloc (.cells #[.bool sa, .slice Aa na ca, .bool ta, .slice Ba ma da] 29)).alloc (.cells #[.bool sb, .slice Ab nb cb, .bool tb, .slice Bb mb db] 29)).alloc (.cells #[.bool false, .slice none 0 0, .bool false, .slice none 0 0] 29)) := ⟨_, rfl⟩
 rw [← hW0] at hE
 have HW0 := Lib.hid hW0
 clear hW0
 go_enter Tryz.func92, Tryz.ntmps92
 go_upto_region 1 with (fail)
 rw [← HW0.out]
 obtain ⟨k1, k2, k3, k4⟩ := (hE.h2).c4
 obtain ⟨k5, k6, k7, k8⟩ := (hE.here.1.2).c4
 go_wp2_with fail
 refine hE.fr (fadd_v (ca := ca) (da := da) (cb := cb) (db := db) hE.h4 hE.h3 la lb lr) ?_
 clear hE k1 k2 k3 k4 k5 k6 k7 k8
 intro sr Ar nr cr tr Br mr dr w9 hE
 go_upto_region 2 with (fail)
 obtain ⟨g10, hg10⟩ : ∃ g10, g10 = w9.heap.size := ⟨_, rfl⟩
 have hl10_2 : w.heap.size < g10 := by rw [hg10]; exact (hE.h3).lt
 have hl10_3 : w.heap.size + 1 < g10 := by rw [hg10]; exact (hE.h2).lt
 have hl10_4 : w.heap.size + 1 + 1 < g10 := by rw [hg10]; exact (hE.here.1.2).lt
 replace hE := hE.blk 29 #[.bool sr, .slice Ar nr cr, .bool tr, .slice Br mr dr] (g := g10) hg10.symm
 generalize w9.alloc (.cells #[.bool sr, .slice Ar nr cr, .bool tr, .slice Br mr dr] 29) = W10 at hE ⊢
 rw [← hg10]
 clear hg10
 obtain ⟨k11, k12, k13, k14⟩ := (hE.here.2).c4
 have hRl : w.heap.size ≤ w.heap.size + 1 + 1 := by omega
 obtain ⟨WW, hWW, hB, hV, hBel⟩ := ret_frac hE hE.h2 hRl hE.here.1.2 cr dr
 obtain ⟨x0, x1, x2, x3⟩ := (hE.h2).c4
 obtain ⟨fz0, fz1, fz2, fz3⟩ := hE.h2.f4
 have HWW := Lib.hid hWW
 clear hWW
 go_wp2_with fail
 clear k11 k12 k13 k14
 rw [← HWW.out]
 obtain ⟨y0, y1, y2, y3⟩ := hB.c4
 refine bodyPost_ret (v := .agg #[.bool sr, .slice Ar nr cr, .bool tr, .slice Br mr dr]) (by simp [results, Tryz.results92, go_sem, y0, y1, y2, y3]) rfl ?_
 exact ⟨sr, Ar, nr, cr, tr, Br, mr, dr, rfl, hV, hBel⟩
set_option linter.unusedSimpArgs false in
set_option maxRecDepth 100000 in
set_option maxHeartbeats 2000000 in
theorem cminus_v {a b : Rat} {sa ta sb tb : Bool} {Aa Ba Ab Bb : Option Addr} {na ca ma da nb cb mb db : Nat} {w : World} (ha : FV w a sa Aa na ta Ba ma) (hb : FV w b sb Ab nb tb Bb mb) (la : fl a ≤ 256) (lb : fl b ≤ 256) (lr : fl (a - b) ≤ 256) :
  Calls Tryz.prog 91 #[.agg #[.bool sa, .slice Aa na ca, .bool ta, .slice Ba ma da], .agg #[.bool sb, .slice Ab nb cb, .bool tb, .slice Bb mb db]] w (FR (a - b) w) := by
 have hE := ((((Env.start w).fv ha).fv hb).blk 29 #[.bool sa, .slice Aa na ca, .bool ta, .slice Ba ma da] (g := w.heap.size) rfl).blk 29 #[.bool sb, .slice Ab nb cb, .bool tb, .slice Bb mb db] (g := w.heap.size + 1) (by simp)
 have hE := hE.blk 29 #[.bool false, .slice none 0 0, .bool false, .slice none 0 0] (g := w.heap.size + 1 + 1) (by simp)
 obtain ⟨W0, hW0⟩ : ∃ W0, W0 = (((w.alloc (.cells #[.bool sa, .slice Aa na ca, .bool ta, .slice Ba ma da] 29)).alloc (.cells #[.bool sb, .slice Ab nb cb, .bool tb, .slice Bb mb db] 29)).alloc (.cells #[.bool false, .slice none 0 0, .bool false, .slice none 0 0] 29)) := ⟨_, rfl⟩
 rw [← hW0] at hE
 have HW0 := Lib.hid hW0
 clear hW0
 go_enter Tryz.func91, Tryz.ntmps91
 go_upto_region 1 with (fail)
 rw [← HW0.out]
 obtain ⟨k1, k2, k3, k4⟩ := (hE.h2).c4
 obtain ⟨k5, k6, k7, k8⟩ := (hE.here.1.2).c4
 go_wp2_with fail
 refine hE.fr (fsub_v (ca := ca) (da := da) (cb := cb) (db := db) hE.h4 hE.h3 la lb lr) ?_
 clear hE k1 k2 k3 k4 k5 k6 k7 k8
 intro sr Ar nr cr tr Br mr dr w9 hE
 go_upto_region 2 with (fail)
 obtain ⟨g10, hg10⟩ : ∃ g10, g10 = w9.heap.size := ⟨_, rfl⟩
 have hl10_2 : w.heap.size < g10 := by rw [hg10]; exact (hE.h3).lt
 have hl10_3 : w.heap.size + 1 < g10 := by rw [hg10]; exact (hE.h2).lt
 have hl10_4 : w.heap.size + 1 + 1 < g10 := by rw [hg10]; exact (hE.here.1.2).lt
 replace hE := hE.blk 29 #[.bool sr, .slice Ar nr cr, .bool tr, .slice Br mr dr] (g := g10) hg10.symm
 generalize w9.alloc (.cells #[.bool sr, .slice Ar nr cr, .bool tr, .slice Br mr dr] 29) = W10 at hE ⊢
 rw [← hg10]
 clear hg10
 obtain ⟨k11, k12, k13, k14⟩ := (hE.here.2).c4
 have hRl : w.heap.size ≤ w.heap.size + 1 + 1 := by omega
 obtain ⟨WW, hWW, hB, hV, hBel⟩ := ret_frac hE hE.h2 hRl hE.here.1.2 cr dr
 obtain ⟨x0, x1, x2, x3⟩ := (hE.h2).c4
 obtain ⟨fz0, fz1, fz2, fz3⟩ := hE.h2.f4
 have HWW := Lib.hid hWW
 clear hWW
 go_wp2_with fail
 clear k11 k12 k13 k14
 rw [← HWW.out]
 obtain ⟨y0, y1, y2, y3⟩ := hB.c4
 refine bodyPost_ret (v := .agg #[.bool sr, .slice Ar nr cr, .bool tr, .slice Br mr dr]) (by simp [results, Tryz.results91, go_sem, y0, y1, y2, y3]) rfl ?_
 exact ⟨sr, Ar, nr, cr, tr, Br, mr, dr, rfl, hV, hBel⟩
set_option linter.unusedSimpArgs false in
set_option maxRecDepth 100000 in
set_option maxHeartbeats 2000000 in
theorem ctimes_v {a b : Rat} {sa ta sb tb : Bool} {Aa Ba Ab Bb : Option Addr} {na ca ma da nb cb mb db : Nat} {w : World} (ha : FV w a sa Aa na ta Ba ma) (hb : FV w b sb Ab nb tb Bb mb) (la : fl a ≤ 256) (lb : fl b ≤ 256) (lr : fl (a * b) ≤ 256) :
  Calls Tryz.prog 64 #[.agg #[.bool sa, .slice Aa na ca, .bool ta, .slice Ba ma da], .agg #[.bool sb, .slice Ab nb cb, .bool tb, .slice Bb mb db]] w (FR (a * b) w) := by
 have hE := ((((Env.start w).fv ha).fv hb).blk 29 #[.bool sa, .slice Aa na ca, .bool ta, .slice Ba ma da] (g := w.heap.size) rfl).blk 29 #[.bool sb, .slice Ab nb cb, .bool tb, .slice Bb mb db] (g := w.heap.size + 1) (by simp)
 have hE := hE.blk 29 #[.bool false, .slice none 0 0, .bool false, .slice none 0 0] (g := w.heap.size + 1 + 1) (by simp)
 obtain ⟨W0, hW0⟩ : ∃ W0, W0 = (((w.alloc (.cells #[.bool sa, .slice Aa na ca, .bool ta, .slice Ba ma da] 29)).alloc (.cells #[.bool sb, .slice Ab nb cb, .bool tb, .slice Bb mb db] 29)).alloc (.cells #[.bool false, .slice none 0 0, .bool false, .slice none 0 0] 29)) := ⟨_, rfl⟩
 rw [← hW0] at hE
 have HW0 := Lib.hid hW0
 clear hW0
 go_enter Tryz.func64, Tryz.ntmps64
 go_upto_region 1 with (fail)
 rw [← HW0.out]
 obtain ⟨k1, k2, k3, k4⟩ := (hE.h2).c4
 obtain ⟨k5, k6, k7, k8⟩ := (hE.here.1.2).c4
 go_wp2_with fail
 refine hE.fr (fmul_v (ca := ca) (da := da) (cb := cb) (db := db) hE.h4 hE.h3 la lb lr) ?_
 clear hE k1 k2 k3 k4 k5 k6 k7 k8
 intro sr Ar nr cr tr Br mr dr w9 hE
 go_upto_region 2 with (fail)
 obtain ⟨g10, hg10⟩ : ∃ g10, g10 = w9.heap.size := ⟨_, rfl⟩
 have hl10_2 : w.heap.size < g10 := by rw [hg10]; exact (hE.h3).lt
 have hl10_3 : w.heap.size + 1 < g10 := by rw [hg10]; exact (hE.h2).lt
 have hl10_4 : w.heap.size + 1 + 1 < g10 := by rw [hg10]; exact (hE.here.1.2).lt
 replace hE := hE.blk 29 #[.bool sr, .slice Ar nr cr, .bool tr, .slice Br mr dr] (g := g10) hg10.symm
 generalize w9.alloc (.cells #[.bool sr, .slice Ar nr cr, .bool tr, .slice Br mr dr] 29) = W10 at hE ⊢
 rw [← hg10]
 clear hg10
 obtain ⟨k11, k12, k13, k14⟩ := (hE.here.2).c4
 have hRl : w.heap.size ≤ w.heap.size + 1 + 1 := by omega
 obtain ⟨WW, hWW, hB, hV, hBel⟩ := ret_frac hE hE.h2 hRl hE.here.1.2 cr dr
 obtain ⟨x0, x1, x2, x3⟩ := (hE.h2).c4
 obtain ⟨fz0, fz1, fz2, fz3⟩ := hE.h2.f4
 have HWW := Lib.hid hWW
 clear hWW
 go_wp2_with fail
 clear k11 k12 k13 k14
 rw [← HWW.out]
 obtain ⟨y0, y1, y2, y3⟩ := hB.c4
 refine bodyPost_ret (v := .agg #[.bool sr, .slice Ar nr cr, .bool tr, .slice Br mr dr]) (by simp [results, Tryz.results64, go_sem, y0, y1, y2, y3]) rfl ?_
 exact ⟨sr, Ar, nr, cr, tr, Br, mr, dr, rfl, hV, hBel⟩
set_option linter.unusedSimpArgs false in
set_option maxRecDepth 100000 in
set_option maxHeartbeats 4000000 in
theorem cvalid_any (F S : Int) (A : Option Addr) (n c : Nat) (r : Nat → RH) (si ti : Bool) (Ai Bi : Option Addr) (ni mi ci di : Nat) (fi gi : Nat → Nat) (w : World) (hT : TabM w A n r) (hB : TabB n r) (hr : FRd w Ai ni fi Bi mi gi) (hn : ni ≤ 1000000) (hm : mi ≤ 1000000) :
  Calls Tryz.prog 15 #[.agg #[.int .i64 F, .int .i64 S, .slice A n c, .bool si, .slice Ai ni ci, .bool ti, .slice Bi mi di]] w (BoolIff (BOK F S n r si ni fi ti mi gi) w) := by
 by_cases hok : TOK F S n r
 ·
  cases hv : okF si ni fi ti mi gi with
  | false =>
   have HN : Hid (¬ BOK F S n r si ni fi ti mi gi) := Lib.hid (fun h => by have h2 := h.2; unfold intB at h2; rw [hv] at h2; simp at h2)
   have hE := ((Env.start w).tab hT).blk 31 #[.int .i64 F, .int .i64 S, .slice A n c, .bool si, .slice Ai ni ci, .bool ti, .slice Bi mi di] (g := w.heap.size) rfl
   obtain ⟨W0, hW0⟩ : ∃ W0, W0 = (w.alloc (.cells #[.int .i64 F, .int .i64 S, .slice A n c, .bool si, .slice Ai ni ci, .bool ti, .slice Bi mi di] 31)) := ⟨_, rfl⟩
   rw [← hW0] at hE
   have HW0 := Lib.hid hW0
   clear hW0
   go_enter Tryz.func15, Tryz.ntmps15
   go_upto_region 1 with (fail)
   rw [← HW0.out]
   obtain ⟨k1, k2, k3, k4, k5, k6, k7⟩ := (hE.here.2).c7
   go_upto_region 2 with (fail)
   clear k1 k2 k3 k4 k5 k6 k7
   obtain ⟨g8, hg8⟩ : ∃ g8, g8 = W0.heap.size := ⟨_, rfl⟩
   have hl8_1 : w.heap.size < g8 := by rw [hg8]; exact (hE.here.2).lt
   replace hE := hE.blk 29 #[.bool si, .slice Ai ni ci, .bool ti, .slice Bi mi di] (g := g8) hg8.symm
   generalize W0.alloc (.cells #[.bool si, .slice Ai ni ci, .bool ti, .slice Bi mi di] 29) = W8 at hE ⊢
   rw [← hg8]
   clear hg8
   obtain ⟨k9, k10, k11, k12, k13, k14, k15⟩ := (hE.here.1.2).c7
   go_wp2_with fail
   refine hE.br (lvalid_t (c := c) hE.h2 hB hok) ?_
   clear hE k9 k10 k11 k12 k13 k14 k15
   intro w16 hE
   obtain ⟨k17, k18, k19, k20⟩ := (hE.here.2).c4
   go_wp2_with fail
   refine hE.br (fvalid_r si ti Ai Bi ni mi ci di fi gi _ (hr.below hE.bel) hn hm _ hv) ?_
   clear hE k17 k18 k19 k20
   intro w21 hE
   go_wp2_with fail
   go_ret
   exact ⟨false, rfl, no_iff HN.out, hE.bel⟩
  | true =>
   cases si with
   | true =>
    have HN : Hid (¬ BOK F S n r true ni fi ti mi gi) := Lib.hid (fun h => by have h2 := h.2; unfold intB at h2; rw [hv] at h2; simp at h2)
    have hE := ((Env.start w).tab hT).blk 31 #[.int .i64 F, .int .i64 S, .slice A n c, .bool true, .slice Ai ni ci, .bool ti, .slice Bi mi di] (g := w.heap.size) rfl
    obtain ⟨W0, hW0⟩ : ∃ W0, W0 = (w.alloc (.cells #[.int .i64 F, .int .i64 S, .slice A n c, .bool true, .slice Ai ni ci, .bool ti, .slice Bi mi di] 31)) := ⟨_, rfl⟩
    rw [← hW0] at hE
    have HW0 := Lib.hid hW0
    clear hW0
    go_enter Tryz.func15, Tryz.ntmps15
    go_upto_region 1 with (fail)
    rw [← HW0.out]
    obtain ⟨k1, k2, k3, k4, k5, k6, k7⟩ := (hE.here.2).c7
    go_upto_region 2 with (fail)
    clear k1 k2 k3 k4 k5 k6 k7
    obtain ⟨g8, hg8⟩ : ∃ g8, g8 = W0.heap.size := ⟨_, rfl⟩
    have hl8_1 : w.heap.size < g8 := by rw [hg8]; exact (hE.here.2).lt
    replace hE := hE.blk 29 #[.bool true, .slice Ai ni ci, .bool ti, .slice Bi mi di] (g := g8) hg8.symm
    generalize W0.alloc (.cells #[.bool true, .slice Ai ni ci, .bool ti, .slice Bi mi di] 29) = W8 at hE ⊢
    rw [← hg8]
    clear hg8
    obtain ⟨k9, k10, k11, k12, k13, k14, k15⟩ := (hE.here.1.2).c7
    go_wp2_with fail
    refine hE.br (lvalid_t (c := c) hE.h2 hB hok) ?_
    clear hE k9 k10 k11 k12 k13 k14 k15
    intro w16 hE
    obtain ⟨k17, k18, k19, k20⟩ := (hE.here.2).c4
    go_wp2_with fail
    refine hE.br (fvalid_r true ti Ai Bi ni mi ci di fi gi _ (hr.below hE.bel) hn hm _ hv) ?_
    clear hE k17 k18 k19 k20
    intro w21 hE
    obtain ⟨k22, k23, k24, k25⟩ := (hE.here.2).c4
    go_wp2_with fail
    go_ret
    exact ⟨false, rfl, no_iff HN.out, hE.bel⟩
   | false =>
    by_cases h1 : ni ≤ 1
    ·
     have t1 : decide ((ni : Int) ≤ 1) = true := decide_eq_true (by omega)
     by_cases h2 : mi ≤ 1
     ·
      have t2 : decide ((mi : Int) ≤ 1) = true := decide_eq_true (by omega)
      have HN : Hid (BOK F S n r false ni fi ti mi gi) := Lib.hid ⟨hok, by unfold intB; rw [hv, decide_eq_true h1, decide_eq_true h2]; rfl⟩
      have hE := ((Env.start w).tab hT).blk 31 #[.int .i64 F, .int .i64 S, .slice A n c, .bool false, .slice Ai ni ci, .bool ti, .slice Bi mi di] (g := w.heap.size) rfl
      obtain ⟨W0, hW0⟩ : ∃ W0, W0 = (w.alloc (.cells #[.int .i64 F, .int .i64 S, .slice A n c, .bool false, .slice Ai ni ci, .bool ti, .slice Bi mi di] 31)) := ⟨_, rfl⟩
      rw [← hW0] at hE
      have HW0 := Lib.hid hW0
      clear hW0
      go_enter Tryz.func15, Tryz.ntmps15
      go_upto_region 1 with (fail)
      rw [← HW0.out]
      obtain ⟨k1, k2, k3, k4, k5, k6, k7⟩ := (hE.here.2).c7
      go_upto_region 2 with (fail)
      clear k1 k2 k3 k4 k5 k6 k7
      obtain ⟨g8, hg8⟩ : ∃ g8, g8 = W0.heap.size := ⟨_, rfl⟩
      have hl8_1 : w.heap.size < g8 := by rw [hg8]; exact (hE.here.2).lt
      replace hE := hE.blk 29 #[.bool false, .slice Ai ni ci, .bool ti, .slice Bi mi di] (g := g8) hg8.symm
      generalize W0.alloc (.cells #[.bool false, .slice Ai ni ci, .bool ti, .slice Bi mi di] 29) = W8 at hE ⊢
      rw [← hg8]
      clear hg8
      obtain ⟨k9, k10, k11, k12, k13, k14, k15⟩ := (hE.here.1.2).c7
      go_wp2_with fail
      refine hE.br (lvalid_t (c := c) hE.h2 hB hok) ?_
      clear hE k9 k10 k11 k12 k13 k14 k15
      intro w16 hE
      obtain ⟨k17, k18, k19, k20⟩ := (hE.here.2).c4
      go_wp2_with fail
      refine hE.br (fvalid_r false ti Ai Bi ni mi ci di fi gi _ (hr.below hE.bel) hn hm _ hv) ?_
      clear hE k17 k18 k19 k20
      intro w21 hE
      obtain ⟨k22, k23, k24, k25⟩ := (hE.here.2).c4
      go_wp2_with fail
      go_ret
      exact ⟨true, rfl, yes_iff HN.out, hE.bel⟩
     ·
      have t2 : decide ((mi : Int) ≤ 1) = false := decide_eq_false (by omega)
      have HN : Hid (¬ BOK F S n r false ni fi ti mi gi) := Lib.hid (fun h => by have h3 := h.2; unfold intB at h3; rw [hv, decide_eq_true h1, decide_eq_false h2] at h3; simp at h3)
      have hE := ((Env.start w).tab hT).blk 31 #[.int .i64 F, .int .i64 S, .slice A n c, .bool false, .slice Ai ni ci, .bool ti, .slice Bi mi di] (g := w.heap.size) rfl
      obtain ⟨W0, hW0⟩ : ∃ W0, W0 = (w.alloc (.cells #[.int .i64 F, .int .i64 S, .slice A n c, .bool false, .slice Ai ni ci, .bool ti, .slice Bi mi di] 31)) := ⟨_, rfl⟩
      rw [← hW0] at hE
      have HW0 := Lib.hid hW0
      clear hW0
      go_enter Tryz.func15, Tryz.ntmps15
      go_upto_region 1 with (fail)
      rw [← HW0.out]
      obtain ⟨k1, k2, k3, k4, k5, k6, k7⟩ := (hE.here.2).c7
      go_upto_region 2 with (fail)
      clear k1 k2 k3 k4 k5 k6 k7
      obtain ⟨g8, hg8⟩ : ∃ g8, g8 = W0.heap.size := ⟨_, rfl⟩
      have hl8_1 : w.heap.size < g8 := by rw [hg8]; exact (hE.here.2).lt
      replace hE := hE.blk 29 #[.bool false, .slice Ai ni ci, .bool ti, .slice Bi mi di] (g := g8) hg8.symm
      generalize W0.alloc (.cells #[.bool false, .slice Ai ni ci, .bool ti, .slice Bi mi di] 29) = W8 at hE ⊢
      rw [← hg8]
      clear hg8
      obtain ⟨k9, k10, k11, k12, k13, k14, k15⟩ := (hE.here.1.2).c7
      go_wp2_with fail
      refine hE.br (lvalid_t (c := c) hE.h2 hB hok) ?_
      clear hE k9 k10 k11 k12 k13 k14 k15
      intro w16 hE
      obtain ⟨k17, k18, k19, k20⟩ := (hE.here.2).c4
      go_wp2_with fail
      refine hE.br (fvalid_r false ti Ai Bi ni mi ci di fi gi _ (hr.below hE.bel) hn hm _ hv) ?_
      clear hE k17 k18 k19 k20
      intro w21 hE
      obtain ⟨k22, k23, k24, k25⟩ := (hE.here.2).c4
      go_wp2_with fail
      go_ret
      exact ⟨false, rfl, no_iff HN.out, hE.bel⟩
    ·
     have t1 : decide ((ni : Int) ≤ 1) = false := decide_eq_false (by omega)
     have HN : Hid (¬ BOK F S n r false ni fi ti mi gi) := Lib.hid (fun h => by have h3 := h.2; unfold intB at h3; rw [hv, decide_eq_false h1] at h3; simp at h3)
     have hE := ((Env.start w).tab hT).blk 31 #[.int .i64 F, .int .i64 S, .slice A n c, .bool false, .slice Ai ni ci, .bool ti, .slice Bi mi di] (g := w.heap.size) rfl
     obtain ⟨W0, hW0⟩ : ∃ W0, W0 = (w.alloc (.cells #[.int .i64 F, .int .i64 S, .slice A n c, .bool false, .slice Ai ni ci, .bool ti, .slice Bi mi di] 31)) := ⟨_, rfl⟩
     rw [← hW0] at hE
     have HW0 := Lib.hid hW0
     clear hW0
     go_enter Tryz.func15, Tryz.ntmps15
     go_upto_region 1 with (fail)
     rw [← HW0.out]
     obtain ⟨k1, k2, k3, k4, k5, k6, k7⟩ := (hE.here.2).c7
     go_upto_region 2 with (fail)
     clear k1 k2 k3 k4 k5 k6 k7
     obtain ⟨g8, hg8⟩ : ∃ g8, g8 = W0.heap.size := ⟨_, rfl⟩
     have hl8_1 : w.heap.size < g8 := by rw [hg8]; exact (hE.here.2).lt
     replace hE := hE.blk 29 #[.bool false, .slice Ai ni ci, .bool ti, .slice Bi mi di] (g := g8) hg8.symm
     generalize W0.alloc (.cells #[.bool false, .slice Ai ni ci, .bool ti, .slice Bi mi di] 29) = W8 at hE ⊢
     rw [← hg8]
     clear hg8
     obtain ⟨k9, k10, k11, k12, k13, k14, k15⟩ := (hE.here.1.2).c7
     go_wp2_with fail
     refine hE.br (lvalid_t (c := c) hE.h2 hB hok) ?_
     clear hE k9 k10 k11 k12 k13 k14 k15
     intro w16 hE
     obtain ⟨k17, k18, k19, k20⟩ := (hE.here.2).c4
     go_wp2_with fail
     refine hE.br (fvalid_r false ti Ai Bi ni mi ci di fi gi _ (hr.below hE.bel) hn hm _ hv) ?_
     clear hE k17 k18 k19 k20
     intro w21 hE
     obtain ⟨k22, k23, k24, k25⟩ := (hE.here.2).c4
     go_wp2_with fail
     go_ret
     exact ⟨false, rfl, no_iff HN.out, hE.bel⟩
 ·
  have HN : Hid (¬ BOK F S n r si ni fi ti mi gi) := Lib.hid (fun h => hok h.1)
  have hE := ((Env.start w).tab hT).blk 31 #[.int .i64 F, .int .i64 S, .slice A n c, .bool si, .slice Ai ni ci, .bool ti, .slice Bi mi di] (g := w.heap.size) rfl
  obtain ⟨W0, hW0⟩ : ∃ W0, W0 = (w.alloc (.cells #[.int .i64 F, .int .i64 S, .slice A n c, .bool si, .slice Ai ni ci, .bool ti, .slice Bi mi di] 31)) := ⟨_, rfl⟩
  rw [← hW0] at hE
  have HW0 := Lib.hid hW0
  clear hW0
  go_enter Tryz.func15, Tryz.ntmps15
  go_upto_region 1 with (fail)
  rw [← HW0.out]
  obtain ⟨k1, k2, k3, k4, k5, k6, k7⟩ := (hE.here.2).c7
  go_upto_region 2 with (fail)
  clear k1 k2 k3 k4 k5 k6 k7
  obtain ⟨g8, hg8⟩ : ∃ g8, g8 = W0.heap.size := ⟨_, rfl⟩
  have hl8_1 : w.heap.size < g8 := by rw [hg8]; exact (hE.here.2).lt
  replace hE := hE.blk 29 #[.bool si, .slice Ai ni ci, .bool ti, .slice Bi mi di] (g := g8) hg8.symm
  generalize W0.alloc (.cells #[.bool si, .slice Ai ni ci, .bool ti, .slice Bi mi di] 29) = W8 at hE ⊢
  rw [← hg8]
  clear hg8
  obtain ⟨k9, k10, k11, k12, k13, k14, k15⟩ := (hE.here.1.2).c7
  go_wp2_with fail
  refine hE.br (lvalid_f (c := c) hE.h2 hB hok) ?_
  clear hE k9 k10 k11 k12 k13 k14 k15
  intro w16 hE
  go_wp2_with fail
  go_ret
  exact ⟨false, rfl, no_iff HN.out, hE.bel⟩
theorem cvalid_t {F S : Int} {A : Option Addr} {n c : Nat} {r : Nat → RH} {si ti : Bool} {Ai Bi : Option Addr} {ni mi ci di : Nat} {fi gi : Nat → Nat} {w : World} (hT : TabM w A n r) (hB : TabB n r) (hr : FRd w Ai ni fi Bi mi gi) (hn : ni ≤ 1000000) (hm : mi ≤ 1000000) (h : BOK F S n r si ni fi ti mi gi) :
  Calls Tryz.prog 15 #[.agg #[.int .i64 F, .int .i64 S, .slice A n c, .bool si, .slice Ai ni ci, .bool ti, .slice Bi mi di]] w fun e w' => e = .returned (.bool true) ∧ Below w.heap.size w w' :=
 (cvalid_any F S A n c r si ti Ai Bi ni mi ci di fi gi w hT hB hr hn hm).mono fun _ _ ⟨v, he, hv, hb⟩ => by obtain rfl : v = true := hv.2 h; exact ⟨he, hb⟩
theorem cvalid_f {F S : Int} {A : Option Addr} {n c : Nat} {r : Nat → RH} {si ti : Bool} {Ai Bi : Option Addr} {ni mi ci di : Nat} {fi gi : Nat → Nat} {w : World} (hT : TabM w A n r) (hB : TabB n r) (hr : FRd w Ai ni fi Bi mi gi) (hn : ni ≤ 1000000) (hm : mi ≤ 1000000) (h : ¬ BOK F S n r si ni fi ti mi gi) :
  Calls Tryz.prog 15 #[.agg #[.int .i64 F, .int .i64 S, .slice A n c, .bool si, .slice Ai ni ci, .bool ti, .slice Bi mi di]] w fun e w' => e = .returned (.bool false) ∧ Below w.heap.size w w' :=
 (cvalid_any F S A n c r si ti Ai Bi ni mi ci di fi gi w hT hB hr hn hm).mono fun _ _ ⟨v, he, hv, hb⟩ => by
  cases v with
  | true => exact absurd (hv.1 rfl) h
  | false => exact ⟨he, hb⟩
theorem Rti.nz {i : Rat} (h : Rti i) : (1 + i).num ≠ 0 := fun e => by
 have h1 := Rat.num_eq_zero.1 e
 have := h.1
 grind
set_option linter.unusedSimpArgs false in
set_option maxRecDepth 100000 in
set_option maxHeartbeats 4000000 in
theorem cdiscount_v {F S : Int} {A : Option Addr} {n c : Nat} {si ti : Bool} {Ai Bi : Option Addr} {ni ci mi di : Nat} {q : Rat} {w : World} (hq : FV w q si Ai ni ti Bi mi) (hi : Rti q) :
  Calls Tryz.prog 53 #[.agg #[.int .i64 F, .int .i64 S, .slice A n c, .bool si, .slice Ai ni ci, .bool ti, .slice Bi mi di]] w (FR (1 / (1 + q)) w) := by
 have l1 := hi.one
 have l0 := hi.fl
 have lv := hi.dis.ql.l (by decide) (by decide) (by decide)
 have hnz : (1 + q).num ≠ 0 := hi.nz
 have Hl1 := Lib.hid l1
 clear l1
 have Hl0 := Lib.hid l0
 clear l0
 have Hlv := Lib.hid lv
 clear lv
 have Hhi := Lib.hid hi
 clear hi
 have Hhnz := Lib.hid hnz
 clear hnz
 have hE := ((Env.start w).fv hq).blk 31 #[.int .i64 F, .int .i64 S, .slice A n c, .bool si, .slice Ai ni ci, .bool ti, .slice Bi mi di] (g := w.heap.size) rfl
 have hE := hE.blk 29 #[.bool false, .slice none 0 0, .bool false, .slice none 0 0] (g := w.heap.size + 1) (by simp)
 obtain ⟨W0, hW0⟩ : ∃ W0, W0 = ((w.alloc (.cells #[.int .i64 F, .int .i64 S, .slice A n c, .bool si, .slice Ai ni ci, .bool ti, .slice Bi mi di] 31)).alloc (.cells #[.bool false, .slice none 0 0, .bool false, .slice none 0 0] 29)) := ⟨_, rfl⟩
 rw [← hW0] at hE
 have HW0 := Lib.hid hW0
 clear hW0
 go_enter Tryz.func53, Tryz.ntmps53
 go_upto_region 1 with (fail)
 rw [← HW0.out]
 go_cut [3, 4] from 5 to 14 (fun p0 p1 wx => ∃ G1 sv Av nv cv tv Bv mv dv, p0 = .pointer (some ⟨G1, 0, none⟩) ∧ p1 = .int .i64 0 ∧ w.heap.size + 1 < G1 ∧ Env w (fun V => (((((True ∧ FV V q si Ai ni ti Bi mi) ∧ Blk 31 (w.heap.size) #[.int .i64 F, .int .i64 S, .slice A n c, .bool si, .slice Ai ni ci, .bool ti, .slice Bi mi di] V) ∧ Blk 29 (w.heap.size + 1) #[.bool false, .slice none 0 0, .bool false, .slice none 0 0] V) ∧ FV V (1 / (1 + q)) sv Av nv tv Bv mv) ∧ Blk 29 (G1) #[.bool sv, .slice Av nv cv, .bool tv, .slice Bv mv dv] V)) wx)
 case first =>
  replace hE := hE.drew
  refine wp_region_held_drew (S := fun w' => w'.cell? ⟨w.heap.size, 0, none⟩ = some (.int .i64 F) ∧ w'.cell? ⟨w.heap.size, 1, none⟩ = some (.int .i64 S) ∧ w'.cell? ⟨w.heap.size, 2, none⟩ = some (.slice A n c) ∧ w'.cell? ⟨w.heap.size, 3, none⟩ = some (.bool si) ∧ w'.cell? ⟨w.heap.size, 4, none⟩ = some (.slice Ai ni ci) ∧ w'.cell? ⟨w.heap.size, 5, none⟩ = some (.bool ti) ∧ w'.cell? ⟨w.heap.size, 6, none⟩ = some (.slice Bi mi di)) (by kernel_rfl) (⟨(hE.here.1.2).c7.1, (hE.here.1.2).c7.2.1, (hE.here.1.2).c7.2.2.1, (hE.here.1.2).c7.2.2.2.1, (hE.here.1.2).c7.2.2.2.2.1, (hE.here.1.2).c7.2.2.2.2.2.1, (hE.here.1.2).c7.2.2.2.2.2.2⟩) (fun hHeld => ?_)
  generalize W0.drew = wd at *
  refine tk 2 ?_
  try simp only [PL]
  refine tk 3 ?_
  try simp only [PL]
  refine wpAnyH_ready (rs := [0, 9]) (by kernel_rfl) (by simp) (AllReadyH.cons rfl (fun K hK => ?_) (AllReadyH.cons rfl (fun K hK => ?_) (AllReadyH.nil)))
  ·
   go_simp
   refine hE.fr (ffromInt_v 1 (wd) (by decide) (by decide)) ?_
   clear hE
   intro sp Ap np cp tp Bp mp dp w1 hE
   go_wp2_with fail
   refine hK.out _ _ (⟨(hE.h2).c7.1, (hE.h2).c7.2.1, (hE.h2).c7.2.2.1, (hE.h2).c7.2.2.2.1, (hE.h2).c7.2.2.2.2.1, (hE.h2).c7.2.2.2.2.2.1, (hE.h2).c7.2.2.2.2.2.2⟩) (fun hHeld => ?_)
   clear hK K
   try simp only [PL]
   refine wpAnyH_ready (rs := [1, 9]) (by kernel_rfl) (by simp) (AllReadyH.cons rfl (fun K hK => ?_) (AllReadyH.cons rfl (fun K hK => ?_) (AllReadyH.nil)))
   ·
    go_simp
    refine hE.fr (ffromInt_v 1 (w1) (by decide) (by decide)) ?_
    clear hE
    intro sw Aw nw cw tw Bw mw dw w2 hE
    go_wp2_with fail
    refine hK.out _ _ (⟨(hE.h3).c7.1, (hE.h3).c7.2.1, (hE.h3).c7.2.2.1, (hE.h3).c7.2.2.2.1, (hE.h3).c7.2.2.2.2.1, (hE.h3).c7.2.2.2.2.2.1, (hE.h3).c7.2.2.2.2.2.2⟩) (fun hHeld => ?_)
    clear hK K
    try simp only [PL]
    refine wpAnyH_ready (rs := [4, 9]) (by kernel_rfl) (by simp) (AllReadyH.cons rfl (fun K hK => ?_) (AllReadyH.cons rfl (fun K hK => ?_) (AllReadyH.nil)))
    ·
     go_simp
     refine hE.fr (cplus_v (a := 1) (b := q) (ca := cw) (da := dw) (cb := ci) (db := di) hE.here.2 hE.h4 fl_one (Nat.le_trans Hl0.out (by decide)) (Nat.le_trans Hl1.out (by decide))) ?_
     clear hE
     intro sj Aj nj cj tj Bj mj dj w3 hE
     go_wp2_with fail
     refine hK.out _ _ (⟨(hE.h4).c7.1, (hE.h4).c7.2.1, (hE.h4).c7.2.2.1, (hE.h4).c7.2.2.2.1, (hE.h4).c7.2.2.2.2.1, (hE.h4).c7.2.2.2.2.2.1, (hE.h4).c7.2.2.2.2.2.2⟩) (fun hHeld => ?_)
     clear hK K
     try simp only [PL]
     refine wpAnyH_ready (rs := [5, 9]) (by kernel_rfl) (by simp) (AllReadyH.cons rfl (fun K hK => ?_) (AllReadyH.cons rfl (fun K hK => ?_) (AllReadyH.nil)))
     ·
      go_simp
      refine hE.fr (fdiv_v (a := 1) (b := 1 + q) (ca := cp) (da := dp) (cb := cj) (db := dj) hE.h2 hE.here.2 fl_one (Nat.le_trans Hl1.out (by decide)) Hhnz.out Hlv.out) ?_
      clear hE
      intro sv Av nv cv tv Bv mv dv w4 hE
      go_wp2_with fail
      refine hK.out _ _ (⟨(hE.h5).c7.1, (hE.h5).c7.2.1, (hE.h5).c7.2.2.1, (hE.h5).c7.2.2.2.1, (hE.h5).c7.2.2.2.2.1, (hE.h5).c7.2.2.2.2.2.1, (hE.h5).c7.2.2.2.2.2.2⟩) (fun hHeld => ?_)
      clear hK K
      try simp only [PL]
      refine tk 6 ?_
      try simp only [PL]
      refine tk 7 ?_
      try simp only [PL]
      refine tk 8 ?_
      try simp only [PL]
      refine r1 9 (fun K hK => ?_)
      go_simp
      obtain ⟨g5, hg5⟩ : ∃ g5, g5 = w4.heap.size := ⟨_, rfl⟩
      have hl5_1 : w.heap.size < g5 := by rw [hg5]; exact (hE.h5).lt
      have hl5_2 : w.heap.size + 1 < g5 := by rw [hg5]; exact (hE.h4).lt
      replace hE := hE.blk 29 #[.bool false, .slice none 0 0, .bool false, .slice none 0 0] (g := g5) hg5.symm
      generalize w4.alloc (.cells #[.bool false, .slice none 0 0, .bool false, .slice none 0 0] 29) = W5 at hE ⊢
      rw [← hg5]
      clear hg5
      refine hK.out _ _ (⟨(hE.h6).c7.1, (hE.h6).c7.2.1, (hE.h6).c7.2.2.1, (hE.h6).c7.2.2.2.1, (hE.h6).c7.2.2.2.2.1, (hE.h6).c7.2.2.2.2.2.1, (hE.h6).c7.2.2.2.2.2.2⟩) (fun hHeld => ?_)
      clear hK K
      try simp only [PL]
      refine r1 10 (fun K hK => ?_)
      have hgl6 : w.heap.size ≤ g5 := by omega
      obtain ⟨x6_0, x6_1, x6_2, x6_3⟩ := (hE.here.2).c4
      obtain ⟨f6_0, f6_1, f6_2, f6_3⟩ := hE.here.2.f4
      replace hE := (((((((((Env.again (bel4 hE.bel hgl6 (.bool sv) (.slice Av nv cv) (.bool tv) (.slice Bv mv dv))).fv ((hE.h7).sep4 hE.here.2 rfl (.bool sv) (.slice Av nv cv) (.bool tv) (.slice Bv mv dv) rfl rfl rfl)).blkI ((hE.h6).far4 (R := g5) (by omega) (.bool sv) (.slice Av nv cv) (.bool tv) (.slice Bv mv dv))).blkI ((hE.h5).far4 (R := g5) (by omega) (.bool sv) (.slice Av nv cv) (.bool tv) (.slice Bv mv dv))).fv ((hE.h4).sep4 hE.here.2 rfl (.bool sv) (.slice Av nv cv) (.bool tv) (.slice Bv mv dv) rfl rfl rfl)).fv ((hE.h3).sep4 hE.here.2 rfl (.bool sv) (.slice Av nv cv) (.bool tv) (.slice Bv mv dv) rfl rfl rfl)).fv ((hE.h2).sep4 hE.here.2 rfl (.bool sv) (.slice Av nv cv) (.bool tv) (.slice Bv mv dv) rfl rfl rfl)).fv ((hE.here.1.2).sep4 hE.here.2 rfl (.bool sv) (.slice Av nv cv) (.bool tv) (.slice Bv mv dv) rfl rfl rfl)).blkI ((hE.here.2).s4 (.bool sv) (.slice Av nv cv) (.bool tv) (.slice Bv mv dv)))
      go_simp
      clear x6_0 x6_1 x6_2 x6_3 f6_0 f6_1 f6_2 f6_3 hgl6
      generalize ((((W5.setCell ⟨g5, 0, none⟩ (.bool sv)).setCell ⟨g5, 1, none⟩ (.slice Av nv cv)).setCell ⟨g5, 2, none⟩ (.bool tv)).setCell ⟨g5, 3, none⟩ (.slice Bv mv dv)) = W6 at hE ⊢
      refine hK.out _ _ (⟨(hE.h6).c7.1, (hE.h6).c7.2.1, (hE.h6).c7.2.2.1, (hE.h6).c7.2.2.2.1, (hE.h6).c7.2.2.2.2.1, (hE.h6).c7.2.2.2.2.2.1, (hE.h6).c7.2.2.2.2.2.2⟩) (fun hHeld => ?_)
      clear hK K
      try simp only [PL]
      refine tk 11 ?_
      try simp only [PL]
      refine wpAnyH_done (by kernel_rfl) ?_ _
      go_wp2_with fail
      go_meet
      exact ⟨g5, sv, Av, nv, cv, tv, Bv, mv, dv, rfl, rfl, by omega, ((((((Env.again hE.bel).fv (hE.h7)).blkI (hE.h6)).blkI (hE.h5)).fv (hE.here.1.2)).blkI (hE.here.2))⟩
     ·
      go_simp
      obtain ⟨g7, hg7⟩ : ∃ g7, g7 = w3.heap.size := ⟨_, rfl⟩
      have hl7_1 : w.heap.size < g7 := by rw [hg7]; exact (hE.h4).lt
      have hl7_2 : w.heap.size + 1 < g7 := by rw [hg7]; exact (hE.h3).lt
      replace hE := hE.blk 29 #[.bool false, .slice none 0 0, .bool false, .slice none 0 0] (g := g7) hg7.symm
      generalize w3.alloc (.cells #[.bool false, .slice none 0 0, .bool false, .slice none 0 0] 29) = W7 at hE ⊢
      rw [← hg7]
      clear hg7
      refine hK.out _ _ (⟨(hE.h5).c7.1, (hE.h5).c7.2.1, (hE.h5).c7.2.2.1, (hE.h5).c7.2.2.2.1, (hE.h5).c7.2.2.2.2.1, (hE.h5).c7.2.2.2.2.2.1, (hE.h5).c7.2.2.2.2.2.2⟩) (fun hHeld => ?_)
      clear hK K
      try simp only [PL]
      refine r1 5 (fun K hK => ?_)
      go_simp
      refine hE.fr (fdiv_v (a := 1) (b := 1 + q) (ca := cp) (da := dp) (cb := cj) (db := dj) hE.h3 hE.here.1.2 fl_one (Nat.le_trans Hl1.out (by decide)) Hhnz.out Hlv.out) ?_
      clear hE
      intro sv Av nv cv tv Bv mv dv w8 hE
      go_wp2_with fail
      refine hK.out _ _ (⟨(hE.h6).c7.1, (hE.h6).c7.2.1, (hE.h6).c7.2.2.1, (hE.h6).c7.2.2.2.1, (hE.h6).c7.2.2.2.2.1, (hE.h6).c7.2.2.2.2.2.1, (hE.h6).c7.2.2.2.2.2.2⟩) (fun hHeld => ?_)
      clear hK K
      try simp only [PL]
      refine tk 6 ?_
      try simp only [PL]
      refine tk 7 ?_
      try simp only [PL]
      refine tk 8 ?_
      try simp only [PL]
      refine r1 10 (fun K hK => ?_)
      have hgl9 : w.heap.size ≤ g7 := by omega
      obtain ⟨x9_0, x9_1, x9_2, x9_3⟩ := (hE.here.1.2).c4
      obtain ⟨f9_0, f9_1, f9_2, f9_3⟩ := hE.here.1.2.f4
      replace hE := (((((((((Env.again (bel4 hE.bel hgl9 (.bool sv) (.slice Av nv cv) (.bool tv) (.slice Bv mv dv))).fv ((hE.h7).sep4 hE.here.1.2 rfl (.bool sv) (.slice Av nv cv) (.bool tv) (.slice Bv mv dv) rfl rfl rfl)).blkI ((hE.h6).far4 (R := g7) (by omega) (.bool sv) (.slice Av nv cv) (.bool tv) (.slice Bv mv dv))).blkI ((hE.h5).far4 (R := g7) (by omega) (.bool sv) (.slice Av nv cv) (.bool tv) (.slice Bv mv dv))).fv ((hE.h4).sep4 hE.here.1.2 rfl (.bool sv) (.slice Av nv cv) (.bool tv) (.slice Bv mv dv) rfl rfl rfl)).fv ((hE.h3).sep4 hE.here.1.2 rfl (.bool sv) (.slice Av nv cv) (.bool tv) (.slice Bv mv dv) rfl rfl rfl)).fv ((hE.h2).sep4 hE.here.1.2 rfl (.bool sv) (.slice Av nv cv) (.bool tv) (.slice Bv mv dv) rfl rfl rfl)).blkI ((hE.here.1.2).s4 (.bool sv) (.slice Av nv cv) (.bool tv) (.slice Bv mv dv))).fv ((hE.here.2).sep4 hE.here.1.2 rfl (.bool sv) (.slice Av nv cv) (.bool tv) (.slice Bv mv dv) rfl rfl rfl))
      go_simp
      clear x9_0 x9_1 x9_2 x9_3 f9_0 f9_1 f9_2 f9_3 hgl9
      generalize ((((w8.setCell ⟨g7, 0, none⟩ (.bool sv)).setCell ⟨g7, 1, none⟩ (.slice Av nv cv)).setCell ⟨g7, 2, none⟩ (.bool tv)).setCell ⟨g7, 3, none⟩ (.slice Bv mv dv)) = W9 at hE ⊢
      refine hK.out _ _ (⟨(hE.h6).c7.1, (hE.h6).c7.2.1, (hE.h6).c7.2.2.1, (hE.h6).c7.2.2.2.1, (hE.h6).c7.2.2.2.2.1, (hE.h6).c7.2.2.2.2.2.1, (hE.h6).c7.2.2.2.2.2.2⟩) (fun hHeld => ?_)
      clear hK K
      try simp only [PL]
      refine tk 11 ?_
      try simp only [PL]
      refine wpAnyH_done (by kernel_rfl) ?_ _
      go_wp2_with fail
      go_meet
      exact ⟨g7, sv, Av, nv, cv, tv, Bv, mv, dv, rfl, rfl, by omega, ((((((Env.again hE.bel).fv (hE.h7)).blkI (hE.h6)).blkI (hE.h5)).fv (hE.here.2)).blkI (hE.here.1.2))⟩
    ·
     go_simp
     obtain ⟨g10, hg10⟩ : ∃ g10, g10 = w2.heap.size := ⟨_, rfl⟩
     have hl10_1 : w.heap.size < g10 := by rw [hg10]; exact (hE.h3).lt
     have hl10_2 : w.heap.size + 1 < g10 := by rw [hg10]; exact (hE.h2).lt
     replace hE := hE.blk 29 #[.bool false, .slice none 0 0, .bool false, .slice none 0 0] (g := g10) hg10.symm
     generalize w2.alloc (.cells #[.bool false, .slice none 0 0, .bool false, .slice none 0 0] 29) = W10 at hE ⊢
     rw [← hg10]
     clear hg10
     refine hK.out _ _ (⟨(hE.h4).c7.1, (hE.h4).c7.2.1, (hE.h4).c7.2.2.1, (hE.h4).c7.2.2.2.1, (hE.h4).c7.2.2.2.2.1, (hE.h4).c7.2.2.2.2.2.1, (hE.h4).c7.2.2.2.2.2.2⟩) (fun hHeld => ?_)
     clear hK K
     try simp only [PL]
     refine r1 4 (fun K hK => ?_)
     go_simp
     refine hE.fr (cplus_v (a := 1) (b := q) (ca := cw) (da := dw) (cb := ci) (db := di) hE.here.1.2 hE.h5 fl_one (Nat.le_trans Hl0.out (by decide)) (Nat.le_trans Hl1.out (by decide))) ?_
     clear hE
     intro sj Aj nj cj tj Bj mj dj w11 hE
     go_wp2_with fail
     refine hK.out _ _ (⟨(hE.h5).c7.1, (hE.h5).c7.2.1, (hE.h5).c7.2.2.1, (hE.h5).c7.2.2.2.1, (hE.h5).c7.2.2.2.2.1, (hE.h5).c7.2.2.2.2.2.1, (hE.h5).c7.2.2.2.2.2.2⟩) (fun hHeld => ?_)
     clear hK K
     try simp only [PL]
     refine r1 5 (fun K hK => ?_)
     go_simp
     refine hE.fr (fdiv_v (a := 1) (b := 1 + q) (ca := cp) (da := dp) (cb := cj) (db := dj) hE.h3 hE.here.2 fl_one (Nat.le_trans Hl1.out (by decide)) Hhnz.out Hlv.out) ?_
     clear hE
     intro sv Av nv cv tv Bv mv dv w12 hE
     go_wp2_with fail
     refine hK.out _ _ (⟨(hE.h6).c7.1, (hE.h6).c7.2.1, (hE.h6).c7.2.2.1, (hE.h6).c7.2.2.2.1, (hE.h6).c7.2.2.2.2.1, (hE.h6).c7.2.2.2.2.2.1, (hE.h6).c7.2.2.2.2.2.2⟩) (fun hHeld => ?_)
     clear hK K
     try simp only [PL]
     refine tk 6 ?_
     try simp only [PL]
     refine tk 7 ?_
     try simp only [PL]
     refine tk 8 ?_
     try simp only [PL]
     refine r1 10 (fun K hK => ?_)
     have hgl13 : w.heap.size ≤ g10 := by omega
     obtain ⟨x13_0, x13_1, x13_2, x13_3⟩ := (hE.h2).c4
     obtain ⟨f13_0, f13_1, f13_2, f13_3⟩ := hE.h2.f4
     replace hE := (((((((((Env.again (bel4 hE.bel hgl13 (.bool sv) (.slice Av nv cv) (.bool tv) (.slice Bv mv dv))).fv ((hE.h7).sep4 hE.h2 rfl (.bool sv) (.slice Av nv cv) (.bool tv) (.slice Bv mv dv) rfl rfl rfl)).blkI ((hE.h6).far4 (R := g10) (by omega) (.bool sv) (.slice Av nv cv) (.bool tv) (.slice Bv mv dv))).blkI ((hE.h5).far4 (R := g10) (by omega) (.bool sv) (.slice Av nv cv) (.bool tv) (.slice Bv mv dv))).fv ((hE.h4).sep4 hE.h2 rfl (.bool sv) (.slice Av nv cv) (.bool tv) (.slice Bv mv dv) rfl rfl rfl)).fv ((hE.h3).sep4 hE.h2 rfl (.bool sv) (.slice Av nv cv) (.bool tv) (.slice Bv mv dv) rfl rfl rfl)).blkI ((hE.h2).s4 (.bool sv) (.slice Av nv cv) (.bool tv) (.slice Bv mv dv))).fv ((hE.here.1.2).sep4 hE.h2 rfl (.bool sv) (.slice Av nv cv) (.bool tv) (.slice Bv mv dv) rfl rfl rfl)).fv ((hE.here.2).sep4 hE.h2 rfl (.bool sv) (.slice Av nv cv) (.bool tv) (.slice Bv mv dv) rfl rfl rfl))
     go_simp
     clear x13_0 x13_1 x13_2 x13_3 f13_0 f13_1 f13_2 f13_3 hgl13
     generalize ((((w12.setCell ⟨g10, 0, none⟩ (.bool sv)).setCell ⟨g10, 1, none⟩ (.slice Av nv cv)).setCell ⟨g10, 2, none⟩ (.bool tv)).setCell ⟨g10, 3, none⟩ (.slice Bv mv dv)) = W13 at hE ⊢
     refine hK.out _ _ (⟨(hE.h6).c7.1, (hE.h6).c7.2.1, (hE.h6).c7.2.2.1, (hE.h6).c7.2.2.2.1, (hE.h6).c7.2.2.2.2.1, (hE.h6).c7.2.2.2.2.2.1, (hE.h6).c7.2.2.2.2.2.2⟩) (fun hHeld => ?_)
     clear hK K
     try simp only [PL]
     refine tk 11 ?_
     try simp only [PL]
     refine wpAnyH_done (by kernel_rfl) ?_ _
     go_wp2_with fail
     go_meet
     exact ⟨g10, sv, Av, nv, cv, tv, Bv, mv, dv, rfl, rfl, by omega, ((((((Env.again hE.bel).fv (hE.h7)).blkI (hE.h6)).blkI (hE.h5)).fv (hE.here.2)).blkI (hE.h2))⟩
   ·
    go_simp
    obtain ⟨g14, hg14⟩ : ∃ g14, g14 = w1.heap.size := ⟨_, rfl⟩
    have hl14_1 : w.heap.size < g14 := by rw [hg14]; exact (hE.h2).lt
    have hl14_2 : w.heap.size + 1 < g14 := by rw [hg14]; exact (hE.here.1.2).lt
    replace hE := hE.blk 29 #[.bool false, .slice none 0 0, .bool false, .slice none 0 0] (g := g14) hg14.symm
    generalize w1.alloc (.cells #[.bool false, .slice none 0 0, .bool false, .slice none 0 0] 29) = W14 at hE ⊢
    rw [← hg14]
    clear hg14
    refine hK.out _ _ (⟨(hE.h3).c7.1, (hE.h3).c7.2.1, (hE.h3).c7.2.2.1, (hE.h3).c7.2.2.2.1, (hE.h3).c7.2.2.2.2.1, (hE.h3).c7.2.2.2.2.2.1, (hE.h3).c7.2.2.2.2.2.2⟩) (fun hHeld => ?_)
    clear hK K
    try simp only [PL]
    refine r1 1 (fun K hK => ?_)
    go_simp
    refine hE.fr (ffromInt_v 1 (W14) (by decide) (by decide)) ?_
    clear hE
    intro sw Aw nw cw tw Bw mw dw w15 hE
    go_wp2_with fail
    refine hK.out _ _ (⟨(hE.h4).c7.1, (hE.h4).c7.2.1, (hE.h4).c7.2.2.1, (hE.h4).c7.2.2.2.1, (hE.h4).c7.2.2.2.2.1, (hE.h4).c7.2.2.2.2.2.1, (hE.h4).c7.2.2.2.2.2.2⟩) (fun hHeld => ?_)
    clear hK K
    try simp only [PL]
    refine r1 4 (fun K hK => ?_)
    go_simp
    refine hE.fr (cplus_v (a := 1) (b := q) (ca := cw) (da := dw) (cb := ci) (db := di) hE.here.2 hE.h5 fl_one (Nat.le_trans Hl0.out (by decide)) (Nat.le_trans Hl1.out (by decide))) ?_
    clear hE
    intro sj Aj nj cj tj Bj mj dj w16 hE
    go_wp2_with fail
    refine hK.out _ _ (⟨(hE.h5).c7.1, (hE.h5).c7.2.1, (hE.h5).c7.2.2.1, (hE.h5).c7.2.2.2.1, (hE.h5).c7.2.2.2.2.1, (hE.h5).c7.2.2.2.2.2.1, (hE.h5).c7.2.2.2.2.2.2⟩) (fun hHeld => ?_)
    clear hK K
    try simp only [PL]
    refine r1 5 (fun K hK => ?_)
    go_simp
    refine hE.fr (fdiv_v (a := 1) (b := 1 + q) (ca := cp) (da := dp) (cb := cj) (db := dj) hE.h3 hE.here.2 fl_one (Nat.le_trans Hl1.out (by decide)) Hhnz.out Hlv.out) ?_
    clear hE
    intro sv Av nv cv tv Bv mv dv w17 hE
    go_wp2_with fail
    refine hK.out _ _ (⟨(hE.h6).c7.1, (hE.h6).c7.2.1, (hE.h6).c7.2.2.1, (hE.h6).c7.2.2.2.1, (hE.h6).c7.2.2.2.2.1, (hE.h6).c7.2.2.2.2.2.1, (hE.h6).c7.2.2.2.2.2.2⟩) (fun hHeld => ?_)
    clear hK K
    try simp only [PL]
    refine tk 6 ?_
    try simp only [PL]
    refine tk 7 ?_
    try simp only [PL]
    refine tk 8 ?_
    try simp only [PL]
    refine r1 10 (fun K hK => ?_)
    have hgl18 : w.heap.size ≤ g14 := by omega
    obtain ⟨x18_0, x18_1, x18_2, x18_3⟩ := (hE.h3).c4
    obtain ⟨f18_0, f18_1, f18_2, f18_3⟩ := hE.h3.f4
    replace hE := (((((((((Env.again (bel4 hE.bel hgl18 (.bool sv) (.slice Av nv cv) (.bool tv) (.slice Bv mv dv))).fv ((hE.h7).sep4 hE.h3 rfl (.bool sv) (.slice Av nv cv) (.bool tv) (.slice Bv mv dv) rfl rfl rfl)).blkI ((hE.h6).far4 (R := g14) (by omega) (.bool sv) (.slice Av nv cv) (.bool tv) (.slice Bv mv dv))).blkI ((hE.h5).far4 (R := g14) (by omega) (.bool sv) (.slice Av nv cv) (.bool tv) (.slice Bv mv dv))).fv ((hE.h4).sep4 hE.h3 rfl (.bool sv) (.slice Av nv cv) (.bool tv) (.slice Bv mv dv) rfl rfl rfl)).blkI ((hE.h3).s4 (.bool sv) (.slice Av nv cv) (.bool tv) (.slice Bv mv dv))).fv ((hE.h2).sep4 hE.h3 rfl (.bool sv) (.slice Av nv cv) (.bool tv) (.slice Bv mv dv) rfl rfl rfl)).fv ((hE.here.1.2).sep4 hE.h3 rfl (.bool sv) (.slice Av nv cv) (.bool tv) (.slice Bv mv dv) rfl rfl rfl)).fv ((hE.here.2).sep4 hE.h3 rfl (.bool sv) (.slice Av nv cv) (.bool tv) (.slice Bv mv dv) rfl rfl rfl))
    go_simp
    clear x18_0 x18_1 x18_2 x18_3 f18_0 f18_1 f18_2 f18_3 hgl18
    generalize ((((w17.setCell ⟨g14, 0, none⟩ (.bool sv)).setCell ⟨g14, 1, none⟩ (.slice Av nv cv)).setCell ⟨g14, 2, none⟩ (.bool tv)).setCell ⟨g14, 3, none⟩ (.slice Bv mv dv)) = W18 at hE ⊢
    refine hK.out _ _ (⟨(hE.h6).c7.1, (hE.h6).c7.2.1, (hE.h6).c7.2.2.1, (hE.h6).c7.2.2.2.1, (hE.h6).c7.2.2.2.2.1, (hE.h6).c7.2.2.2.2.2.1, (hE.h6).c7.2.2.2.2.2.2⟩) (fun hHeld => ?_)
    clear hK K
    try simp only [PL]
    refine tk 11 ?_
    try simp only [PL]
    refine wpAnyH_done (by kernel_rfl) ?_ _
    go_wp2_with fail
    go_meet
    exact ⟨g14, sv, Av, nv, cv, tv, Bv, mv, dv, rfl, rfl, by omega, ((((((Env.again hE.bel).fv (hE.h7)).blkI (hE.h6)).blkI (hE.h5)).fv (hE.here.2)).blkI (hE.h3))⟩
  ·
   go_simp
   obtain ⟨g19, hg19⟩ : ∃ g19, g19 = wd.heap.size := ⟨_, rfl⟩
   have hl19_1 : w.heap.size < g19 := by rw [hg19]; exact (hE.here.1.2).lt
   have hl19_2 : w.heap.size + 1 < g19 := by rw [hg19]; exact (hE.here.2).lt
   replace hE := hE.blk 29 #[.bool false, .slice none 0 0, .bool false, .slice none 0 0] (g := g19) hg19.symm
   generalize wd.alloc (.cells #[.bool false, .slice none 0 0, .bool false, .slice none 0 0] 29) = W19 at hE ⊢
   rw [← hg19]
   clear hg19
   refine hK.out _ _ (⟨(hE.h2).c7.1, (hE.h2).c7.2.1, (hE.h2).c7.2.2.1, (hE.h2).c7.2.2.2.1, (hE.h2).c7.2.2.2.2.1, (hE.h2).c7.2.2.2.2.2.1, (hE.h2).c7.2.2.2.2.2.2⟩) (fun hHeld => ?_)
   clear hK K
   try simp only [PL]
   refine r1 0 (fun K hK => ?_)
   go_simp
   refine hE.fr (ffromInt_v 1 (W19) (by decide) (by decide)) ?_
   clear hE
   intro sp Ap np cp tp Bp mp dp w20 hE
   go_wp2_with fail
   refine hK.out _ _ (⟨(hE.h3).c7.1, (hE.h3).c7.2.1, (hE.h3).c7.2.2.1, (hE.h3).c7.2.2.2.1, (hE.h3).c7.2.2.2.2.1, (hE.h3).c7.2.2.2.2.2.1, (hE.h3).c7.2.2.2.2.2.2⟩) (fun hHeld => ?_)
   clear hK K
   try simp only [PL]
   refine r1 1 (fun K hK => ?_)
   go_simp
   refine hE.fr (ffromInt_v 1 (w20) (by decide) (by decide)) ?_
   clear hE
   intro sw Aw nw cw tw Bw mw dw w21 hE
   go_wp2_with fail
   refine hK.out _ _ (⟨(hE.h4).c7.1, (hE.h4).c7.2.1, (hE.h4).c7.2.2.1, (hE.h4).c7.2.2.2.1, (hE.h4).c7.2.2.2.2.1, (hE.h4).c7.2.2.2.2.2.1, (hE.h4).c7.2.2.2.2.2.2⟩) (fun hHeld => ?_)
   clear hK K
   try simp only [PL]
   refine r1 4 (fun K hK => ?_)
   go_simp
   refine hE.fr (cplus_v (a := 1) (b := q) (ca := cw) (da := dw) (cb := ci) (db := di) hE.here.2 hE.h5 fl_one (Nat.le_trans Hl0.out (by decide)) (Nat.le_trans Hl1.out (by decide))) ?_
   clear hE
   intro sj Aj nj cj tj Bj mj dj w22 hE
   go_wp2_with fail
   refine hK.out _ _ (⟨(hE.h5).c7.1, (hE.h5).c7.2.1, (hE.h5).c7.2.2.1, (hE.h5).c7.2.2.2.1, (hE.h5).c7.2.2.2.2.1, (hE.h5).c7.2.2.2.2.2.1, (hE.h5).c7.2.2.2.2.2.2⟩) (fun hHeld => ?_)
   clear hK K
   try simp only [PL]
   refine r1 5 (fun K hK => ?_)
   go_simp
   refine hE.fr (fdiv_v (a := 1) (b := 1 + q) (ca := cp) (da := dp) (cb := cj) (db := dj) hE.h2 hE.here.2 fl_one (Nat.le_trans Hl1.out (by decide)) Hhnz.out Hlv.out) ?_
   clear hE
   intro sv Av nv cv tv Bv mv dv w23 hE
   go_wp2_with fail
   refine hK.out _ _ (⟨(hE.h6).c7.1, (hE.h6).c7.2.1, (hE.h6).c7.2.2.1, (hE.h6).c7.2.2.2.1, (hE.h6).c7.2.2.2.2.1, (hE.h6).c7.2.2.2.2.2.1, (hE.h6).c7.2.2.2.2.2.2⟩) (fun hHeld => ?_)
   clear hK K
   try simp only [PL]
   refine tk 6 ?_
   try simp only [PL]
   refine tk 7 ?_
   try simp only [PL]
   refine tk 8 ?_
   try simp only [PL]
   refine r1 10 (fun K hK => ?_)
   have hgl24 : w.heap.size ≤ g19 := by omega
   obtain ⟨x24_0, x24_1, x24_2, x24_3⟩ := (hE.h4).c4
   obtain ⟨f24_0, f24_1, f24_2, f24_3⟩ := hE.h4.f4
   replace hE := (((((((((Env.again (bel4 hE.bel hgl24 (.bool sv) (.slice Av nv cv) (.bool tv) (.slice Bv mv dv))).fv ((hE.h7).sep4 hE.h4 rfl (.bool sv) (.slice Av nv cv) (.bool tv) (.slice Bv mv dv) rfl rfl rfl)).blkI ((hE.h6).far4 (R := g19) (by omega) (.bool sv) (.slice Av nv cv) (.bool tv) (.slice Bv mv dv))).blkI ((hE.h5).far4 (R := g19) (by omega) (.bool sv) (.slice Av nv cv) (.bool tv) (.slice Bv mv dv))).blkI ((hE.h4).s4 (.bool sv) (.slice Av nv cv) (.bool tv) (.slice Bv mv dv))).fv ((hE.h3).sep4 hE.h4 rfl (.bool sv) (.slice Av nv cv) (.bool tv) (.slice Bv mv dv) rfl rfl rfl)).fv ((hE.h2).sep4 hE.h4 rfl (.bool sv) (.slice Av nv cv) (.bool tv) (.slice Bv mv dv) rfl rfl rfl)).fv ((hE.here.1.2).sep4 hE.h4 rfl (.bool sv) (.slice Av nv cv) (.bool tv) (.slice Bv mv dv) rfl rfl rfl)).fv ((hE.here.2).sep4 hE.h4 rfl (.bool sv) (.slice Av nv cv) (.bool tv) (.slice Bv mv dv) rfl rfl rfl))
   go_simp
   clear x24_0 x24_1 x24_2 x24_3 f24_0 f24_1 f24_2 f24_3 hgl24
   generalize ((((w23.setCell ⟨g19, 0, none⟩ (.bool sv)).setCell ⟨g19, 1, none⟩ (.slice Av nv cv)).setCell ⟨g19, 2, none⟩ (.bool tv)).setCell ⟨g19, 3, none⟩ (.slice Bv mv dv)) = W24 at hE ⊢
   refine hK.out _ _ (⟨(hE.h6).c7.1, (hE.h6).c7.2.1, (hE.h6).c7.2.2.1, (hE.h6).c7.2.2.2.1, (hE.h6).c7.2.2.2.2.1, (hE.h6).c7.2.2.2.2.2.1, (hE.h6).c7.2.2.2.2.2.2⟩) (fun hHeld => ?_)
   clear hK K
   try simp only [PL]
   refine tk 11 ?_
   try simp only [PL]
   refine wpAnyH_done (by kernel_rfl) ?_ _
   go_wp2_with fail
   go_meet
   exact ⟨g19, sv, Av, nv, cv, tv, Bv, mv, dv, rfl, rfl, by omega, ((((((Env.again hE.bel).fv (hE.h7)).blkI (hE.h6)).blkI (hE.h5)).fv (hE.here.2)).blkI (hE.h4))⟩
 case rest =>
 clear hE
 obtain ⟨G1, sv, Av, nv, cv, tv, Bv, mv, dv, rfl, rfl, hG1, hE⟩ := hcut
 generalize wc = wk1 at hE ⊢
 go_upto_region 2 with (fail)
 obtain ⟨k25, k26, k27, k28⟩ := (hE.here.2).c4
 have hRl : w.heap.size ≤ w.heap.size + 1 := by omega
 obtain ⟨WW, hWW, hB, hV, hBel⟩ := ret_frac hE hE.h2 hRl hE.here.1.2 cv dv
 obtain ⟨x0, x1, x2, x3⟩ := (hE.h2).c4
 obtain ⟨fz0, fz1, fz2, fz3⟩ := hE.h2.f4
 have HWW := Lib.hid hWW
 clear hWW
 go_wp2_with fail
 clear k25 k26 k27 k28
 rw [← HWW.out]
 obtain ⟨y0, y1, y2, y3⟩ := hB.c4
 refine bodyPost_ret (v := .agg #[.bool sv, .slice Av nv cv, .bool tv, .slice Bv mv dv]) (by simp [results, Tryz.results53, go_sem, y0, y1, y2, y3]) rfl ?_
 exact ⟨sv, Av, nv, cv, tv, Bv, mv, dv, rfl, hV, hBel⟩
set_option linter.unusedSimpArgs false in
set_option maxRecDepth 100000 in
set_option maxHeartbeats 4000000 in
theorem cDiscount_v {F S : Int} {A : Option Addr} {n c : Nat} {r : Nat → RH} {si ti : Bool} {Ai Bi : Option Addr} {ni mi ci di : Nat} {fi gi : Nat → Nat} {w : World} (hT : TabM w A n r) (hB : TabB n r) (hr : FRd w Ai ni fi Bi mi gi) (hn : ni ≤ 1000000) (hm : mi ≤ 1000000) (hbk : BOK F S n r si ni fi ti mi gi) :
  Calls Tryz.prog 18 #[.agg #[.int .i64 F, .int .i64 S, .slice A n c, .bool si, .slice Ai ni ci, .bool ti, .slice Bi mi di]] w (FOK (1 / (1 + qOf si ni fi mi gi)) w) := by
 obtain ⟨hqv, hi⟩ := intB_rti hr hbk.2
 obtain ⟨Z, hZ⟩ : ∃ z, z = 1 / (1 + qOf si ni fi mi gi) := ⟨_, rfl⟩
 rw [← hZ]
 have HhZ := Lib.hid hZ
 clear hZ
 have Hhi := Lib.hid hi
 clear hi
 have Hhbk := Lib.hid hbk
 clear hbk
 have Hhqv := Lib.hid hqv
 clear hqv
 have hE := ((Env.start w).tab hT).blk 31 #[.int .i64 F, .int .i64 S, .slice A n c, .bool si, .slice Ai ni ci, .bool ti, .slice Bi mi di] (g := w.heap.size) rfl
 have hE := hE.blk 29 #[.bool false, .slice none 0 0, .bool false, .slice none 0 0] (g := w.heap.size + 1) (by simp)
 obtain ⟨W0, hW0⟩ : ∃ W0, W0 = ((w.alloc (.cells #[.int .i64 F, .int .i64 S, .slice A n c, .bool si, .slice Ai ni ci, .bool ti, .slice Bi mi di] 31)).alloc (.cells #[.bool false, .slice none 0 0, .bool false, .slice none 0 0] 29)) := ⟨_, rfl⟩
 rw [← hW0] at hE
 have HW0 := Lib.hid hW0
 clear hW0
 go_enter Tryz.func18, Tryz.ntmps18
 go_upto_region 1 with (fail)
 rw [← HW0.out]
 obtain ⟨k1, k2, k3, k4, k5, k6, k7⟩ := (hE.here.1.2).c7
 go_wp2_with fail
 refine hE.br (cvalid_t (c := c) (ci := ci) (di := di) hE.h2 hB (hr.below hE.bel) hn hm Hhbk.out) ?_
 clear hE k1 k2 k3 k4 k5 k6 k7
 intro w8 hE
 obtain ⟨k9, k10, k11, k12, k13, k14, k15⟩ := (hE.here.1.2).c7
 go_wp2_with fail
 have hc := cdiscount_v (F := F) (S := S) (A := A) (n := n) (c := c) (ci := ci) (di := di) (Hhqv.out.below hE.bel) Hhi.out
 rw [← HhZ.out] at hc
 refine hE.fr (hc) ?_
 clear hE k9 k10 k11 k12 k13 k14 k15
 intro sv Av nv cv tv Bv mv dv w16 hE
 clear hc
 have hRl : w.heap.size ≤ w.heap.size + 1 := by omega
 obtain ⟨WW, hWW, hB, hV, hBel⟩ := ret_frac hE hE.here.1.2 hRl hE.here.2 cv dv
 obtain ⟨x0, x1, x2, x3⟩ := (hE.here.1.2).c4
 obtain ⟨fz0, fz1, fz2, fz3⟩ := hE.here.1.2.f4
 have HWW := Lib.hid hWW
 clear hWW
 go_wp2_with fail
 clear x0 x1 x2 x3
 rw [← HWW.out]
 obtain ⟨y0, y1, y2, y3⟩ := hB.c4
 refine bodyPost_ret (v := .tuple #[.agg #[.bool sv, .slice Av nv cv, .bool tv, .slice Bv mv dv], .int .i64 0]) (by simp [results, Tryz.results18, go_sem, y0, y1, y2, y3]) rfl ?_
 exact ⟨sv, Av, nv, cv, tv, Bv, mv, dv, rfl, hV, hBel⟩
set_option linter.unusedSimpArgs false in
set_option maxRecDepth 100000 in
set_option maxHeartbeats 4000000 in
theorem lRate_bad {F S E Y : Int} {A : Option Addr} {n c : Nat} {r : Nat → RH} {w : World} (hT : TabM w A n r) (hB : TabB n r) (hR : ¬ RightP F S n r E Y) :
  Calls Tryz.prog 90 #[.agg #[.int .i64 F, .int .i64 S, .slice A n c], .agg #[.int .i64 E, .int .i64 Y]] w (fun e w' => e = .returned (.tuple #[.agg #[.bool false, .slice none 0 0, .bool false, .slice none 0 0], .int .i64 2]) ∧ Below w.heap.size w w') := by
 have hE := (((Env.start w).tab hT).blk 24 #[.int .i64 F, .int .i64 S, .slice A n c] (g := w.heap.size) rfl).blk 33 #[.int .i64 E, .int .i64 Y] (g := w.heap.size + 1) (by simp)
 have hE := hE.blk 29 #[.bool false, .slice none 0 0, .bool false, .slice none 0 0] (g := w.heap.size + 1 + 1) (by simp)
 obtain ⟨W0, hW0⟩ : ∃ W0, W0 = (((w.alloc (.cells #[.int .i64 F, .int .i64 S, .slice A n c] 24)).alloc (.cells #[.int .i64 E, .int .i64 Y] 33)).alloc (.cells #[.bool false, .slice none 0 0, .bool false, .slice none 0 0] 29)) := ⟨_, rfl⟩
 rw [← hW0] at hE
 have HW0 := Lib.hid hW0
 clear hW0
 go_enter Tryz.func90, Tryz.ntmps90
 go_upto_region 1 with (fail)
 rw [← HW0.out]
 obtain ⟨k1, k2, k3⟩ := (hE.h2).c3
 obtain ⟨k4, k5⟩ := (hE.here.1.2).c2
 go_wp2_with fail
 refine hE.br (lright_f (c := c) hE.h3 hB hR) ?_
 clear hE k1 k2 k3 k4 k5
 intro w6 hE
 have hRl : w.heap.size ≤ w.heap.size + 1 + 1 := by omega
 have hB := (hE.here.2).s4 (.bool false) (.slice none 0 0) (.bool false) (.slice none 0 0)
 have hBel := bel4 hE.bel hRl (.bool false) (.slice none 0 0) (.bool false) (.slice none 0 0)
 obtain ⟨WW, hWW⟩ : ∃ x, x = ((((w6.setCell ⟨w.heap.size + 1 + 1, 0, none⟩ (.bool false)).setCell ⟨w.heap.size + 1 + 1, 1, none⟩ (.slice none 0 0)).setCell ⟨w.heap.size + 1 + 1, 2, none⟩ (.bool false)).setCell ⟨w.heap.size + 1 + 1, 3, none⟩ (.slice none 0 0)) := ⟨_, rfl⟩
 rw [← hWW] at hB hBel
 obtain ⟨x0, x1, x2, x3⟩ := (hE.here.2).c4
 obtain ⟨fz0, fz1, fz2, fz3⟩ := (hE.here.2).f4
 have HWW := Lib.hid hWW
 clear hWW
 go_wp2_with fail
 clear x0 x1 x2 x3
 rw [← HWW.out]
 obtain ⟨y0, y1, y2, y3⟩ := hB.c4
 refine bodyPost_ret (v := .tuple #[.agg #[.bool false, .slice none 0 0, .bool false, .slice none 0 0], .int .i64 2]) (by simp [results, Tryz.results90, go_sem, y0, y1, y2, y3]) rfl ?_
 exact ⟨rfl, hBel⟩
end Go.Proofs.YtmjlankpihnicaaGreat
