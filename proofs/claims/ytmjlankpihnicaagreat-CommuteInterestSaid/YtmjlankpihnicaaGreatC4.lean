/-
  The walks of commute's columns (by one pass, by three) and Columns.
-/
import Derived.Test.YtmjlankpihnicaaGreatHk
import Derived.Test.YtmjlankpihnicaaGreatC2
import Derived.Test.YtmjlankpihnicaaGreatC3
namespace Go.Proofs.YtmjlankpihnicaaGreat
open Go.RowKit

/-- What columns returns: N columns, the fractions J of them known. -/
def ColsQ (w : World) (N : Nat) (J : Nat → Nat → Prop) (q : Nat → Nat → Rat) (e : Ending) (w' : World) : Prop :=
 ∃ cv h, e = .returned (.tuple #[cv, .int .i64 0]) ∧ ColV w.heap.size cv N h w' ∧ ColQ h N J q w' ∧ Below w.heap.size w w'
/-- The fractions known after i passes. -/
def Jp (i : Nat) (_ j : Nat) : Prop := i = 3 ∨ (1 ≤ i ∧ (j = 0 ∨ j = 3)) ∨ (2 ≤ i ∧ (j = 1 ∨ j = 4))
set_option maxRecDepth 100000 in
theorem passes3 (p : Value) (w : World) : Calls Tryz.prog 49 #[p] w fun e w' => e = .returned (.slice (some ⟨w.heap.size, 0, none⟩) 3 3) ∧ w' = w.alloc (.cells #[.func (.func 50) #[p] #[], .func (.func 51) #[p] #[], .func (.func 52) #[p] #[]] 1) := by
 go_enter Tryz.func49, Tryz.ntmps49
 go_wp2_with fail
 go_ret
 exact ⟨rfl, rfl⟩
set_option linter.unusedSimpArgs false in
set_option maxRecDepth 100000 in
set_option maxHeartbeats 8000000 in
theorem ccols3_v {F S E Y : Int} {A : Option Addr} {n c : Nat} {r : Nat → RH} {si ti : Bool} {Ai Bi : Option Addr} {ni ci mi di : Nat} {fi gi : Nat → Nat} {w : World} (hT : TabM w A n r) (hB : TabB n r) (hr : FRd w Ai ni fi Bi mi gi) (hn : ni ≤ 1000000) (hm : mi ≤ 1000000) (hbk : BOK F S n r si ni fi ti mi gi) (hR : RightP F S n r E Y) (N : Nat) (hN : Cnt (1 / (1 + qOf si ni fi mi gi)) (fr F S n r E Y) N) (h80 : N ≤ 80) :
  Calls Tryz.prog 48 #[.agg #[.int .i64 F, .int .i64 S, .slice A n c, .bool si, .slice Ai ni ci, .bool ti, .slice Bi mi di], .agg #[.int .i64 E, .int .i64 Y], .func (.func 49) #[] #[]] w (ColsQ w N (fun _ _ => True) (colq (1 / (1 + qOf si ni fi mi gi)) (fr F S n r E Y) N)) := by
 obtain ⟨hqv, hi⟩ := intB_rti hr hbk.2
 have hN0 : 0 < N := hN.pos
 have hdis := hi.dis
 have hrts := rt_rates hT hR N
 obtain ⟨Z, hZ⟩ : ∃ z, z = qOf si ni fi mi gi := ⟨_, rfl⟩
 obtain ⟨f, hf⟩ : ∃ f, f = fr F S n r E Y := ⟨_, rfl⟩
 rw [← hZ] at hqv hi hdis
 rw [← hZ, ← hf] at hN ⊢
 have hrf : Rts f N := by rw [hf]; exact hrts
 clear hrts
 have HhT := Lib.hid hT
 clear hT
 have HhB := Lib.hid hB
 clear hB
 have Hhr := Lib.hid hr
 clear hr
 have Hhbk := Lib.hid hbk
 clear hbk
 have HhR := Lib.hid hR
 clear hR
 have HhN := Lib.hid hN
 clear hN
 have Hhqv := Lib.hid hqv
 clear hqv
 have Hhi := Lib.hid hi
 clear hi
 have Hhdis := Lib.hid hdis
 clear hdis
 have Hhrf := Lib.hid hrf
 clear hrf
 have HhZ := Lib.hid hZ
 clear hZ
 have Hhf := Lib.hid hf
 clear hf
 have hE := ((Env.start w).blk 31 #[.int .i64 F, .int .i64 S, .slice A n c, .bool si, .slice Ai ni ci, .bool ti, .slice Bi mi di] (g := w.heap.size) rfl).blk 33 #[.int .i64 E, .int .i64 Y] (g := w.heap.size + 1) (by simp)
 obtain ⟨W0, hW0⟩ : ∃ W0, W0 = ((w.alloc (.cells #[.int .i64 F, .int .i64 S, .slice A n c, .bool si, .slice Ai ni ci, .bool ti, .slice Bi mi di] 31)).alloc (.cells #[.int .i64 E, .int .i64 Y] 33)) := ⟨_, rfl⟩
 rw [← hW0] at hE
 have HW0 := Lib.hid hW0
 clear hW0
 go_enter Tryz.func48, Tryz.ntmps48
 go_upto_region 1 with (fail)
 rw [← HW0.out]
 obtain ⟨k1, k2, k3, k4, k5, k6, k7⟩ := (hE.here.1.2).c7
 obtain ⟨k8, k9⟩ := (hE.here.2).c2
 go_wp2_with fail
 refine hE.br (cvalid_t (c := c) (ci := ci) (di := di) (HhT.out.below hE.bel) HhB.out (Hhr.out.below hE.bel) hn hm Hhbk.out) ?_
 clear hE k1 k2 k3 k4 k5 k6 k7 k8 k9
 intro w10 hE
 obtain ⟨k11, k12, k13, k14, k15, k16, k17⟩ := (hE.here.1.2).c7
 obtain ⟨k18, k19⟩ := (hE.here.2).c2
 go_wp2_with fail
 refine hE.br (lright_t (c := c) (HhT.out.below hE.bel) HhB.out HhR.out) ?_
 clear hE k11 k12 k13 k14 k15 k16 k17 k18 k19
 intro w20 hE
 obtain ⟨k21, k22, k23, k24, k25, k26, k27⟩ := (hE.here.1.2).c7
 obtain ⟨k28, k29⟩ := (hE.here.2).c2
 go_upto_region 4 with (fail)
 clear k21 k22 k23 k24 k25 k26 k27 k28 k29
 obtain ⟨g30, hg30⟩ : ∃ g30, g30 = w20.heap.size := ⟨_, rfl⟩
 have hl30_0 : w.heap.size < g30 := by rw [hg30]; exact (hE.here.1.2).lt
 have hl30_1 : w.heap.size + 1 < g30 := by rw [hg30]; exact (hE.here.2).lt
 replace hE := hE.blk 113 #[.int .i64 F, .int .i64 S, .slice A n c, .bool si, .slice Ai ni ci, .bool ti, .slice Bi mi di, .int .i64 E, .int .i64 Y, .slice none 0 0] (g := g30) hg30.symm
 generalize w20.alloc (.cells #[.int .i64 F, .int .i64 S, .slice A n c, .bool si, .slice Ai ni ci, .bool ti, .slice Bi mi di, .int .i64 E, .int .i64 Y, .slice none 0 0] 113) = W30 at hE ⊢
 rw [← hg30]
 clear hg30
 go_wp2_with fail
 refine (passes3 _ _).mono ?_
 rintro e w31 ⟨rfl, rfl⟩
 obtain ⟨g32, hg32⟩ : ∃ g32, g32 = W30.heap.size := ⟨_, rfl⟩
 have hl32_0 : w.heap.size < g32 := by rw [hg32]; exact (hE.h2).lt
 have hl32_1 : w.heap.size + 1 < g32 := by rw [hg32]; exact (hE.here.1.2).lt
 have hl32_2 : g30 < g32 := by rw [hg32]; exact (hE.here.2).lt
 replace hE := hE.blk 1 #[.func (.func 50) #[.pointer (some ⟨g30, 0, none⟩)] #[], .func (.func 51) #[.pointer (some ⟨g30, 0, none⟩)] #[], .func (.func 52) #[.pointer (some ⟨g30, 0, none⟩)] #[]] (g := g32) hg32.symm
 generalize W30.alloc (.cells #[.func (.func 50) #[.pointer (some ⟨g30, 0, none⟩)] #[], .func (.func 51) #[.pointer (some ⟨g30, 0, none⟩)] #[], .func (.func 52) #[.pointer (some ⟨g30, 0, none⟩)] #[]] 1) = W32 at hE ⊢
 rw [← hg32]
 clear hg32
 go_wp2_with fail
 have hgw : w.heap.size ≤ g30 := by omega
 go_loopw [29] (fun x wr => ∃ (z : Int) (i m : Nat) (cs0 : Value) (h : Nat → Nat → Q8), x = .int .i64 z ∧ z = (i : Int) ∧ i ≤ 3 ∧ ((i = 0 ∧ m = 0 ∧ cs0 = .slice none 0 0) ∨ (0 < i ∧ m = N)) ∧ Env w (fun V => ((((True ∧ Blk 113 (g30) #[.int .i64 F, .int .i64 S, .slice A n c, .bool si, .slice Ai ni ci, .bool ti, .slice Bi mi di, .int .i64 E, .int .i64 Y, cs0] V) ∧ Blk 1 (g32) #[.func (.func 50) #[.pointer (some ⟨g30, 0, none⟩)] #[], .func (.func 51) #[.pointer (some ⟨g30, 0, none⟩)] #[], .func (.func 52) #[.pointer (some ⟨g30, 0, none⟩)] #[]] V) ∧ ColV w.heap.size cs0 m h V) ∧ ColQ h m (Jp i) (colq (1 / (1 + Z)) f N) V)) wr) (fun x _ => (3 - intOf x).toNat)
 case atStart =>
  exact ⟨0, 0, 0, .slice none 0 0, fun _ _ => Q8.z, rfl, rfl, by decide, .inl ⟨rfl, rfl, rfl⟩, (((((Env.again hE.bel).blkI (hE.here.1.2)).blkI (hE.here.2)).colv (.inl ⟨rfl, rfl⟩)).colq (fun k hk => absurd hk (Nat.not_lt_zero _)))⟩
 case round =>
  clear hE
  obtain ⟨z, i, m, cs0, h, rfl, hz, hi3, him, hE⟩ := hrel
  rcases (show i = 0 ∨ i = 1 ∨ i = 2 ∨ i = 3 by omega) with rfl | rfl | rfl | rfl
  ·
   obtain rfl : z = 0 := hz
   obtain ⟨rfl, rfl⟩ : m = 0 ∧ cs0 = .slice none 0 0 := him.elim (fun h => h.2) (fun h => absurd h.1 (by decide))
   have k0_0 := (hE.h2).cell 0
   have k0_1 := (hE.h2).cell 1
   have k0_2 := (hE.h2).cell 2
   replace k0_0 : wr.cell? ⟨g32, 0, none⟩ = some (.func (.func 50) #[.pointer (some ⟨g30, 0, none⟩)] #[]) := k0_0
   replace k0_1 : wr.cell? ⟨g32, 1, none⟩ = some (.func (.func 51) #[.pointer (some ⟨g30, 0, none⟩)] #[]) := k0_1
   replace k0_2 : wr.cell? ⟨g32, 2, none⟩ = some (.func (.func 52) #[.pointer (some ⟨g30, 0, none⟩)] #[]) := k0_2
   go_wp2_with fail
   refine (cpaid_v (w := w) (u := wr) hE.bel HhT.out HhB.out Hhqv.out Hhi.out HhR.out N (Hhf.out ▸ HhN.out) h80 g30 hgw (hE.h3)).mono ?_
   rintro e w9 ⟨⟨x, rfl⟩, cs1, h1, hb1, hv1, hq1, hk1, hbel1⟩
   rw [← Hhf.out] at hq1
   replace hE := (((((Env.again hbel1).blkI (hb1)).blkI ((hE.h2).kept hk1 (by omega))).colv (hv1.mono hE.bel.size)).colq (ColQ.sub (J' := Jp 1) hq1 (fun _ _ _ _ hj => by (try dsimp only); unfold Jp at hj; omega)))
   clear hb1 hv1 hq1 hk1 hbel1
   clear k0_0 k0_1 k0_2
   go_wp2_with fail
   go_roundw
   case rel => exact ⟨1, 1, _, _, _, rfl, rfl, by decide, .inr ⟨by decide, rfl⟩, hE⟩
   case measure => simp [intOf]
  ·
   obtain rfl : z = 1 := hz
   obtain rfl : m = N := him.elim (fun h => absurd h.1 (by decide)) (fun h => h.2)
   have hCV : ColV w.heap.size cs0 m h wr := hE.here.1.2
   rcases hCV with ⟨rfl, h0⟩ | ⟨gc, cap, rfl, hgc, hCB⟩
   · omega
   have k1_0 := (hE.h2).cell 0
   have k1_1 := (hE.h2).cell 1
   have k1_2 := (hE.h2).cell 2
   replace k1_0 : wr.cell? ⟨g32, 0, none⟩ = some (.func (.func 50) #[.pointer (some ⟨g30, 0, none⟩)] #[]) := k1_0
   replace k1_1 : wr.cell? ⟨g32, 1, none⟩ = some (.func (.func 51) #[.pointer (some ⟨g30, 0, none⟩)] #[]) := k1_1
   replace k1_2 : wr.cell? ⟨g32, 2, none⟩ = some (.func (.func 52) #[.pointer (some ⟨g30, 0, none⟩)] #[]) := k1_2
   go_wp2_with fail
   refine (csums_v (w := w) (u := wr) hE.bel Hhdis.out Hhrf.out h80 hN0 hgw hgc (hE.h3) hCB (ColQ.sub (hE.here.2) (fun _ _ _ _ hj => by (try dsimp only at hj); unfold Jp; omega))).mono ?_
   rintro e w9 ⟨⟨x, rfl⟩, h1, hc1, hq1, hk1, hbel1⟩
   replace hE := (((((Env.again hbel1).blkI ((hE.h3).kept hk1 (Blk.ne_col (hE.h3) hCB (by decide)))).blkI ((hE.h2).kept hk1 (Blk.ne_col (hE.h2) hCB (by decide)))).colv (.inr ⟨gc, cap, rfl, hgc, hc1⟩)).colq (ColQ.sub (J' := Jp 2) hq1 (fun _ _ _ _ hj => by (try dsimp only); unfold Jp at hj; omega)))
   clear hc1 hq1 hk1 hbel1 hCB
   clear k1_0 k1_1 k1_2
   go_wp2_with fail
   go_roundw
   case rel => exact ⟨2, 2, _, _, _, rfl, rfl, by decide, .inr ⟨by decide, rfl⟩, hE⟩
   case measure => simp [intOf]
  ·
   obtain rfl : z = 2 := hz
   obtain rfl : m = N := him.elim (fun h => absurd h.1 (by decide)) (fun h => h.2)
   have hCV : ColV w.heap.size cs0 m h wr := hE.here.1.2
   rcases hCV with ⟨rfl, h0⟩ | ⟨gc, cap, rfl, hgc, hCB⟩
   · omega
   have k2_0 := (hE.h2).cell 0
   have k2_1 := (hE.h2).cell 1
   have k2_2 := (hE.h2).cell 2
   replace k2_0 : wr.cell? ⟨g32, 0, none⟩ = some (.func (.func 50) #[.pointer (some ⟨g30, 0, none⟩)] #[]) := k2_0
   replace k2_1 : wr.cell? ⟨g32, 1, none⟩ = some (.func (.func 51) #[.pointer (some ⟨g30, 0, none⟩)] #[]) := k2_1
   replace k2_2 : wr.cell? ⟨g32, 2, none⟩ = some (.func (.func 52) #[.pointer (some ⟨g30, 0, none⟩)] #[]) := k2_2
   go_wp2_with fail
   refine (csumsS_v (w := w) (u := wr) hE.bel Hhdis.out Hhrf.out h80 hN0 hgw hgc (hE.h3) hCB (ColQ.sub (hE.here.2) (fun _ _ _ _ hj => by (try dsimp only at hj); unfold Jp; omega))).mono ?_
   rintro e w9 ⟨⟨x, rfl⟩, h1, hc1, hq1, hk1, hbel1⟩
   replace hE := (((((Env.again hbel1).blkI ((hE.h3).kept hk1 (Blk.ne_col (hE.h3) hCB (by decide)))).blkI ((hE.h2).kept hk1 (Blk.ne_col (hE.h2) hCB (by decide)))).colv (.inr ⟨gc, cap, rfl, hgc, hc1⟩)).colq (ColQ.sub (J' := Jp 3) hq1 (fun _ _ _ _ hj => trivial)))
   clear hc1 hq1 hk1 hbel1 hCB
   clear k2_0 k2_1 k2_2
   go_wp2_with fail
   go_roundw
   case rel => exact ⟨3, 3, _, _, _, rfl, rfl, by decide, .inr ⟨by decide, rfl⟩, hE⟩
   case measure => simp [intOf]
  ·
   obtain rfl : z = 3 := hz
   obtain rfl : m = N := him.elim (fun h => absurd h.1 (by decide)) (fun h => h.2)
   obtain ⟨k33, k34, k35, k36, k37, k38, k39, k40, k41, k42⟩ := (hE.h3).c10
   go_wp2_with fail
   refine bodyPost_ret (v := .tuple #[cs0, .int .i64 0]) (by simp [results, Tryz.results48, go_sem]) rfl ?_
   exact ⟨cs0, h, rfl, hE.here.1.2, ColQ.sub (hE.here.2) (fun _ _ _ _ hj => .inl rfl), hE.bel⟩
set_option maxRecDepth 100000 in
theorem passes1 (p : Value) (w : World) : Calls Tryz.prog 100 #[p] w fun e w' => e = .returned (.slice (some ⟨w.heap.size, 0, none⟩) 1 1) ∧ w' = w.alloc (.cells #[.func (.func 50) #[p] #[]] 1) := by
 go_enter Tryz.func100, Tryz.ntmps100
 go_wp2_with fail
 go_ret
 exact ⟨rfl, rfl⟩
set_option linter.unusedSimpArgs false in
set_option maxRecDepth 100000 in
set_option maxHeartbeats 8000000 in
theorem ccols1_v {F S E Y : Int} {A : Option Addr} {n c : Nat} {r : Nat → RH} {si ti : Bool} {Ai Bi : Option Addr} {ni ci mi di : Nat} {fi gi : Nat → Nat} {w : World} (hT : TabM w A n r) (hB : TabB n r) (hr : FRd w Ai ni fi Bi mi gi) (hn : ni ≤ 1000000) (hm : mi ≤ 1000000) (hbk : BOK F S n r si ni fi ti mi gi) (hR : RightP F S n r E Y) (N : Nat) (hN : Cnt (1 / (1 + qOf si ni fi mi gi)) (fr F S n r E Y) N) (h80 : N ≤ 80) :
  Calls Tryz.prog 48 #[.agg #[.int .i64 F, .int .i64 S, .slice A n c, .bool si, .slice Ai ni ci, .bool ti, .slice Bi mi di], .agg #[.int .i64 E, .int .i64 Y], .func (.func 100) #[] #[]] w (ColsQ w N (fun _ j => j = 0 ∨ j = 3) (colq (1 / (1 + qOf si ni fi mi gi)) (fr F S n r E Y) N)) := by
 obtain ⟨hqv, hi⟩ := intB_rti hr hbk.2
 have hN0 : 0 < N := hN.pos
 have hdis := hi.dis
 have hrts := rt_rates hT hR N
 obtain ⟨Z, hZ⟩ : ∃ z, z = qOf si ni fi mi gi := ⟨_, rfl⟩
 obtain ⟨f, hf⟩ : ∃ f, f = fr F S n r E Y := ⟨_, rfl⟩
 rw [← hZ] at hqv hi hdis
 rw [← hZ, ← hf] at hN ⊢
 have hrf : Rts f N := by rw [hf]; exact hrts
 clear hrts
 have HhT := Lib.hid hT
 clear hT
 have HhB := Lib.hid hB
 clear hB
 have Hhr := Lib.hid hr
 clear hr
 have Hhbk := Lib.hid hbk
 clear hbk
 have HhR := Lib.hid hR
 clear hR
 have HhN := Lib.hid hN
 clear hN
 have Hhqv := Lib.hid hqv
 clear hqv
 have Hhi := Lib.hid hi
 clear hi
 have Hhdis := Lib.hid hdis
 clear hdis
 have Hhrf := Lib.hid hrf
 clear hrf
 have HhZ := Lib.hid hZ
 clear hZ
 have Hhf := Lib.hid hf
 clear hf
 have hE := ((Env.start w).blk 31 #[.int .i64 F, .int .i64 S, .slice A n c, .bool si, .slice Ai ni ci, .bool ti, .slice Bi mi di] (g := w.heap.size) rfl).blk 33 #[.int .i64 E, .int .i64 Y] (g := w.heap.size + 1) (by simp)
 obtain ⟨W0, hW0⟩ : ∃ W0, W0 = ((w.alloc (.cells #[.int .i64 F, .int .i64 S, .slice A n c, .bool si, .slice Ai ni ci, .bool ti, .slice Bi mi di] 31)).alloc (.cells #[.int .i64 E, .int .i64 Y] 33)) := ⟨_, rfl⟩
 rw [← hW0] at hE
 have HW0 := Lib.hid hW0
 clear hW0
 go_enter Tryz.func48, Tryz.ntmps48
 go_upto_region 1 with (fail)
 rw [← HW0.out]
 obtain ⟨k1, k2, k3, k4, k5, k6, k7⟩ := (hE.here.1.2).c7
 obtain ⟨k8, k9⟩ := (hE.here.2).c2
 go_wp2_with fail
 refine hE.br (cvalid_t (c := c) (ci := ci) (di := di) (HhT.out.below hE.bel) HhB.out (Hhr.out.below hE.bel) hn hm Hhbk.out) ?_
 clear hE k1 k2 k3 k4 k5 k6 k7 k8 k9
 intro w10 hE
 obtain ⟨k11, k12, k13, k14, k15, k16, k17⟩ := (hE.here.1.2).c7
 obtain ⟨k18, k19⟩ := (hE.here.2).c2
 go_wp2_with fail
 refine hE.br (lright_t (c := c) (HhT.out.below hE.bel) HhB.out HhR.out) ?_
 clear hE k11 k12 k13 k14 k15 k16 k17 k18 k19
 intro w20 hE
 obtain ⟨k21, k22, k23, k24, k25, k26, k27⟩ := (hE.here.1.2).c7
 obtain ⟨k28, k29⟩ := (hE.here.2).c2
 go_upto_region 4 with (fail)
 clear k21 k22 k23 k24 k25 k26 k27 k28 k29
 obtain ⟨g30, hg30⟩ : ∃ g30, g30 = w20.heap.size := ⟨_, rfl⟩
 have hl30_0 : w.heap.size < g30 := by rw [hg30]; exact (hE.here.1.2).lt
 have hl30_1 : w.heap.size + 1 < g30 := by rw [hg30]; exact (hE.here.2).lt
 replace hE := hE.blk 113 #[.int .i64 F, .int .i64 S, .slice A n c, .bool si, .slice Ai ni ci, .bool ti, .slice Bi mi di, .int .i64 E, .int .i64 Y, .slice none 0 0] (g := g30) hg30.symm
 generalize w20.alloc (.cells #[.int .i64 F, .int .i64 S, .slice A n c, .bool si, .slice Ai ni ci, .bool ti, .slice Bi mi di, .int .i64 E, .int .i64 Y, .slice none 0 0] 113) = W30 at hE ⊢
 rw [← hg30]
 clear hg30
 go_wp2_with fail
 refine (passes1 _ _).mono ?_
 rintro e w31 ⟨rfl, rfl⟩
 obtain ⟨g32, hg32⟩ : ∃ g32, g32 = W30.heap.size := ⟨_, rfl⟩
 have hl32_0 : w.heap.size < g32 := by rw [hg32]; exact (hE.h2).lt
 have hl32_1 : w.heap.size + 1 < g32 := by rw [hg32]; exact (hE.here.1.2).lt
 have hl32_2 : g30 < g32 := by rw [hg32]; exact (hE.here.2).lt
 replace hE := hE.blk 1 #[.func (.func 50) #[.pointer (some ⟨g30, 0, none⟩)] #[]] (g := g32) hg32.symm
 generalize W30.alloc (.cells #[.func (.func 50) #[.pointer (some ⟨g30, 0, none⟩)] #[]] 1) = W32 at hE ⊢
 rw [← hg32]
 clear hg32
 go_wp2_with fail
 have hgw : w.heap.size ≤ g30 := by omega
 go_loopw [29] (fun x wr => ∃ (z : Int) (i m : Nat) (cs0 : Value) (h : Nat → Nat → Q8), x = .int .i64 z ∧ z = (i : Int) ∧ i ≤ 1 ∧ ((i = 0 ∧ m = 0 ∧ cs0 = .slice none 0 0) ∨ (0 < i ∧ m = N)) ∧ Env w (fun V => ((((True ∧ Blk 113 (g30) #[.int .i64 F, .int .i64 S, .slice A n c, .bool si, .slice Ai ni ci, .bool ti, .slice Bi mi di, .int .i64 E, .int .i64 Y, cs0] V) ∧ Blk 1 (g32) #[.func (.func 50) #[.pointer (some ⟨g30, 0, none⟩)] #[]] V) ∧ ColV w.heap.size cs0 m h V) ∧ ColQ h m (Jp i) (colq (1 / (1 + Z)) f N) V)) wr) (fun x _ => (1 - intOf x).toNat)
 case atStart =>
  exact ⟨0, 0, 0, .slice none 0 0, fun _ _ => Q8.z, rfl, rfl, by decide, .inl ⟨rfl, rfl, rfl⟩, (((((Env.again hE.bel).blkI (hE.here.1.2)).blkI (hE.here.2)).colv (.inl ⟨rfl, rfl⟩)).colq (fun k hk => absurd hk (Nat.not_lt_zero _)))⟩
 case round =>
  clear hE
  obtain ⟨z, i, m, cs0, h, rfl, hz, hi3, him, hE⟩ := hrel
  rcases (show i = 0 ∨ i = 1 by omega) with rfl | rfl
  ·
   obtain rfl : z = 0 := hz
   obtain ⟨rfl, rfl⟩ : m = 0 ∧ cs0 = .slice none 0 0 := him.elim (fun h => h.2) (fun h => absurd h.1 (by decide))
   have k0_0 := (hE.h2).cell 0
   replace k0_0 : wr.cell? ⟨g32, 0, none⟩ = some (.func (.func 50) #[.pointer (some ⟨g30, 0, none⟩)] #[]) := k0_0
   go_wp2_with fail
   refine (cpaid_v (w := w) (u := wr) hE.bel HhT.out HhB.out Hhqv.out Hhi.out HhR.out N (Hhf.out ▸ HhN.out) h80 g30 hgw (hE.h3)).mono ?_
   rintro e w9 ⟨⟨x, rfl⟩, cs1, h1, hb1, hv1, hq1, hk1, hbel1⟩
   rw [← Hhf.out] at hq1
   replace hE := (((((Env.again hbel1).blkI (hb1)).blkI ((hE.h2).kept hk1 (by omega))).colv (hv1.mono hE.bel.size)).colq (ColQ.sub (J' := Jp 1) hq1 (fun _ _ _ _ hj => by (try dsimp only); unfold Jp at hj; omega)))
   clear hb1 hv1 hq1 hk1 hbel1
   clear k0_0
   go_wp2_with fail
   go_roundw
   case rel => exact ⟨1, 1, _, _, _, rfl, rfl, by decide, .inr ⟨by decide, rfl⟩, hE⟩
   case measure => simp [intOf]
  ·
   obtain rfl : z = 1 := hz
   obtain rfl : m = N := him.elim (fun h => absurd h.1 (by decide)) (fun h => h.2)
   obtain ⟨k33, k34, k35, k36, k37, k38, k39, k40, k41, k42⟩ := (hE.h3).c10
   go_wp2_with fail
   refine bodyPost_ret (v := .tuple #[cs0, .int .i64 0]) (by simp [results, Tryz.results48, go_sem]) rfl ?_
   exact ⟨cs0, h, rfl, hE.here.1.2, ColQ.sub (hE.here.2) (fun _ _ _ _ hj => .inr (.inl ⟨Nat.le_refl _, hj⟩)), hE.bel⟩
set_option maxRecDepth 100000 in
theorem passesE (p : Value) (w : World) : Calls Tryz.prog 65 #[p] w fun e w' => e = .returned (.slice (some ⟨w.heap.size, 0, none⟩) 1 1) ∧ w' = w.alloc (.cells #[.func (.func 50) #[p] #[]] 1) := by
 go_enter Tryz.func65, Tryz.ntmps65
 go_wp2_with fail
 go_ret
 exact ⟨rfl, rfl⟩
set_option linter.unusedSimpArgs false in
set_option maxRecDepth 100000 in
set_option maxHeartbeats 8000000 in
theorem ccolsE_v {F S E Y : Int} {A : Option Addr} {n c : Nat} {r : Nat → RH} {si ti : Bool} {Ai Bi : Option Addr} {ni ci mi di : Nat} {fi gi : Nat → Nat} {w : World} (hT : TabM w A n r) (hB : TabB n r) (hr : FRd w Ai ni fi Bi mi gi) (hn : ni ≤ 1000000) (hm : mi ≤ 1000000) (hbk : BOK F S n r si ni fi ti mi gi) (hR : RightP F S n r E Y) (N : Nat) (hN : Cnt (1 / (1 + qOf si ni fi mi gi)) (fr F S n r E Y) N) (h80 : N ≤ 80) :
  Calls Tryz.prog 48 #[.agg #[.int .i64 F, .int .i64 S, .slice A n c, .bool si, .slice Ai ni ci, .bool ti, .slice Bi mi di], .agg #[.int .i64 E, .int .i64 Y], .func (.func 65) #[] #[]] w (ColsQ w N (fun _ j => j = 0 ∨ j = 3) (colq (1 / (1 + qOf si ni fi mi gi)) (fr F S n r E Y) N)) := by
 obtain ⟨hqv, hi⟩ := intB_rti hr hbk.2
 have hN0 : 0 < N := hN.pos
 have hdis := hi.dis
 have hrts := rt_rates hT hR N
 obtain ⟨Z, hZ⟩ : ∃ z, z = qOf si ni fi mi gi := ⟨_, rfl⟩
 obtain ⟨f, hf⟩ : ∃ f, f = fr F S n r E Y := ⟨_, rfl⟩
 rw [← hZ] at hqv hi hdis
 rw [← hZ, ← hf] at hN ⊢
 have hrf : Rts f N := by rw [hf]; exact hrts
 clear hrts
 have HhT := Lib.hid hT
 clear hT
 have HhB := Lib.hid hB
 clear hB
 have Hhr := Lib.hid hr
 clear hr
 have Hhbk := Lib.hid hbk
 clear hbk
 have HhR := Lib.hid hR
 clear hR
 have HhN := Lib.hid hN
 clear hN
 have Hhqv := Lib.hid hqv
 clear hqv
 have Hhi := Lib.hid hi
 clear hi
 have Hhdis := Lib.hid hdis
 clear hdis
 have Hhrf := Lib.hid hrf
 clear hrf
 have HhZ := Lib.hid hZ
 clear hZ
 have Hhf := Lib.hid hf
 clear hf
 have hE := ((Env.start w).blk 31 #[.int .i64 F, .int .i64 S, .slice A n c, .bool si, .slice Ai ni ci, .bool ti, .slice Bi mi di] (g := w.heap.size) rfl).blk 33 #[.int .i64 E, .int .i64 Y] (g := w.heap.size + 1) (by simp)
 obtain ⟨W0, hW0⟩ : ∃ W0, W0 = ((w.alloc (.cells #[.int .i64 F, .int .i64 S, .slice A n c, .bool si, .slice Ai ni ci, .bool ti, .slice Bi mi di] 31)).alloc (.cells #[.int .i64 E, .int .i64 Y] 33)) := ⟨_, rfl⟩
 rw [← hW0] at hE
 have HW0 := Lib.hid hW0
 clear hW0
 go_enter Tryz.func48, Tryz.ntmps48
 go_upto_region 1 with (fail)
 rw [← HW0.out]
 obtain ⟨k1, k2, k3, k4, k5, k6, k7⟩ := (hE.here.1.2).c7
 obtain ⟨k8, k9⟩ := (hE.here.2).c2
 go_wp2_with fail
 refine hE.br (cvalid_t (c := c) (ci := ci) (di := di) (HhT.out.below hE.bel) HhB.out (Hhr.out.below hE.bel) hn hm Hhbk.out) ?_
 clear hE k1 k2 k3 k4 k5 k6 k7 k8 k9
 intro w10 hE
 obtain ⟨k11, k12, k13, k14, k15, k16, k17⟩ := (hE.here.1.2).c7
 obtain ⟨k18, k19⟩ := (hE.here.2).c2
 go_wp2_with fail
 refine hE.br (lright_t (c := c) (HhT.out.below hE.bel) HhB.out HhR.out) ?_
 clear hE k11 k12 k13 k14 k15 k16 k17 k18 k19
 intro w20 hE
 obtain ⟨k21, k22, k23, k24, k25, k26, k27⟩ := (hE.here.1.2).c7
 obtain ⟨k28, k29⟩ := (hE.here.2).c2
 go_upto_region 4 with (fail)
 clear k21 k22 k23 k24 k25 k26 k27 k28 k29
 obtain ⟨g30, hg30⟩ : ∃ g30, g30 = w20.heap.size := ⟨_, rfl⟩
 have hl30_0 : w.heap.size < g30 := by rw [hg30]; exact (hE.here.1.2).lt
 have hl30_1 : w.heap.size + 1 < g30 := by rw [hg30]; exact (hE.here.2).lt
 replace hE := hE.blk 113 #[.int .i64 F, .int .i64 S, .slice A n c, .bool si, .slice Ai ni ci, .bool ti, .slice Bi mi di, .int .i64 E, .int .i64 Y, .slice none 0 0] (g := g30) hg30.symm
 generalize w20.alloc (.cells #[.int .i64 F, .int .i64 S, .slice A n c, .bool si, .slice Ai ni ci, .bool ti, .slice Bi mi di, .int .i64 E, .int .i64 Y, .slice none 0 0] 113) = W30 at hE ⊢
 rw [← hg30]
 clear hg30
 go_wp2_with fail
 refine (passesE _ _).mono ?_
 rintro e w31 ⟨rfl, rfl⟩
 obtain ⟨g32, hg32⟩ : ∃ g32, g32 = W30.heap.size := ⟨_, rfl⟩
 have hl32_0 : w.heap.size < g32 := by rw [hg32]; exact (hE.h2).lt
 have hl32_1 : w.heap.size + 1 < g32 := by rw [hg32]; exact (hE.here.1.2).lt
 have hl32_2 : g30 < g32 := by rw [hg32]; exact (hE.here.2).lt
 replace hE := hE.blk 1 #[.func (.func 50) #[.pointer (some ⟨g30, 0, none⟩)] #[]] (g := g32) hg32.symm
 generalize W30.alloc (.cells #[.func (.func 50) #[.pointer (some ⟨g30, 0, none⟩)] #[]] 1) = W32 at hE ⊢
 rw [← hg32]
 clear hg32
 go_wp2_with fail
 have hgw : w.heap.size ≤ g30 := by omega
 go_loopw [29] (fun x wr => ∃ (z : Int) (i m : Nat) (cs0 : Value) (h : Nat → Nat → Q8), x = .int .i64 z ∧ z = (i : Int) ∧ i ≤ 1 ∧ ((i = 0 ∧ m = 0 ∧ cs0 = .slice none 0 0) ∨ (0 < i ∧ m = N)) ∧ Env w (fun V => ((((True ∧ Blk 113 (g30) #[.int .i64 F, .int .i64 S, .slice A n c, .bool si, .slice Ai ni ci, .bool ti, .slice Bi mi di, .int .i64 E, .int .i64 Y, cs0] V) ∧ Blk 1 (g32) #[.func (.func 50) #[.pointer (some ⟨g30, 0, none⟩)] #[]] V) ∧ ColV w.heap.size cs0 m h V) ∧ ColQ h m (Jp i) (colq (1 / (1 + Z)) f N) V)) wr) (fun x _ => (1 - intOf x).toNat)
 case atStart =>
  exact ⟨0, 0, 0, .slice none 0 0, fun _ _ => Q8.z, rfl, rfl, by decide, .inl ⟨rfl, rfl, rfl⟩, (((((Env.again hE.bel).blkI (hE.here.1.2)).blkI (hE.here.2)).colv (.inl ⟨rfl, rfl⟩)).colq (fun k hk => absurd hk (Nat.not_lt_zero _)))⟩
 case round =>
  clear hE
  obtain ⟨z, i, m, cs0, h, rfl, hz, hi3, him, hE⟩ := hrel
  rcases (show i = 0 ∨ i = 1 by omega) with rfl | rfl
  ·
   obtain rfl : z = 0 := hz
   obtain ⟨rfl, rfl⟩ : m = 0 ∧ cs0 = .slice none 0 0 := him.elim (fun h => h.2) (fun h => absurd h.1 (by decide))
   have k0_0 := (hE.h2).cell 0
   replace k0_0 : wr.cell? ⟨g32, 0, none⟩ = some (.func (.func 50) #[.pointer (some ⟨g30, 0, none⟩)] #[]) := k0_0
   go_wp2_with fail
   refine (cpaid_v (w := w) (u := wr) hE.bel HhT.out HhB.out Hhqv.out Hhi.out HhR.out N (Hhf.out ▸ HhN.out) h80 g30 hgw (hE.h3)).mono ?_
   rintro e w9 ⟨⟨x, rfl⟩, cs1, h1, hb1, hv1, hq1, hk1, hbel1⟩
   rw [← Hhf.out] at hq1
   replace hE := (((((Env.again hbel1).blkI (hb1)).blkI ((hE.h2).kept hk1 (by omega))).colv (hv1.mono hE.bel.size)).colq (ColQ.sub (J' := Jp 1) hq1 (fun _ _ _ _ hj => by (try dsimp only); unfold Jp at hj; omega)))
   clear hb1 hv1 hq1 hk1 hbel1
   clear k0_0
   go_wp2_with fail
   go_roundw
   case rel => exact ⟨1, 1, _, _, _, rfl, rfl, by decide, .inr ⟨by decide, rfl⟩, hE⟩
   case measure => simp [intOf]
  ·
   obtain rfl : z = 1 := hz
   obtain rfl : m = N := him.elim (fun h => absurd h.1 (by decide)) (fun h => h.2)
   obtain ⟨k33, k34, k35, k36, k37, k38, k39, k40, k41, k42⟩ := (hE.h3).c10
   go_wp2_with fail
   refine bodyPost_ret (v := .tuple #[cs0, .int .i64 0]) (by simp [results, Tryz.results48, go_sem]) rfl ?_
   exact ⟨cs0, h, rfl, hE.here.1.2, ColQ.sub (hE.here.2) (fun _ _ _ _ hj => .inr (.inl ⟨Nat.le_refl _, hj⟩)), hE.bel⟩
set_option linter.unusedSimpArgs false in
set_option maxRecDepth 100000 in
set_option maxHeartbeats 4000000 in
theorem cColumns_v {F S E Y : Int} {A : Option Addr} {n c : Nat} {r : Nat → RH} {si ti : Bool} {Ai Bi : Option Addr} {ni ci mi di : Nat} {fi gi : Nat → Nat} {w : World} (hT : TabM w A n r) (hB : TabB n r) (hr : FRd w Ai ni fi Bi mi gi) (hn : ni ≤ 1000000) (hm : mi ≤ 1000000) (hbk : BOK F S n r si ni fi ti mi gi) (hR : RightP F S n r E Y) (N : Nat) (hN : Cnt (1 / (1 + qOf si ni fi mi gi)) (fr F S n r E Y) N) (h80 : N ≤ 80) :
  Calls Tryz.prog 17 #[.agg #[.int .i64 F, .int .i64 S, .slice A n c, .bool si, .slice Ai ni ci, .bool ti, .slice Bi mi di], .agg #[.int .i64 E, .int .i64 Y]] w (ColsQ w N (fun _ _ => True) (colq (1 / (1 + qOf si ni fi mi gi)) (fr F S n r E Y) N)) := by
 have HhT := Lib.hid hT
 clear hT
 have HhB := Lib.hid hB
 clear hB
 have Hhr := Lib.hid hr
 clear hr
 have Hhbk := Lib.hid hbk
 clear hbk
 have HhR := Lib.hid hR
 clear hR
 have HhN := Lib.hid hN
 clear hN
 have hE := ((Env.start w).blk 31 #[.int .i64 F, .int .i64 S, .slice A n c, .bool si, .slice Ai ni ci, .bool ti, .slice Bi mi di] (g := w.heap.size) rfl).blk 33 #[.int .i64 E, .int .i64 Y] (g := w.heap.size + 1) (by simp)
 obtain ⟨W0, hW0⟩ : ∃ W0, W0 = ((w.alloc (.cells #[.int .i64 F, .int .i64 S, .slice A n c, .bool si, .slice Ai ni ci, .bool ti, .slice Bi mi di] 31)).alloc (.cells #[.int .i64 E, .int .i64 Y] 33)) := ⟨_, rfl⟩
 rw [← hW0] at hE
 have HW0 := Lib.hid hW0
 clear hW0
 go_enter Tryz.func17, Tryz.ntmps17
 go_upto_region 1 with (fail)
 rw [← HW0.out]
 obtain ⟨k1, k2, k3, k4, k5, k6, k7⟩ := (hE.here.1.2).c7
 obtain ⟨k8, k9⟩ := (hE.here.2).c2
 go_wp2_with fail
 refine (ccols3_v (c := c) (ci := ci) (di := di) (HhT.out.below hE.bel) HhB.out (Hhr.out.below hE.bel) hn hm Hhbk.out HhR.out N HhN.out h80).mono ?_
 clear k1 k2 k3 k4 k5 k6 k7 k8 k9
 rintro e w9 ⟨cv, h, rfl, hv, hq, hb⟩
 have hsz := hE.bel.size
 replace hE := hE.step hb
 go_wp2_with fail
 refine bodyPost_ret (v := .tuple #[cv, .int .i64 0]) (by simp [results, Tryz.results17, go_sem]) rfl ?_
 exact ⟨cv, h, rfl, hv.mono hsz, hq, hE.bel⟩
end Go.Proofs.YtmjlankpihnicaaGreat
