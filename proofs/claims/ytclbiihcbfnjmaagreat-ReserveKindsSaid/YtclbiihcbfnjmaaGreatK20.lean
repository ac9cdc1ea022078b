/-
  Parts.
-/
import Derived.Test.YtclbiihcbfnjmaaGreatK8
import Derived.Test.YtclbiihcbfnjmaaGreatC2
import Derived.Test.YtclbiihcbfnjmaaGreatC3
import Derived.Test.YtclbiihcbfnjmaaGreatK17
import Derived.Test.YtclbiihcbfnjmaaGreatK18
import Derived.RangeFuncCalls
import Derived.RangeFuncLeaves
import Derived.RangeFuncBox
import Derived.Shelf.Abstract
import Derived.Shelf.RegionOpen
import Derived.OwnWalkIn
import Derived.TacticsInMore
import Derived.LoopNIn
import Derived.LoopIn
import Derived.Deep.MidRow
import Derived.Test.YtclbiihcbfnjmaaGreatK15
import Derived.Test.YtclbiihcbfnjmaaGreatK2
import Derived.Test.YtclbiihcbfnjmaaGreatK19
import Derived.Test.YtclbiihcbfnjmaaGreatK14
set_option maxRecDepth 100000
set_option linter.unusedSimpArgs false
set_option maxHeartbeats 8000000
namespace Go.Proofs.YtclbiihcbfnjmaaGreat
section
open Go.RowKit

def ColsQ (w : World) (N : Nat) (J : Nat → Nat → Prop) (q : Nat → Nat → Rat) (e : Ending) (w' : World) : Prop :=
 ∃ cv h, e = .returned (.tuple #[cv, .int .i64 0]) ∧ ColV w.heap.size cv N h w' ∧ ColQ h N J q w' ∧ Below w.heap.size w w'
def Jp (i : Nat) (_ j : Nat) : Prop := i = 3 ∨ (1 ≤ i ∧ (j = 0 ∨ j = 3)) ∨ (2 ≤ i ∧ (j = 1 ∨ j = 4))
theorem passes3 (p : Value) (w : World) : Calls Tryz.prog 56 #[p] w fun e w' => e = .returned (.slice (some ⟨w.heap.size, 0, none⟩) 3 3) ∧ w' = w.alloc (.cells #[.func (.func 57) #[p] #[], .func (.func 58) #[p] #[], .func (.func 59) #[p] #[]] 1) := by
 go_enter Tryz.func56, Tryz.ntmps56
 go_wp2_with fail
 go_ret
 exact ⟨rfl, rfl⟩
theorem ccols3_v {F S E Y : Int} {A : Option Addr} {n c : Nat} {r : Nat → RH} {si ti : Bool} {Ai Bi : Option Addr} {ni ci mi di : Nat} {fi gi : Nat → Nat} {w : World} (hT : TabM w A n r) (hB : TabB n r) (hr : FRd w Ai ni fi Bi mi gi) (hn : ni ≤ 1000000) (hm : mi ≤ 1000000) (hbk : BOK F S n r si ni fi ti mi gi) (hR : RightP F S n r E Y) (N : Nat) (hN : Cnt (1 / (1 + qOf si ni fi mi gi)) (fr F S n r E Y) N) (h80 : N ≤ 80) :
  Calls Tryz.prog 55 #[.agg (qb7 F S A n c si Ai ni ci ti Bi mi di), .agg #[.int .i64 E, .int .i64 Y], .func (.func 56) #[] #[]] w (ColsQ w N (fun _ _ => True) (colq (1 / (1 + qOf si ni fi mi gi)) (fr F S n r E Y) N)) := by
 obtain ⟨hqv, hi⟩ := intB_rti hr hbk.2;have hN0 : 0 < N := hN.pos;have hdis := hi.dis;have hrts := rt_rates hT hR N
 obtain ⟨Z, hZ⟩ : ∃ z, z = qOf si ni fi mi gi := ⟨_, rfl⟩
 obtain ⟨f, hf⟩ : ∃ f, f = fr F S n r E Y := ⟨_, rfl⟩
 rw [← hZ] at hqv hi hdis;rw [← hZ, ← hf] at hN ⊢
 have hrf : Rts f N := by rw [hf]; exact hrts
 clear hrts;have HhT := Lib.hid hT;clear hT;have HhB := Lib.hid hB;clear hB;have Hhr := Lib.hid hr;clear hr;have Hhbk := Lib.hid hbk;clear hbk;have HhR := Lib.hid hR;clear hR;have HhN := Lib.hid hN;clear hN;have Hhqv := Lib.hid hqv;clear hqv;have Hhi := Lib.hid hi;clear hi;have Hhdis := Lib.hid hdis;clear hdis;have Hhrf := Lib.hid hrf;clear hrf;have HhZ := Lib.hid hZ;clear hZ;have Hhf := Lib.hid hf;clear hf;have hE := ((Env.start w).blk 31 (qb7 F S A n c si Ai ni ci ti Bi mi di) (g := w.heap.size) rfl).blk 33 #[.int .i64 E, .int .i64 Y] (g := w.heap.size + 1) (by simp)
 obtain ⟨W0, hW0⟩ : ∃ W0, W0 = ((w.alloc (.cells (qb7 F S A n c si Ai ni ci ti Bi mi di) 31)).alloc (.cells #[.int .i64 E, .int .i64 Y] 33)) := ⟨_, rfl⟩
 rw [← hW0] at hE;have HW0 := Lib.hid hW0;clear hW0
 go_enter Tryz.func55, Tryz.ntmps55
 go_upto_region 1 with (fail)
 rw [← HW0.out];obtain ⟨k1, k2, k3, k4, k5, k6, k7⟩ := (hE.here.1.2).c7;obtain ⟨k8, k9⟩ := (hE.here.2).c2;go_wp2_with fail
 refine hE.br (cvalid_t (c := c) (ci := ci) (di := di) (HhT.out.below hE.bel) HhB.out (Hhr.out.below hE.bel) hn hm Hhbk.out) ?_;clear hE k1 k2 k3 k4 k5 k6 k7 k8 k9;intro w10 hE;obtain ⟨k11, k12, k13, k14, k15, k16, k17⟩ := (hE.here.1.2).c7;obtain ⟨k18, k19⟩ := (hE.here.2).c2;go_wp2_with fail
 refine hE.br (lright_t (c := c) (HhT.out.below hE.bel) HhB.out HhR.out) ?_;clear hE k11 k12 k13 k14 k15 k16 k17 k18 k19;intro w20 hE;obtain ⟨k21, k22, k23, k24, k25, k26, k27⟩ := (hE.here.1.2).c7;obtain ⟨k28, k29⟩ := (hE.here.2).c2
 go_upto_region 4 with (fail)
 clear k21 k22 k23 k24 k25 k26 k27 k28 k29
 obtain ⟨g30, hg30⟩ : ∃ g30, g30 = w20.heap.size := ⟨_, rfl⟩
 have hl30_0 : w.heap.size < g30 := by rw [hg30]; exact (hE.here.1.2).lt
 have hl30_1 : w.heap.size + 1 < g30 := by rw [hg30]; exact (hE.here.2).lt
 replace hE := hE.blk 133 #[.int .i64 F, .int .i64 S, .slice A n c, .bool si, .slice Ai ni ci, .bool ti, .slice Bi mi di, .int .i64 E, .int .i64 Y, .slice none 0 0] (g := g30) hg30.symm;generalize w20.alloc (.cells #[.int .i64 F, .int .i64 S, .slice A n c, .bool si, .slice Ai ni ci, .bool ti, .slice Bi mi di, .int .i64 E, .int .i64 Y, .slice none 0 0] 133) = W30 at hE ⊢;rw [← hg30];clear hg30;go_wp2_with fail
 refine (passes3 _ _).mono ?_
 rintro e w31 ⟨rfl, rfl⟩
 obtain ⟨g32, hg32⟩ : ∃ g32, g32 = W30.heap.size := ⟨_, rfl⟩
 have hl32_0 : w.heap.size < g32 := by rw [hg32]; exact (hE.h2).lt
 have hl32_1 : w.heap.size + 1 < g32 := by rw [hg32]; exact (hE.here.1.2).lt
 have hl32_2 : g30 < g32 := by rw [hg32]; exact (hE.here.2).lt
 replace hE := hE.blk 1 #[.func (.func 57) #[.pointer (some ⟨g30, 0, none⟩)] #[], .func (.func 58) #[.pointer (some ⟨g30, 0, none⟩)] #[], .func (.func 59) #[.pointer (some ⟨g30, 0, none⟩)] #[]] (g := g32) hg32.symm;generalize W30.alloc (.cells #[.func (.func 57) #[.pointer (some ⟨g30, 0, none⟩)] #[], .func (.func 58) #[.pointer (some ⟨g30, 0, none⟩)] #[], .func (.func 59) #[.pointer (some ⟨g30, 0, none⟩)] #[]] 1) = W32 at hE ⊢;rw [← hg32];clear hg32;go_wp2_with fail
 have hgw : w.heap.size ≤ g30 := by omega
 go_loopw [29] (fun x wr => ∃ (z : Int) (i m : Nat) (cs0 : Value) (h : Nat → Nat → Q8), x = .int .i64 z ∧ z = (i : Int) ∧ i ≤ 3 ∧ ((i = 0 ∧ m = 0 ∧ cs0 = .slice none 0 0) ∨ (0 < i ∧ m = N)) ∧ Env w (fun V => ((((True ∧ Blk 133 (g30) #[.int .i64 F, .int .i64 S, .slice A n c, .bool si, .slice Ai ni ci, .bool ti, .slice Bi mi di, .int .i64 E, .int .i64 Y, cs0] V) ∧ Blk 1 (g32) #[.func (.func 57) #[.pointer (some ⟨g30, 0, none⟩)] #[], .func (.func 58) #[.pointer (some ⟨g30, 0, none⟩)] #[], .func (.func 59) #[.pointer (some ⟨g30, 0, none⟩)] #[]] V) ∧ ColV w.heap.size cs0 m h V) ∧ ColQ h m (Jp i) (colq (1 / (1 + Z)) f N) V)) wr) (fun x _ => (3 - intOf x).toNat)
 case atStart =>
  exact ⟨0, 0, 0, .slice none 0 0, fun _ _ => Q8.z, rfl, rfl, by decide, .inl ⟨rfl, rfl, rfl⟩, (((((Env.again hE.bel).blkI (hE.here.1.2)).blkI (hE.here.2)).colv (.inl ⟨rfl, rfl⟩)).colq (fun k hk => absurd hk (Nat.not_lt_zero _)))⟩
 case round =>
  clear hE;obtain ⟨z, i, m, cs0, h, rfl, hz, hi3, him, hE⟩ := hrel
  rcases (show i = 0 ∨ i = 1 ∨ i = 2 ∨ i = 3 by omega) with rfl | rfl | rfl | rfl
  ·
   obtain rfl : z = 0 := hz;obtain ⟨rfl, rfl⟩ : m = 0 ∧ cs0 = .slice none 0 0 := him.elim (fun h => h.2) (fun h => absurd h.1 (by decide));have k0_0 := (hE.h2).cell 0;have k0_1 := (hE.h2).cell 1;have k0_2 := (hE.h2).cell 2;replace k0_0 : wr.cell? ⟨g32, 0, none⟩ = some (.func (.func 57) #[.pointer (some ⟨g30, 0, none⟩)] #[]) := k0_0;replace k0_1 : wr.cell? ⟨g32, 1, none⟩ = some (.func (.func 58) #[.pointer (some ⟨g30, 0, none⟩)] #[]) := k0_1;replace k0_2 : wr.cell? ⟨g32, 2, none⟩ = some (.func (.func 59) #[.pointer (some ⟨g30, 0, none⟩)] #[]) := k0_2;go_wp2_with fail
   refine (cpaid_v (w := w) (u := wr) hE.bel HhT.out HhB.out Hhqv.out Hhi.out HhR.out N (Hhf.out ▸ HhN.out) h80 g30 hgw (hE.h3)).mono ?_
   rintro e w9 ⟨⟨x, rfl⟩, cs1, h1, hb1, hv1, hq1, hk1, hbel1⟩
   rw [← Hhf.out] at hq1;replace hE := (((((Env.again hbel1).blkI (hb1)).blkI ((hE.h2).kept hk1 (by omega))).colv (hv1.mono hE.bel.size)).colq (ColQ.sub (J' := Jp 1) hq1 (fun _ _ _ _ hj => by (try dsimp only); unfold Jp at hj; omega)));clear hb1 hv1 hq1 hk1 hbel1;clear k0_0 k0_1 k0_2;go_wp2_with fail
   go_roundw
   case rel => exact ⟨1, 1, _, _, _, rfl, rfl, by decide, .inr ⟨by decide, rfl⟩, hE⟩
   case measure => simp [intOf]
  ·
   obtain rfl : z = 1 := hz;obtain rfl : m = N := him.elim (fun h => absurd h.1 (by decide)) (fun h => h.2);have hCV : ColV w.heap.size cs0 m h wr := hE.here.1.2
   rcases hCV with ⟨rfl, h0⟩ | ⟨gc, cap, rfl, hgc, hCB⟩
   · omega
   have k1_0 := (hE.h2).cell 0;have k1_1 := (hE.h2).cell 1;have k1_2 := (hE.h2).cell 2;replace k1_0 : wr.cell? ⟨g32, 0, none⟩ = some (.func (.func 57) #[.pointer (some ⟨g30, 0, none⟩)] #[]) := k1_0;replace k1_1 : wr.cell? ⟨g32, 1, none⟩ = some (.func (.func 58) #[.pointer (some ⟨g30, 0, none⟩)] #[]) := k1_1;replace k1_2 : wr.cell? ⟨g32, 2, none⟩ = some (.func (.func 59) #[.pointer (some ⟨g30, 0, none⟩)] #[]) := k1_2;go_wp2_with fail
   refine (csums_v (w := w) (u := wr) hE.bel Hhdis.out Hhrf.out h80 hN0 hgw hgc (hE.h3) hCB (ColQ.sub (hE.here.2) (fun _ _ _ _ hj => by (try dsimp only at hj); unfold Jp; omega))).mono ?_
   rintro e w9 ⟨⟨x, rfl⟩, h1, hc1, hq1, hk1, hbel1⟩
   replace hE := (((((Env.again hbel1).blkI ((hE.h3).kept hk1 (Blk.ne_col (hE.h3) hCB (by decide)))).blkI ((hE.h2).kept hk1 (Blk.ne_col (hE.h2) hCB (by decide)))).colv (.inr ⟨gc, cap, rfl, hgc, hc1⟩)).colq (ColQ.sub (J' := Jp 2) hq1 (fun _ _ _ _ hj => by (try dsimp only); unfold Jp at hj; omega)));clear hc1 hq1 hk1 hbel1 hCB;clear k1_0 k1_1 k1_2;go_wp2_with fail
   go_roundw
   case rel => exact ⟨2, 2, _, _, _, rfl, rfl, by decide, .inr ⟨by decide, rfl⟩, hE⟩
   case measure => simp [intOf]
  ·
   obtain rfl : z = 2 := hz;obtain rfl : m = N := him.elim (fun h => absurd h.1 (by decide)) (fun h => h.2);have hCV : ColV w.heap.size cs0 m h wr := hE.here.1.2
   rcases hCV with ⟨rfl, h0⟩ | ⟨gc, cap, rfl, hgc, hCB⟩
   · omega
   have k2_0 := (hE.h2).cell 0;have k2_1 := (hE.h2).cell 1;have k2_2 := (hE.h2).cell 2;replace k2_0 : wr.cell? ⟨g32, 0, none⟩ = some (.func (.func 57) #[.pointer (some ⟨g30, 0, none⟩)] #[]) := k2_0;replace k2_1 : wr.cell? ⟨g32, 1, none⟩ = some (.func (.func 58) #[.pointer (some ⟨g30, 0, none⟩)] #[]) := k2_1;replace k2_2 : wr.cell? ⟨g32, 2, none⟩ = some (.func (.func 59) #[.pointer (some ⟨g30, 0, none⟩)] #[]) := k2_2;go_wp2_with fail
   refine (csumsS_v (w := w) (u := wr) hE.bel Hhdis.out Hhrf.out h80 hN0 hgw hgc (hE.h3) hCB (ColQ.sub (hE.here.2) (fun _ _ _ _ hj => by (try dsimp only at hj); unfold Jp; omega))).mono ?_
   rintro e w9 ⟨⟨x, rfl⟩, h1, hc1, hq1, hk1, hbel1⟩
   replace hE := (((((Env.again hbel1).blkI ((hE.h3).kept hk1 (Blk.ne_col (hE.h3) hCB (by decide)))).blkI ((hE.h2).kept hk1 (Blk.ne_col (hE.h2) hCB (by decide)))).colv (.inr ⟨gc, cap, rfl, hgc, hc1⟩)).colq (ColQ.sub (J' := Jp 3) hq1 (fun _ _ _ _ hj => trivial)));clear hc1 hq1 hk1 hbel1 hCB;clear k2_0 k2_1 k2_2;go_wp2_with fail
   go_roundw
   case rel => exact ⟨3, 3, _, _, _, rfl, rfl, by decide, .inr ⟨by decide, rfl⟩, hE⟩
   case measure => simp [intOf]
  ·
   obtain rfl : z = 3 := hz;obtain rfl : m = N := him.elim (fun h => absurd h.1 (by decide)) (fun h => h.2);obtain ⟨k33, k34, k35, k36, k37, k38, k39, k40, k41, k42⟩ := (hE.h3).c10;go_wp2_with fail
   refine bodyPost_ret (v := .tuple #[cs0, .int .i64 0]) (by simp [results, Tryz.results55, go_sem]) rfl ?_;exact ⟨cs0, h, rfl, hE.here.1.2, ColQ.sub (hE.here.2) (fun _ _ _ _ hj => .inl rfl), hE.bel⟩
theorem passes1 (p : Value) (w : World) : Calls Tryz.prog 128 #[p] w fun e w' => e = .returned (.slice (some ⟨w.heap.size, 0, none⟩) 1 1) ∧ w' = w.alloc (.cells #[.func (.func 57) #[p] #[]] 1) := by
 go_enter Tryz.func128, Tryz.ntmps128
 go_wp2_with fail
 go_ret
 exact ⟨rfl, rfl⟩
theorem ccols1_v {F S E Y : Int} {A : Option Addr} {n c : Nat} {r : Nat → RH} {si ti : Bool} {Ai Bi : Option Addr} {ni ci mi di : Nat} {fi gi : Nat → Nat} {w : World} (hT : TabM w A n r) (hB : TabB n r) (hr : FRd w Ai ni fi Bi mi gi) (hn : ni ≤ 1000000) (hm : mi ≤ 1000000) (hbk : BOK F S n r si ni fi ti mi gi) (hR : RightP F S n r E Y) (N : Nat) (hN : Cnt (1 / (1 + qOf si ni fi mi gi)) (fr F S n r E Y) N) (h80 : N ≤ 80) :
  Calls Tryz.prog 55 #[.agg (qb7 F S A n c si Ai ni ci ti Bi mi di), .agg #[.int .i64 E, .int .i64 Y], .func (.func 128) #[] #[]] w (ColsQ w N (fun _ j => j = 0 ∨ j = 3) (colq (1 / (1 + qOf si ni fi mi gi)) (fr F S n r E Y) N)) := by
 obtain ⟨hqv, hi⟩ := intB_rti hr hbk.2;have hN0 : 0 < N := hN.pos;have hdis := hi.dis;have hrts := rt_rates hT hR N
 obtain ⟨Z, hZ⟩ : ∃ z, z = qOf si ni fi mi gi := ⟨_, rfl⟩
 obtain ⟨f, hf⟩ : ∃ f, f = fr F S n r E Y := ⟨_, rfl⟩
 rw [← hZ] at hqv hi hdis;rw [← hZ, ← hf] at hN ⊢
 have hrf : Rts f N := by rw [hf]; exact hrts
 clear hrts;have HhT := Lib.hid hT;clear hT;have HhB := Lib.hid hB;clear hB;have Hhr := Lib.hid hr;clear hr;have Hhbk := Lib.hid hbk;clear hbk;have HhR := Lib.hid hR;clear hR;have HhN := Lib.hid hN;clear hN;have Hhqv := Lib.hid hqv;clear hqv;have Hhi := Lib.hid hi;clear hi;have Hhdis := Lib.hid hdis;clear hdis;have Hhrf := Lib.hid hrf;clear hrf;have HhZ := Lib.hid hZ;clear hZ;have Hhf := Lib.hid hf;clear hf;have hE := ((Env.start w).blk 31 (qb7 F S A n c si Ai ni ci ti Bi mi di) (g := w.heap.size) rfl).blk 33 #[.int .i64 E, .int .i64 Y] (g := w.heap.size + 1) (by simp)
 obtain ⟨W0, hW0⟩ : ∃ W0, W0 = ((w.alloc (.cells (qb7 F S A n c si Ai ni ci ti Bi mi di) 31)).alloc (.cells #[.int .i64 E, .int .i64 Y] 33)) := ⟨_, rfl⟩
 rw [← hW0] at hE;have HW0 := Lib.hid hW0;clear hW0
 go_enter Tryz.func55, Tryz.ntmps55
 go_upto_region 1 with (fail)
 rw [← HW0.out];obtain ⟨k1, k2, k3, k4, k5, k6, k7⟩ := (hE.here.1.2).c7;obtain ⟨k8, k9⟩ := (hE.here.2).c2;go_wp2_with fail
 refine hE.br (cvalid_t (c := c) (ci := ci) (di := di) (HhT.out.below hE.bel) HhB.out (Hhr.out.below hE.bel) hn hm Hhbk.out) ?_;clear hE k1 k2 k3 k4 k5 k6 k7 k8 k9;intro w10 hE;obtain ⟨k11, k12, k13, k14, k15, k16, k17⟩ := (hE.here.1.2).c7;obtain ⟨k18, k19⟩ := (hE.here.2).c2;go_wp2_with fail
 refine hE.br (lright_t (c := c) (HhT.out.below hE.bel) HhB.out HhR.out) ?_;clear hE k11 k12 k13 k14 k15 k16 k17 k18 k19;intro w20 hE;obtain ⟨k21, k22, k23, k24, k25, k26, k27⟩ := (hE.here.1.2).c7;obtain ⟨k28, k29⟩ := (hE.here.2).c2
 go_upto_region 4 with (fail)
 clear k21 k22 k23 k24 k25 k26 k27 k28 k29
 obtain ⟨g30, hg30⟩ : ∃ g30, g30 = w20.heap.size := ⟨_, rfl⟩
 have hl30_0 : w.heap.size < g30 := by rw [hg30]; exact (hE.here.1.2).lt
 have hl30_1 : w.heap.size + 1 < g30 := by rw [hg30]; exact (hE.here.2).lt
 replace hE := hE.blk 133 #[.int .i64 F, .int .i64 S, .slice A n c, .bool si, .slice Ai ni ci, .bool ti, .slice Bi mi di, .int .i64 E, .int .i64 Y, .slice none 0 0] (g := g30) hg30.symm;generalize w20.alloc (.cells #[.int .i64 F, .int .i64 S, .slice A n c, .bool si, .slice Ai ni ci, .bool ti, .slice Bi mi di, .int .i64 E, .int .i64 Y, .slice none 0 0] 133) = W30 at hE ⊢;rw [← hg30];clear hg30;go_wp2_with fail
 refine (passes1 _ _).mono ?_
 rintro e w31 ⟨rfl, rfl⟩
 obtain ⟨g32, hg32⟩ : ∃ g32, g32 = W30.heap.size := ⟨_, rfl⟩
 have hl32_0 : w.heap.size < g32 := by rw [hg32]; exact (hE.h2).lt
 have hl32_1 : w.heap.size + 1 < g32 := by rw [hg32]; exact (hE.here.1.2).lt
 have hl32_2 : g30 < g32 := by rw [hg32]; exact (hE.here.2).lt
 replace hE := hE.blk 1 #[.func (.func 57) #[.pointer (some ⟨g30, 0, none⟩)] #[]] (g := g32) hg32.symm;generalize W30.alloc (.cells #[.func (.func 57) #[.pointer (some ⟨g30, 0, none⟩)] #[]] 1) = W32 at hE ⊢;rw [← hg32];clear hg32;go_wp2_with fail
 have hgw : w.heap.size ≤ g30 := by omega
 go_loopw [29] (fun x wr => ∃ (z : Int) (i m : Nat) (cs0 : Value) (h : Nat → Nat → Q8), x = .int .i64 z ∧ z = (i : Int) ∧ i ≤ 1 ∧ ((i = 0 ∧ m = 0 ∧ cs0 = .slice none 0 0) ∨ (0 < i ∧ m = N)) ∧ Env w (fun V => ((((True ∧ Blk 133 (g30) #[.int .i64 F, .int .i64 S, .slice A n c, .bool si, .slice Ai ni ci, .bool ti, .slice Bi mi di, .int .i64 E, .int .i64 Y, cs0] V) ∧ Blk 1 (g32) #[.func (.func 57) #[.pointer (some ⟨g30, 0, none⟩)] #[]] V) ∧ ColV w.heap.size cs0 m h V) ∧ ColQ h m (Jp i) (colq (1 / (1 + Z)) f N) V)) wr) (fun x _ => (1 - intOf x).toNat)
 case atStart =>
  exact ⟨0, 0, 0, .slice none 0 0, fun _ _ => Q8.z, rfl, rfl, by decide, .inl ⟨rfl, rfl, rfl⟩, (((((Env.again hE.bel).blkI (hE.here.1.2)).blkI (hE.here.2)).colv (.inl ⟨rfl, rfl⟩)).colq (fun k hk => absurd hk (Nat.not_lt_zero _)))⟩
 case round =>
  clear hE;obtain ⟨z, i, m, cs0, h, rfl, hz, hi3, him, hE⟩ := hrel
  rcases (show i = 0 ∨ i = 1 by omega) with rfl | rfl
  ·
   obtain rfl : z = 0 := hz;obtain ⟨rfl, rfl⟩ : m = 0 ∧ cs0 = .slice none 0 0 := him.elim (fun h => h.2) (fun h => absurd h.1 (by decide));have k0_0 := (hE.h2).cell 0;replace k0_0 : wr.cell? ⟨g32, 0, none⟩ = some (.func (.func 57) #[.pointer (some ⟨g30, 0, none⟩)] #[]) := k0_0;go_wp2_with fail
   refine (cpaid_v (w := w) (u := wr) hE.bel HhT.out HhB.out Hhqv.out Hhi.out HhR.out N (Hhf.out ▸ HhN.out) h80 g30 hgw (hE.h3)).mono ?_
   rintro e w9 ⟨⟨x, rfl⟩, cs1, h1, hb1, hv1, hq1, hk1, hbel1⟩
   rw [← Hhf.out] at hq1;replace hE := (((((Env.again hbel1).blkI (hb1)).blkI ((hE.h2).kept hk1 (by omega))).colv (hv1.mono hE.bel.size)).colq (ColQ.sub (J' := Jp 1) hq1 (fun _ _ _ _ hj => by (try dsimp only); unfold Jp at hj; omega)));clear hb1 hv1 hq1 hk1 hbel1;clear k0_0;go_wp2_with fail
   go_roundw
   case rel => exact ⟨1, 1, _, _, _, rfl, rfl, by decide, .inr ⟨by decide, rfl⟩, hE⟩
   case measure => simp [intOf]
  ·
   obtain rfl : z = 1 := hz;obtain rfl : m = N := him.elim (fun h => absurd h.1 (by decide)) (fun h => h.2);obtain ⟨k33, k34, k35, k36, k37, k38, k39, k40, k41, k42⟩ := (hE.h3).c10;go_wp2_with fail
   refine bodyPost_ret (v := .tuple #[cs0, .int .i64 0]) (by simp [results, Tryz.results55, go_sem]) rfl ?_;exact ⟨cs0, h, rfl, hE.here.1.2, ColQ.sub (hE.here.2) (fun _ _ _ _ hj => .inr (.inl ⟨Nat.le_refl _, hj⟩)), hE.bel⟩
theorem passesE (p : Value) (w : World) : Calls Tryz.prog 88 #[p] w fun e w' => e = .returned (.slice (some ⟨w.heap.size, 0, none⟩) 1 1) ∧ w' = w.alloc (.cells #[.func (.func 57) #[p] #[]] 1) := by
 go_enter Tryz.func88, Tryz.ntmps88
 go_wp2_with fail
 go_ret
 exact ⟨rfl, rfl⟩
theorem ccolsE_v {F S E Y : Int} {A : Option Addr} {n c : Nat} {r : Nat → RH} {si ti : Bool} {Ai Bi : Option Addr} {ni ci mi di : Nat} {fi gi : Nat → Nat} {w : World} (hT : TabM w A n r) (hB : TabB n r) (hr : FRd w Ai ni fi Bi mi gi) (hn : ni ≤ 1000000) (hm : mi ≤ 1000000) (hbk : BOK F S n r si ni fi ti mi gi) (hR : RightP F S n r E Y) (N : Nat) (hN : Cnt (1 / (1 + qOf si ni fi mi gi)) (fr F S n r E Y) N) (h80 : N ≤ 80) :
  Calls Tryz.prog 55 #[.agg (qb7 F S A n c si Ai ni ci ti Bi mi di), .agg #[.int .i64 E, .int .i64 Y], .func (.func 88) #[] #[]] w (ColsQ w N (fun _ j => j = 0 ∨ j = 3) (colq (1 / (1 + qOf si ni fi mi gi)) (fr F S n r E Y) N)) := by
 obtain ⟨hqv, hi⟩ := intB_rti hr hbk.2;have hN0 : 0 < N := hN.pos;have hdis := hi.dis;have hrts := rt_rates hT hR N
 obtain ⟨Z, hZ⟩ : ∃ z, z = qOf si ni fi mi gi := ⟨_, rfl⟩
 obtain ⟨f, hf⟩ : ∃ f, f = fr F S n r E Y := ⟨_, rfl⟩
 rw [← hZ] at hqv hi hdis;rw [← hZ, ← hf] at hN ⊢
 have hrf : Rts f N := by rw [hf]; exact hrts
 clear hrts;have HhT := Lib.hid hT;clear hT;have HhB := Lib.hid hB;clear hB;have Hhr := Lib.hid hr;clear hr;have Hhbk := Lib.hid hbk;clear hbk;have HhR := Lib.hid hR;clear hR;have HhN := Lib.hid hN;clear hN;have Hhqv := Lib.hid hqv;clear hqv;have Hhi := Lib.hid hi;clear hi;have Hhdis := Lib.hid hdis;clear hdis;have Hhrf := Lib.hid hrf;clear hrf;have HhZ := Lib.hid hZ;clear hZ;have Hhf := Lib.hid hf;clear hf;have hE := ((Env.start w).blk 31 (qb7 F S A n c si Ai ni ci ti Bi mi di) (g := w.heap.size) rfl).blk 33 #[.int .i64 E, .int .i64 Y] (g := w.heap.size + 1) (by simp)
 obtain ⟨W0, hW0⟩ : ∃ W0, W0 = ((w.alloc (.cells (qb7 F S A n c si Ai ni ci ti Bi mi di) 31)).alloc (.cells #[.int .i64 E, .int .i64 Y] 33)) := ⟨_, rfl⟩
 rw [← hW0] at hE;have HW0 := Lib.hid hW0;clear hW0
 go_enter Tryz.func55, Tryz.ntmps55
 go_upto_region 1 with (fail)
 rw [← HW0.out];obtain ⟨k1, k2, k3, k4, k5, k6, k7⟩ := (hE.here.1.2).c7;obtain ⟨k8, k9⟩ := (hE.here.2).c2;go_wp2_with fail
 refine hE.br (cvalid_t (c := c) (ci := ci) (di := di) (HhT.out.below hE.bel) HhB.out (Hhr.out.below hE.bel) hn hm Hhbk.out) ?_;clear hE k1 k2 k3 k4 k5 k6 k7 k8 k9;intro w10 hE;obtain ⟨k11, k12, k13, k14, k15, k16, k17⟩ := (hE.here.1.2).c7;obtain ⟨k18, k19⟩ := (hE.here.2).c2;go_wp2_with fail
 refine hE.br (lright_t (c := c) (HhT.out.below hE.bel) HhB.out HhR.out) ?_;clear hE k11 k12 k13 k14 k15 k16 k17 k18 k19;intro w20 hE;obtain ⟨k21, k22, k23, k24, k25, k26, k27⟩ := (hE.here.1.2).c7;obtain ⟨k28, k29⟩ := (hE.here.2).c2
 go_upto_region 4 with (fail)
 clear k21 k22 k23 k24 k25 k26 k27 k28 k29
 obtain ⟨g30, hg30⟩ : ∃ g30, g30 = w20.heap.size := ⟨_, rfl⟩
 have hl30_0 : w.heap.size < g30 := by rw [hg30]; exact (hE.here.1.2).lt
 have hl30_1 : w.heap.size + 1 < g30 := by rw [hg30]; exact (hE.here.2).lt
 replace hE := hE.blk 133 #[.int .i64 F, .int .i64 S, .slice A n c, .bool si, .slice Ai ni ci, .bool ti, .slice Bi mi di, .int .i64 E, .int .i64 Y, .slice none 0 0] (g := g30) hg30.symm;generalize w20.alloc (.cells #[.int .i64 F, .int .i64 S, .slice A n c, .bool si, .slice Ai ni ci, .bool ti, .slice Bi mi di, .int .i64 E, .int .i64 Y, .slice none 0 0] 133) = W30 at hE ⊢;rw [← hg30];clear hg30;go_wp2_with fail
 refine (passesE _ _).mono ?_
 rintro e w31 ⟨rfl, rfl⟩
 obtain ⟨g32, hg32⟩ : ∃ g32, g32 = W30.heap.size := ⟨_, rfl⟩
 have hl32_0 : w.heap.size < g32 := by rw [hg32]; exact (hE.h2).lt
 have hl32_1 : w.heap.size + 1 < g32 := by rw [hg32]; exact (hE.here.1.2).lt
 have hl32_2 : g30 < g32 := by rw [hg32]; exact (hE.here.2).lt
 replace hE := hE.blk 1 #[.func (.func 57) #[.pointer (some ⟨g30, 0, none⟩)] #[]] (g := g32) hg32.symm;generalize W30.alloc (.cells #[.func (.func 57) #[.pointer (some ⟨g30, 0, none⟩)] #[]] 1) = W32 at hE ⊢;rw [← hg32];clear hg32;go_wp2_with fail
 have hgw : w.heap.size ≤ g30 := by omega
 go_loopw [29] (fun x wr => ∃ (z : Int) (i m : Nat) (cs0 : Value) (h : Nat → Nat → Q8), x = .int .i64 z ∧ z = (i : Int) ∧ i ≤ 1 ∧ ((i = 0 ∧ m = 0 ∧ cs0 = .slice none 0 0) ∨ (0 < i ∧ m = N)) ∧ Env w (fun V => ((((True ∧ Blk 133 (g30) #[.int .i64 F, .int .i64 S, .slice A n c, .bool si, .slice Ai ni ci, .bool ti, .slice Bi mi di, .int .i64 E, .int .i64 Y, cs0] V) ∧ Blk 1 (g32) #[.func (.func 57) #[.pointer (some ⟨g30, 0, none⟩)] #[]] V) ∧ ColV w.heap.size cs0 m h V) ∧ ColQ h m (Jp i) (colq (1 / (1 + Z)) f N) V)) wr) (fun x _ => (1 - intOf x).toNat)
 case atStart =>
  exact ⟨0, 0, 0, .slice none 0 0, fun _ _ => Q8.z, rfl, rfl, by decide, .inl ⟨rfl, rfl, rfl⟩, (((((Env.again hE.bel).blkI (hE.here.1.2)).blkI (hE.here.2)).colv (.inl ⟨rfl, rfl⟩)).colq (fun k hk => absurd hk (Nat.not_lt_zero _)))⟩
 case round =>
  clear hE;obtain ⟨z, i, m, cs0, h, rfl, hz, hi3, him, hE⟩ := hrel
  rcases (show i = 0 ∨ i = 1 by omega) with rfl | rfl
  ·
   obtain rfl : z = 0 := hz;obtain ⟨rfl, rfl⟩ : m = 0 ∧ cs0 = .slice none 0 0 := him.elim (fun h => h.2) (fun h => absurd h.1 (by decide));have k0_0 := (hE.h2).cell 0;replace k0_0 : wr.cell? ⟨g32, 0, none⟩ = some (.func (.func 57) #[.pointer (some ⟨g30, 0, none⟩)] #[]) := k0_0;go_wp2_with fail
   refine (cpaid_v (w := w) (u := wr) hE.bel HhT.out HhB.out Hhqv.out Hhi.out HhR.out N (Hhf.out ▸ HhN.out) h80 g30 hgw (hE.h3)).mono ?_
   rintro e w9 ⟨⟨x, rfl⟩, cs1, h1, hb1, hv1, hq1, hk1, hbel1⟩
   rw [← Hhf.out] at hq1;replace hE := (((((Env.again hbel1).blkI (hb1)).blkI ((hE.h2).kept hk1 (by omega))).colv (hv1.mono hE.bel.size)).colq (ColQ.sub (J' := Jp 1) hq1 (fun _ _ _ _ hj => by (try dsimp only); unfold Jp at hj; omega)));clear hb1 hv1 hq1 hk1 hbel1;clear k0_0;go_wp2_with fail
   go_roundw
   case rel => exact ⟨1, 1, _, _, _, rfl, rfl, by decide, .inr ⟨by decide, rfl⟩, hE⟩
   case measure => simp [intOf]
  ·
   obtain rfl : z = 1 := hz;obtain rfl : m = N := him.elim (fun h => absurd h.1 (by decide)) (fun h => h.2);obtain ⟨k33, k34, k35, k36, k37, k38, k39, k40, k41, k42⟩ := (hE.h3).c10;go_wp2_with fail
   refine bodyPost_ret (v := .tuple #[cs0, .int .i64 0]) (by simp [results, Tryz.results55, go_sem]) rfl ?_;exact ⟨cs0, h, rfl, hE.here.1.2, ColQ.sub (hE.here.2) (fun _ _ _ _ hj => .inr (.inl ⟨Nat.le_refl _, hj⟩)), hE.bel⟩
theorem cColumns_v {F S E Y : Int} {A : Option Addr} {n c : Nat} {r : Nat → RH} {si ti : Bool} {Ai Bi : Option Addr} {ni ci mi di : Nat} {fi gi : Nat → Nat} {w : World} (hT : TabM w A n r) (hB : TabB n r) (hr : FRd w Ai ni fi Bi mi gi) (hn : ni ≤ 1000000) (hm : mi ≤ 1000000) (hbk : BOK F S n r si ni fi ti mi gi) (hR : RightP F S n r E Y) (N : Nat) (hN : Cnt (1 / (1 + qOf si ni fi mi gi)) (fr F S n r E Y) N) (h80 : N ≤ 80) :
  Calls Tryz.prog 17 #[.agg (qb7 F S A n c si Ai ni ci ti Bi mi di), .agg #[.int .i64 E, .int .i64 Y]] w (ColsQ w N (fun _ _ => True) (colq (1 / (1 + qOf si ni fi mi gi)) (fr F S n r E Y) N)) := by
 have HhT := Lib.hid hT;clear hT;have HhB := Lib.hid hB;clear hB;have Hhr := Lib.hid hr;clear hr;have Hhbk := Lib.hid hbk;clear hbk;have HhR := Lib.hid hR;clear hR;have HhN := Lib.hid hN;clear hN;have hE := ((Env.start w).blk 31 (qb7 F S A n c si Ai ni ci ti Bi mi di) (g := w.heap.size) rfl).blk 33 #[.int .i64 E, .int .i64 Y] (g := w.heap.size + 1) (by simp)
 obtain ⟨W0, hW0⟩ : ∃ W0, W0 = ((w.alloc (.cells (qb7 F S A n c si Ai ni ci ti Bi mi di) 31)).alloc (.cells #[.int .i64 E, .int .i64 Y] 33)) := ⟨_, rfl⟩
 rw [← hW0] at hE;have HW0 := Lib.hid hW0;clear hW0
 go_enter Tryz.func17, Tryz.ntmps17
 go_upto_region 1 with (fail)
 rw [← HW0.out];obtain ⟨k1, k2, k3, k4, k5, k6, k7⟩ := (hE.here.1.2).c7;obtain ⟨k8, k9⟩ := (hE.here.2).c2;go_wp2_with fail
 refine (ccols3_v (c := c) (ci := ci) (di := di) (HhT.out.below hE.bel) HhB.out (Hhr.out.below hE.bel) hn hm Hhbk.out HhR.out N HhN.out h80).mono ?_;clear k1 k2 k3 k4 k5 k6 k7 k8 k9
 rintro e w9 ⟨cv, h, rfl, hv, hq, hb⟩
 have hsz := hE.bel.size;replace hE := hE.step hb;go_wp2_with fail
 refine bodyPost_ret (v := .tuple #[cv, .int .i64 0]) (by simp [results, Tryz.results17, go_sem]) rfl ?_;exact ⟨cv, h, rfl, hv.mono hsz, hq, hE.bel⟩
end
section
open Go.RowKit

structure Bh where
 F : Int
 S : Int
 A : Option Addr
 n : Nat
 c : Nat
 r : Nat → RH
 i : FH
abbrev Bh.C (b : Bh) : Array Value := #[.int .i64 b.F, .int .i64 b.S, .slice b.A b.n b.c, .bool b.i.s, .slice b.i.A b.i.n b.i.c, .bool b.i.t, .slice b.i.B b.i.m b.i.d]
def Bh.rd (b : Bh) (w : World) : Prop := TabM w b.A b.n b.r ∧ b.i.rd w
def Bh.bd (b : Bh) : Prop := TabB b.n b.r ∧ b.i.n ≤ 1000000 ∧ b.i.m ≤ 1000000
def Bh.ok (b : Bh) : Prop := BOK b.F b.S b.n b.r b.i.s b.i.n b.i.f b.i.t b.i.m b.i.g
def Bh.v (b : Bh) : Rat := 1 / (1 + b.i.q)
def Bh.rt (b : Bh) (E Y : Int) : Nat → Rat := fr b.F b.S b.n b.r E Y
def Bh.right (b : Bh) (E Y : Int) : Prop := RightP b.F b.S b.n b.r E Y
theorem Bh.rd_below {b : Bh} {w w' : World} (h : b.rd w) (hb : Below w.heap.size w w') : b.rd w' := ⟨h.1.below hb, FRd.below h.2 hb⟩
theorem Bh.fv {b : Bh} {w : World} (h : b.rd w) (ho : b.ok) : FV w b.i.q b.i.s b.i.A b.i.n b.i.t b.i.B b.i.m ∧ Rti b.i.q := intB_rti h.2 ho.2
theorem Bh.dis {b : Bh} {w : World} (h : b.rd w) (ho : b.ok) : Dis b.v := (Bh.fv h ho).2.dis
theorem Bh.v_i {b : Bh} {w : World} (h : b.rd w) (ho : b.ok) : b.v * (1 + b.i.q) = 1 := by
 have h0 := (Bh.fv h ho).2.1;unfold Bh.v;exact Rat.div_mul_cancel (by grind)
def RdI (A : Option Addr) (n : Nat) (l : Nat → Int) (w : World) : Prop := ∀ k, k < n → ∃ b o, A = some ⟨b, o, none⟩ ∧ At b (o + k) (.int .i64 (l k)) w
theorem RdI.stable (A : Option Addr) (n : Nat) (l : Nat → Int) : Stable (RdI A n l) := fun _ _ hb h k hk => by
 obtain ⟨b, o, e, ha⟩ := h k hk;exact ⟨b, o, e, At.stable _ _ _ _ _ hb ha⟩
theorem RdI.below {A : Option Addr} {n : Nat} {l : Nat → Int} {w w' : World} (h : RdI A n l w) (hb : Below w.heap.size w w') : RdI A n l w' := RdI.stable _ _ _ _ _ hb h
theorem RdI.nil {l : Nat → Int} {w : World} (A : Option Addr) : RdI A 0 l w := fun _ h => absurd h (by omega)
structure Ct where
 E : Int
 Y : Int
 T : Int
 p : FH
 A : Option Addr
 n : Nat
 c : Nat
 l : Nat → Int
 B : Option Addr
 m : Nat
 d : Nat
 k : Nat → Int
abbrev Ct.Q (x : Ct) (g n c : Nat) : Array Value := #[.int .i64 x.E, .int .i64 x.Y, .int .i64 x.T, .bool x.p.s, .slice x.p.A x.p.n x.p.c, .bool x.p.t, .slice x.p.B x.p.m x.p.d, .slice x.A x.n x.c, .slice x.B x.m x.d, .slice (some ⟨g, 0, none⟩) n c]
abbrev Ct.C (x : Ct) : Array Value := #[.int .i64 x.E, .int .i64 x.Y, .int .i64 x.T, .bool x.p.s, .slice x.p.A x.p.n x.p.c, .bool x.p.t, .slice x.p.B x.p.m x.p.d, .slice x.A x.n x.c, .slice x.B x.m x.d]
def Ct.rd (x : Ct) (w : World) : Prop := x.p.rd w ∧ RdI x.A x.n x.l w ∧ RdI x.B x.m x.k w
def Ct.bd (x : Ct) : Prop := (-9223372036854775808 ≤ x.T ∧ x.T ≤ 9223372036854775807) ∧ (x.p.n ≤ 1000000 ∧ x.p.m ≤ 1000000) ∧ (x.n ≤ 1000000 ∧ x.m ≤ 1000000)
theorem Ct.rd_below {x : Ct} {w w' : World} (h : x.rd w) (hb : Below w.heap.size w w') : x.rd w' := ⟨FRd.below h.1 hb, h.2.1.below hb, h.2.2.below hb⟩
def Amts (n : Nat) (l : Nat → Int) : Prop := n ≤ 120 ∧ ∀ k, k < n → 0 ≤ l k ∧ l k ≤ 1099511627776
def Ct.ok (x : Ct) (b : Bh) : Prop := b.ok ∧ b.right x.E x.Y ∧ (0 ≤ x.T ∧ x.T ≤ 120) ∧ (okF x.p.s x.p.n x.p.f x.p.t x.p.m x.p.g = true ∧ x.p.s = false ∧ x.p.n ≤ 4 ∧ x.p.m ≤ 4) ∧ Amts x.n x.l ∧ Amts x.m x.k
theorem Ct.prem {x : Ct} {b : Bh} {w : World} (h : x.rd w) (ho : x.ok b) : FV w x.p.q x.p.s x.p.A x.p.n x.p.t x.p.B x.p.m ∧ 0 ≤ x.p.q ∧ x.p.q.num.natAbs ≤ b16 ^ 4 ∧ x.p.q.den ≤ b16 ^ 4 := by
 obtain ⟨-, -, -, ⟨h1, h2, h3, h4⟩, -, -⟩ := ho;obtain ⟨hv, -, -, -⟩ := okF_q h.1 h1;have e : x.p.q = qOf x.p.s x.p.n x.p.f x.p.m x.p.g := rfl;rw [← e] at hv;refine ⟨hv, ?_, ?_, ?_⟩
 ·
  have := hv.1.sgn;rw [h2] at this;have := of_decide_eq_false this.symm;exact Rat.num_nonneg.1 (by omega)
 ·
  have := hv.1.len;exact Nat.le_of_lt ((ln_le b16_two).1 (by omega))
 ·
  have := hv.2.len;rw [Int.natAbs_natCast] at this;exact Nat.le_of_lt ((ln_le b16_two).1 (by omega))
def PayC (p : Value) (L : Nat → Rat) (N : Nat) (w : World) : Prop :=
 ∃ g caps, p = .func (.func g) #[] caps ∧ (∀ args W, (callFunc g args).run Tryz.prog W = .ok (.enter g args) W) ∧
  ∀ W, Below w.heap.size w W → ∀ k : Nat, k ≤ N → Calls Tryz.prog g (#[.int .i64 (k : Int)] ++ caps) W (FR (L k) W)
theorem PayC.below {p : Value} {L : Nat → Rat} {N : Nat} {w w' : World} (h : PayC p L N w) (hb : Below w.heap.size w w') : PayC p L N w' := by
 obtain ⟨g, caps, e, eg, hc⟩ := h;exact ⟨g, caps, e, eg, fun W hW k hk => hc W (hb.trans (hW.mono hb.size)) k hk⟩
end
section
open Go.ChangeShapes Go.WideShapes Go.ChangeAt Go.RowKit Go.Deep

theorem cContract : Tryz.prog.cellsOf 36 = 9 := by kernel_rfl
theorem cInts : Tryz.prog.cellsOf 34 = 1 := by kernel_rfl
theorem nine_of_len {α : Type} {l : List α} (h : l.length = 9) : ∃ a b c d e f g i j, l = [a, b, c, d, e, f, g, i, j] := by
 match l, h with
 | [a, b, c, d, e, f, g, i, j], _ => exact ⟨a, b, c, d, e, f, g, i, j, rfl⟩
theorem five_of_len {α : Type} {l : List α} (h : l.length = 5) : ∃ a b c d e, l = [a, b, c, d, e] := by
 match l, h with
 | [a, b, c, d, e], _ => exact ⟨a, b, c, d, e, rfl⟩
def Ct.cells (x : Ct) : List Value := [.int .i64 x.E, .int .i64 x.Y, .int .i64 x.T, .bool x.p.s, .slice x.p.A x.p.n x.p.c, .bool x.p.t, .slice x.p.B x.p.m x.p.d, .slice x.A x.n x.c, .slice x.B x.m x.d]
def I64 (z : Int) : Prop := -9223372036854775808 ≤ z ∧ z ≤ 9223372036854775807
section
variable {H : Type} {enc : TypeId × Value → H} {W : World}
theorem ints_open {fuel : Nat} {cs : List Value} {x : DataW H × List MemPlace} (h : DataW.trod enc Tryz.prog W 0 (fun _ => true) true fuel 34 cs = some x) :
  ∃ A n c l, cs = [.slice A n c] ∧ RdI A n l W ∧ ∀ k, I64 (l k) := by
 rcases open_ints Tryz.underlying34 Tryz.underlying3 cInt h with ⟨e1, -⟩ | ⟨a, len, cap, zs, e1, -, hlc, hcm, hzl, -, hc, hwf⟩
 · exact ⟨none, 0, 0, fun _ => 0, e1, RdI.nil none, fun _ => show I64 0 from ⟨by decide, by decide⟩⟩
 ·
  replace hzl : zs.length = cap := by simpa using hzl
  refine ⟨some a, len, cap, fun j => zs.getD j 0, e1, fun k hk => ?_, fun k => ?_⟩
  ·
   obtain ⟨b, o, rfl, hcell⟩ := ints_at hc (by omega);have h1 := hcell k (by omega);exact ⟨b, o, rfl, cell_in h1, h1⟩
  ·
   show I64 (zs.getD k 0);rw [List.getD_eq_getElem?_getD];exact range_i64 hwf k
theorem lcells_open {fuel : Nat} {cs : List Value} {x : DataW H × List MemPlace} (h : DataW.trod enc Tryz.prog W 0 (fun _ => true) true fuel 33 cs = some x) :
  ∃ E Y, cs = [.int .i64 E, .int .i64 Y] := by
 obtain ⟨xs, k, -, -, hl, hx, hi⟩ := DataW.trod_struct Tryz.underlying33 h;obtain ⟨c0, c1, rfl⟩ := two_of_len (hl.trans cLife);obtain ⟨x0, x1, rfl⟩ := two_of_len hx;have h0 : DataW.trod enc Tryz.prog W 0 (fun _ => true) true k 3 (([c0, c1].drop 0).take (Tryz.prog.cellsOf 3)) = some x0 := hi 0 _ rfl;have h1 : DataW.trod enc Tryz.prog W 0 (fun _ => true) true k 3 (([c0, c1].drop 1).take (Tryz.prog.cellsOf 3)) = some x1 := hi 1 _ rfl;rw [cInt] at h0 h1;simp only [List.drop_zero, List.take_succ_cons, List.take_zero, List.drop_succ_cons] at h0 h1;obtain ⟨E, e0, -, -⟩ := DataW.trod_int Tryz.underlying3 h0;obtain ⟨Y, e1, -, -⟩ := DataW.trod_int Tryz.underlying3 h1
 injection e0 with e0
 injection e1 with e1
 exact ⟨E, Y, by rw [e0, e1]⟩
theorem ccells_open {fuel : Nat} {cs : List Value} {x : DataW H × List MemPlace} (h : DataW.trod enc Tryz.prog W 0 (fun _ => true) true fuel 36 cs = some x) :
  ∃ x : Ct, cs = x.cells ∧ x.rd W ∧ I64 x.T ∧ (∀ k, I64 (x.l k)) ∧ ∀ k, I64 (x.k k) := by
 obtain ⟨xs, k, -, -, hl, hx, hi⟩ := DataW.trod_struct Tryz.underlying36 h;obtain ⟨c0, c1, c2, c3, c4, c5, c6, c7, c8, rfl⟩ := nine_of_len (hl.trans cContract);obtain ⟨x0, x1, x2, x3, x4, rfl⟩ := five_of_len hx;have h0 : DataW.trod enc Tryz.prog W 0 (fun _ => true) true k 33 (([c0, c1, c2, c3, c4, c5, c6, c7, c8].drop 0).take (Tryz.prog.cellsOf 33)) = some x0 := hi 0 _ rfl;have h1 : DataW.trod enc Tryz.prog W 0 (fun _ => true) true k 3 (([c0, c1, c2, c3, c4, c5, c6, c7, c8].drop 2).take (Tryz.prog.cellsOf 3)) = some x1 := hi 1 _ rfl;have h2 : DataW.trod enc Tryz.prog W 0 (fun _ => true) true k 29 (([c0, c1, c2, c3, c4, c5, c6, c7, c8].drop 3).take (Tryz.prog.cellsOf 29)) = some x2 := hi 2 _ rfl;have h3 : DataW.trod enc Tryz.prog W 0 (fun _ => true) true k 34 (([c0, c1, c2, c3, c4, c5, c6, c7, c8].drop 7).take (Tryz.prog.cellsOf 34)) = some x3 := hi 3 _ rfl;have h4 : DataW.trod enc Tryz.prog W 0 (fun _ => true) true k 34 (([c0, c1, c2, c3, c4, c5, c6, c7, c8].drop 8).take (Tryz.prog.cellsOf 34)) = some x4 := hi 4 _ rfl;rw [cLife] at h0;rw [cInt] at h1;rw [cFrac] at h2;rw [cInts] at h3 h4;simp only [List.drop_zero, List.take_succ_cons, List.take_zero, List.drop_succ_cons] at h0 h1 h2 h3 h4;obtain ⟨E, Y, e0⟩ := lcells_open h0;obtain ⟨T, e1, -, hT⟩ := DataW.trod_int Tryz.underlying3 h1;obtain ⟨q, e2, hq⟩ := fcells_open h2;obtain ⟨A, n, c, l, e3, hA, hl3⟩ := ints_open h3;obtain ⟨B, m, d, kk, e4, hB, hl4⟩ := ints_open h4;simp only [List.cons.injEq, and_true] at e0 e1 e2 e3 e4;obtain ⟨rfl, rfl⟩ := e0;obtain ⟨rfl, rfl, rfl, rfl⟩ := e2;subst e1 e3 e4;exact ⟨⟨E, Y, T, q, A, n, c, l, B, m, d, kk⟩, rfl, ⟨hq, hA, hB⟩, int_in hT, hl3, hl4⟩
theorem contract_open {b0 : Nat} {v : Value} {d : DataW H} {p : List MemPlace} (hv : Value.okWide Tryz.prog W .any b0 36 v) (h : DataW.Trod enc Tryz.prog W 0 (fun _ => true) true 36 v d p) :
  ∃ x : Ct, v = .agg x.C ∧ x.rd W ∧ I64 x.T ∧ (∀ k, I64 (x.l k)) ∧ ∀ k, I64 (x.k k) := by
 obtain ⟨cs, rfl, -⟩ := okWide_struct Tryz.underlying36 hv;obtain ⟨fuel, hf⟩ := h;have hf2 : DataW.trod enc Tryz.prog W 0 (fun _ => true) true fuel 36 cs.toList = some (d, p) := hf;obtain ⟨x, e, hx⟩ := ccells_open hf2;exact ⟨x, by rw [show cs = x.cells.toArray from Array.toList_inj.1 e]; rfl, hx⟩
theorem bh_open {b0 : Nat} {v : Value} {d : DataW H} {p : List MemPlace} (hv : Value.okWide Tryz.prog W .any b0 31 v) (h : DataW.Trod enc Tryz.prog W 0 (fun _ => true) true 31 v d p) :
  ∃ b : Bh, v = .agg b.C ∧ b.rd W := by
 obtain ⟨F, S, A, n, c, r, s, Ai, ni, ci, fi, t, Bi, mi, di, gi, rfl, h1, h2⟩ := basis_open hv h;exact ⟨⟨F, S, A, n, c, r, ⟨s, Ai, ni, ci, fi, t, Bi, mi, di, gi⟩⟩, rfl, h1, h2⟩
end
end
section
open Go.RowKit Go.Shelf
attribute [local go_sem] Oper.semAt_some

structure Cl where
 k : Nat
 x : Nat → Q8
def Cl.vals (e : Cl) : Array Value := #[.int .i64 (e.k : Int), .agg (cols1 e.x).toArray]
def Cl.fit (J : Nat → Nat → Prop) (q : Nat → Nat → Rat) (pre : List Cl) (e : Cl) (W : World) : Prop := e.k = pre.length ∧ ∀ j, j < 6 → J e.k j → (e.x j).fv W (q e.k j)
def Cls (l : List Cl) (j : Nat) : Prop := l.map Cl.k = List.range j
theorem Cls.nil : Cls [] 0 := rfl
theorem Cls.snoc {l : List Cl} {j : Nat} {x : Cl} (h : Cls l j) (hx : x.k = j) : Cls (l ++ [x]) (j + 1) := by
 unfold Cls at *
 rw [List.map_append, h, List.range_succ, ← hx];rfl
theorem Cls.length {l : List Cl} {j : Nat} (h : Cls l j) : l.length = j := by
 have := congrArg List.length h
 simpa using this
theorem col_desc : ∃ d, Tryz.prog.underlying 98 = some d ∧ d.isRow = true := ⟨_, Tryz.underlying98, rfl⟩
theorem col_size (x : Nat → Q8) : (Tryz.prog.info? 98).map (·.size) = some (cols1 x).length := by
 obtain ⟨i, hi, -, hs, -⟩ := info_parts info_col;rw [hi, cols1_len, ← hs];rfl
theorem cols1_one (x : Nat → Q8) : ∀ v ∈ cols1 x, v.oneCell' = true := fun v hv => by
 obtain ⟨y, i, rfl⟩ := cols1_in hv;unfold Q8.cell
 split <;> rfl
theorem col_load {g N cap k : Nat} {h : Nat → Nat → Q8} {W : World} (hB : ColB g N cap h W) (hk : k < N) : (Instr.loadAt 98 (.pointer (some ⟨g, k * 24, none⟩))).run Tryz.prog W = .ok (.agg (cols1 (h k)).toArray) W := by
 obtain ⟨d, h1, h2⟩ := col_desc;refine run_loadAt_mid W g (k * 24) 98 (cols1 (h k)) d (fun j v hv => ?_) h1 h2 (col_size _)
 have hj : j < 24 := by have := (List.getElem?_eq_some_iff.1 hv).1; rwa [cols1_len] at this
 rw [cols1_at _ hj] at hv;exact hB.at2 (j := j / 4) (i := j % 4) hk (by omega) (by omega) (by omega) (Option.some.inj hv)
theorem col_store (W : World) (x : Nat → Q8) : ∃ V, (Instr.storeAt 98 (.pointer (some ⟨W.heap.size, 0, none⟩)) (.agg (cols1 x).toArray)).run Tryz.prog (W.alloc (.cells #[.bool false, .slice none 0 0, .bool false, .slice none 0 0, .bool false, .slice none 0 0, .bool false, .slice none 0 0, .bool false, .slice none 0 0, .bool false, .slice none 0 0, .bool false, .slice none 0 0, .bool false, .slice none 0 0, .bool false, .slice none 0 0, .bool false, .slice none 0 0, .bool false, .slice none 0 0, .bool false, .slice none 0 0] 98)) = .ok () V ∧ (Instr.loadAt 98 (.pointer (some ⟨W.heap.size, 0, none⟩))).run Tryz.prog V = .ok (.agg (cols1 x).toArray) V ∧
  Below W.heap.size W V ∧ (W.alloc (.cells #[.bool false, .slice none 0 0, .bool false, .slice none 0 0, .bool false, .slice none 0 0, .bool false, .slice none 0 0, .bool false, .slice none 0 0, .bool false, .slice none 0 0, .bool false, .slice none 0 0, .bool false, .slice none 0 0, .bool false, .slice none 0 0, .bool false, .slice none 0 0, .bool false, .slice none 0 0, .bool false, .slice none 0 0] 98)).grownBy V (some W.heap.size) ∧ Blk 98 W.heap.size (cols1 x).toArray V := by
 obtain ⟨d, h1, h2⟩ := col_desc;have hB := Blk.new W 98 #[.bool false, .slice none 0 0, .bool false, .slice none 0 0, .bool false, .slice none 0 0, .bool false, .slice none 0 0, .bool false, .slice none 0 0, .bool false, .slice none 0 0, .bool false, .slice none 0 0, .bool false, .slice none 0 0, .bool false, .slice none 0 0, .bool false, .slice none 0 0, .bool false, .slice none 0 0, .bool false, .slice none 0 0]
 have ht : (W.alloc (.cells #[.bool false, .slice none 0 0, .bool false, .slice none 0 0, .bool false, .slice none 0 0, .bool false, .slice none 0 0, .bool false, .slice none 0 0, .bool false, .slice none 0 0, .bool false, .slice none 0 0, .bool false, .slice none 0 0, .bool false, .slice none 0 0, .bool false, .slice none 0 0, .bool false, .slice none 0 0, .bool false, .slice none 0 0] 98)).there W.heap.size 0 (cols1 x).toArray.size := fun j hj => by
  rw [List.size_toArray, cols1_len] at hj;rw [Nat.zero_add];refine ⟨?_, hB.frozen j⟩;rw [hB.cell]
  simp
  omega
 have hst := run_storeAt_mid (P := Tryz.prog) _ W.heap.size 0 98 (cols1 x).toArray ht (by rw [col_size x, List.size_toArray]) (all_oneCell_toArray (cols1_one x));have hal : Below W.heap.size W (W.alloc (.cells #[.bool false, .slice none 0 0, .bool false, .slice none 0 0, .bool false, .slice none 0 0, .bool false, .slice none 0 0, .bool false, .slice none 0 0, .bool false, .slice none 0 0, .bool false, .slice none 0 0, .bool false, .slice none 0 0, .bool false, .slice none 0 0, .bool false, .slice none 0 0, .bool false, .slice none 0 0, .bool false, .slice none 0 0] 98)) := (Below.refl _ W).alloc (Nat.le_refl _) _
 generalize W.alloc (.cells #[.bool false, .slice none 0 0, .bool false, .slice none 0 0, .bool false, .slice none 0 0, .bool false, .slice none 0 0, .bool false, .slice none 0 0, .bool false, .slice none 0 0, .bool false, .slice none 0 0, .bool false, .slice none 0 0, .bool false, .slice none 0 0, .bool false, .slice none 0 0, .bool false, .slice none 0 0, .bool false, .slice none 0 0] 98) = W1 at *
 have hset : ∀ (vs : List Value) (o : Nat) (U : World), (∃ cs, Blk 98 W.heap.size cs U ∧ cs.size = 24) → U.grownBy (U.setCells W.heap.size o vs) (some W.heap.size) ∧ ∃ cs, Blk 98 W.heap.size cs (U.setCells W.heap.size o vs) ∧ cs.size = 24 := fun vs => by
  induction vs with
  | nil => exact fun o U hU => ⟨⟨rfl, rfl, rfl, Nat.le_refl _, fun _ _ _ => rfl⟩, hU⟩
  | cons v vs ih =>
   intro o U ⟨cs, h3, h4⟩;obtain ⟨h5, h6⟩ := ih (o + 1) (U.setCell ⟨W.heap.size, o, none⟩ v) ⟨_, h3.set_ o v, by rw [Array.size_setIfInBounds, h4]⟩;exact ⟨(Kept.set (Kept.refl U W.heap.size) (.inr rfl) o v).grown h5 (fun q e => by cases e; exact .inr rfl), h6⟩
 obtain ⟨k1, cs, k2, k3⟩ := hset (cols1 x).toArray.toList 0 W1 ⟨_, hB, rfl⟩;have hr := World.rangeAt_setCells_same W1 W.heap.size 0 (cols1 x) (by rw [List.size_toArray] at ht; exact ht)
 have hcs : cs = (cols1 x).toArray := by
  apply Array.ext_getElem?;intro i;have h7 := k2.cell i
  rcases Nat.lt_or_ge i 24 with hi | hi
  ·
   have h8 := hr i _ (cols1_at x hi);rw [Nat.zero_add] at h8;rw [← h7, h8, List.getElem?_toArray, cols1_at x hi]
  · rw [Array.getElem?_eq_none (by omega), Array.getElem?_eq_none (by rw [List.size_toArray, cols1_len]; omega)]
 rw [hcs] at k2;exact ⟨_, hst, run_loadAt_mid _ W.heap.size 0 98 (cols1 x) d hr h1 h2 (col_size _), hal.grown k1 hal.size (fun q e => by cases e; exact Nat.le_refl _), k1, k2⟩
theorem wpListIn_ld {F : Fence} {m : Nat} {P : Program} {w : World} {ops : Array Oper} {rest : List Oper} {o : Oper} {a : Act} {Q : Exit → Act → World → Prop} {ty : TypeId} {x : Operand} {p v : Value} (hr : (Instr.loadAt ty p).run P w = .ok v w) (hg : o.guard = none) (ho : o.op = .load ty x) (hx : a.eval x = p)
  (h : wpListIn F m P ops Q rest (a.put o.dst v) w) : wpListIn F m P ops Q (o :: rest) a w := by
 refine wpListIn_plain hg fun K hK => ?_
 unfold Oper.wpIn;refine ⟨?_, ?_⟩
 · simp [Oper.about, ho]
 ·
  rw [Oper.semAt_plain F _ _ (by rw [ho]; intro c hc'; cases hc')]
  simp [execOp, ho, hx, hr, Result.andThen]
  exact hK _ _ h
theorem wpListIn_st {F : Fence} {m : Nat} {P : Program} {w w' : World} {ops : Array Oper} {rest : List Oper} {o : Oper} {a : Act} {Q : Exit → Act → World → Prop} {ty : TypeId} {x y : Operand} {p v : Value} (hr : (Instr.storeAt ty p v).run P w = .ok () w') (hg : o.guard = none) (ho : o.op = .store ty x y) (hx : a.eval x = p) (hy : a.eval y = v)
  (h : wpListIn F m P ops Q rest (a.put o.dst undef) w') : wpListIn F m P ops Q (o :: rest) a w := by
 refine wpListIn_plain hg fun K hK => ?_
 unfold Oper.wpIn;refine ⟨?_, ?_⟩
 · simp [Oper.about, ho]
 ·
  rw [Oper.semAt_plain F _ _ (by rw [ho]; intro c hc'; cases hc')]
  simp [execOp, ho, hx, hy, hr, Result.andThen]
  exact hK _ _ h
theorem call1_in (m : Nat) (hm : 2 ≤ m) (l Bs n₀ : Nat) {g N cap : Nat} {h : Nat → Nat → Q8} {K : Nat → Nat → Prop} {q : Nat → Nat → Rat} {w : World} (hn₀ : w.heap.size ≤ n₀) (hC : ColB g N cap h w) (hQ : ColQ h N K q w) (h80 : N ≤ 80)
  (J Jx : List Cl → World → Prop)
  (hJ : ∀ pre (W W' : World), J pre W → Below W.heap.size W W' → J pre W')
  (hY : ∀ pre x W, J pre W → Cl.fit K q pre x W → pre.length < N → YieldAt Fence.wide (m - 1) Tryz.prog l x.vals W fun e W' =>
   (e = .returned (.bool true) ∧ J (pre ++ [x]) W' ∧ KpB n₀ Bs W W') ∨ (e = .returned (.bool false) ∧ Jx (pre ++ [x]) W'))
  (W : World) (hBs : Blk 43 Bs #[.slice (some ⟨g, 0, none⟩) N cap] W) (hW : Below w.heap.size w W) (h0 : J [] W) :
  CallsIn Fence.wide m Tryz.prog 160 #[.func (.yield l) #[] #[], .pointer (some ⟨Bs, 0, none⟩)] W fun e W' => (∃ v, e = .returned v) ∧
   ((∃ ys, Cls ys N ∧ J ys W') ∨ (∃ pre, (∃ j, j ≤ N ∧ Cls pre j) ∧ Jx pre W')) := by
 have hro : Fence.wide.round = none := rfl;have hk0 := hBs.c1;refine callsIn_of_wp Tryz.func160 rfl trivial ?_ hro;simp only [Tryz.ntmps160, List.size_toArray, List.length_cons, List.length_nil, Nat.reduceAdd, Nat.reduceSub, Array.replicate_succ, Array.replicate_zero, List.push_toArray, List.append_toArray, List.nil_append, List.cons_append]
 gi_wp2
 gi_loopw [7] (fun i wr => ∃ (k : Nat) (pre : List Cl), k ≤ N ∧ i = .int .i64 (k : Int) ∧ Cls pre k ∧ J pre wr ∧ Below w.heap.size w wr) (fun i _ => N - (intOf i).toNat)
 case atStart => exact ⟨0, [], Nat.zero_le _, rfl, Cls.nil, h0, hW⟩
 case round =>
  obtain ⟨k, pre, hk, rfl, hys, hJs, hbel⟩ := hrel
  by_cases hlt : k < N
  ·
   have hCw : ColB g N cap h wr := ColP.below hC hbel;have hQw : ColQ h N K q wr := ColQ.stable _ _ _ _ _ _ hbel hQ;have hld := col_load hCw hlt;obtain ⟨V, hst, hld2, hba, -, -⟩ := col_store wr (h k);obtain ⟨fn, tmps, assign, body, hy, hR⟩ := hY pre ⟨k, h k⟩ V (hJ _ _ _ hJs hba) ⟨hys.length.symm, fun j hj hK => (hQw k hlt j hj hK).below hba⟩ (by rw [hys.length]; exact hlt);have hbel1 := hbel.trans (hba.mono hbel.size)
   dsimp only [Cl.vals] at hy
   have t1 : decide ((k : Int) < (N : Int)) = true := decide_eq_true (by omega)
   have t2 : (k : Int) < (N : Int) := by omega
   gi_wp2_with (first | refine wpListIn_ld hld rfl rfl rfl ?_ | refine wpListIn_st hst rfl rfl rfl rfl ?_ | refine wpListIn_ld hld2 rfl rfl rfl ?_)
   refine ⟨fun _ => by omega, hR.mono ?_⟩
   rintro e W3 (⟨rfl, hJ3, hk3⟩ | ⟨rfl, hJx3⟩)
   ·
    have hbel3 := hbel1.trans (hk3.1.mono hn₀)
    gi_wp2
    go_roundw
    case rel => exact ⟨k + 1, _, by omega, by (try simp) <;> norm_cast, hys.snoc rfl, hJ3, hbel3⟩
    case measure => simp [intOf]; omega
   ·
    gi_wp2
    refine bodyPost_ret (results_none rfl _ _ _) rfl ?_;exact ⟨⟨_, rfl⟩, .inr ⟨_, ⟨k + 1, by omega, hys.snoc rfl⟩, hJx3⟩⟩
  ·
   obtain rfl : k = N := by omega
   gi_wp2
   go_end0
   exact ⟨⟨_, rfl⟩, .inl ⟨_, hys, hJs⟩⟩
theorem call_in (m : Nat) (A : Option Addr) (n c : Nat) (w : World) :
  CallsIn Fence.wide m Tryz.prog 129 #[.slice A n c] w fun e w' => e = .returned (.func (.func 160) #[] #[.pointer (some ⟨w.heap.size, 0, none⟩)]) ∧ w' = w.alloc (.cells #[.slice A n c] 43) := by
 have hro : Fence.wide.round = none := rfl;refine callsIn_of_wp Tryz.func129 rfl trivial ?_ hro;simp only [Tryz.ntmps129, List.size_toArray, List.length_cons, List.length_nil, Nat.reduceAdd, Nat.reduceSub, Array.replicate_succ, Array.replicate_zero, List.push_toArray, List.append_toArray, List.nil_append, List.cons_append]
 gi_wp2
 go_ret
 exact ⟨rfl, rfl⟩
theorem call_seq (m : Nat) (hm : 2 ≤ m) (Bs n₀ : Nat) {g N cap : Nat} {h : Nat → Nat → Q8} {K : Nat → Nat → Prop} {q : Nat → Nat → Rat} {w : World} (hn₀ : w.heap.size ≤ n₀) (hC : ColB g N cap h w) (hQ : ColQ h N K q w) (h80 : N ≤ 80)
  (w0 : World) (hb0 : Below w.heap.size w w0) (hBs : Blk 43 Bs #[.slice (some ⟨g, 0, none⟩) N cap] w0) :
  SeqV Fence.wide m Tryz.prog 160 #[.pointer (some ⟨Bs, 0, none⟩)] Cl.vals (KpB n₀ Bs) (Cl.fit K q) (fun ys => Cls ys N) (fun pre => ∃ j, j ≤ N ∧ Cls pre j) N w0 := fun l J Jx W hW hJ _ hY h0 =>
 call1_in m hm l Bs n₀ hn₀ hC hQ h80 J Jx (fun _ _ _ hs hb => AbidesFrom_below hJ hs hb) hY W (hBs.below hW hBs.lt) (hb0.trans (hW.mono hb0.size)) h0
theorem ps_bound2 {g : Nat → Rat} {N E M : Nat} (a b : Int) (h : ∀ j, j < N → a ≤ (j : Int) → 0 ≤ g j ∧ g j ≤ (M : Rat) ∧ Dv (g j) E) : ∀ k, k ≤ N → 0 ≤ ps g a b k ∧ ps g a b k ≤ ((k * M : Nat) : Rat) ∧ Dv (ps g a b k) E
 | 0, _ => by simp only [ps]; exact ⟨by decide, by simp, ⟨0, by simp⟩⟩
 | k + 1, hk => by
  obtain ⟨h1, h2, h3⟩ := ps_bound2 a b h k (by omega)
  have e : (((k + 1) * M : Nat) : Rat) = ((k * M : Nat) : Rat) + (M : Rat) := by rw [Nat.succ_mul, Rat.natCast_add]
  have m0 : (0 : Rat) ≤ (M : Rat) := Rat.natCast_nonneg;simp only [ps];rw [e]
  split
  ·
   rename_i hc;obtain ⟨g1, g2, g3⟩ := h k (by omega) hc.1;exact ⟨by grind, by grind, h3.add g3⟩
  · exact ⟨h1, by grind, h3⟩
end
section
open Go.RowKit

theorem Blk.col {g o j i : Nat} {x : Nat → Q8} {W : World} {v : Value} (hB : Blk 98 g (cols1 x).toArray W) (hj : j < 6) (hi : i < 4) (ho : o = j * 4 + i) (hv : (x j).cell i = v) : W.cell? ⟨g, o, none⟩ = some v := by
 subst ho hv;rw [hB.cell, List.getElem?_toArray, cols1_at x (by omega)];rw [show (j * 4 + i) / 4 = j by omega, show (j * 4 + i) % 4 = i by omega]
theorem cofA_v {q : Rat} {x : Nat → Q8} {w : World} (z : Int) (hx : (x 0).fv w q) :
  Calls Tryz.prog 86 #[.int .i64 z, .agg (cols1 x).toArray] w (FR q w) := by
 have hE := (((Env.start w).fv hx).blk 98 (cols1 x).toArray (g := w.heap.size) rfl).blk 29 qz4 (g := w.heap.size + 1) (by simp)
 obtain ⟨W0, hW0⟩ : ∃ W0, W0 = (w.alloc (.cells (cols1 x).toArray 98)).alloc (.cells qz4 29) := ⟨_, rfl⟩
 rw [← hW0] at hE;have HW0 := Lib.hid hW0;clear hW0
 go_enter Tryz.func86, Tryz.ntmps86
 go_upto_region 1 with (fail)
 rw [← HW0.out];have k0 : W0.cell? ⟨w.heap.size, 0, none⟩ = some (.bool (x 0).s) := (hE.here.1.2).col (j := 0) (i := 0) (by decide) (by decide) rfl rfl;have k1 : W0.cell? ⟨w.heap.size, 1, none⟩ = some (.slice (x 0).A (x 0).n (x 0).c) := (hE.here.1.2).col (j := 0) (i := 1) (by decide) (by decide) rfl rfl;have k2 : W0.cell? ⟨w.heap.size, 2, none⟩ = some (.bool (x 0).t) := (hE.here.1.2).col (j := 0) (i := 2) (by decide) (by decide) rfl rfl;have k3 : W0.cell? ⟨w.heap.size, 3, none⟩ = some (.slice (x 0).B (x 0).m (x 0).d) := (hE.here.1.2).col (j := 0) (i := 3) (by decide) (by decide) rfl rfl
 have hRl : w.heap.size ≤ w.heap.size + 1 := by omega
 obtain ⟨WW, hWW, hB, hV, hBel⟩ := ret_frac hE hE.here.2 hRl hE.h2 (x 0).c (x 0).d;obtain ⟨x0, x1, x2, x3⟩ := (hE.here.2).c4;obtain ⟨fz0, fz1, fz2, fz3⟩ := hE.here.2.f4;have HWW := Lib.hid hWW;clear hWW;go_wp2_with fail
 clear k0 k1 k2 k3;rw [← HWW.out];obtain ⟨y0, y1, y2, y3⟩ := hB.c4;refine bodyPost_ret (v := .agg #[.bool (x 0).s, .slice (x 0).A (x 0).n (x 0).c, .bool (x 0).t, .slice (x 0).B (x 0).m (x 0).d]) (by simp [results, Tryz.results86, go_sem, y0, y1, y2, y3]) rfl ?_;exact ⟨(x 0).s, (x 0).A, (x 0).n, (x 0).c, (x 0).t, (x 0).B, (x 0).m, (x 0).d, rfl, hV, hBel⟩
theorem cofC_v {q : Rat} {x : Nat → Q8} {w : World} (z : Int) (hx : (x 3).fv w q) :
  Calls Tryz.prog 87 #[.int .i64 z, .agg (cols1 x).toArray] w (FR q w) := by
 have hE := (((Env.start w).fv hx).blk 98 (cols1 x).toArray (g := w.heap.size) rfl).blk 29 qz4 (g := w.heap.size + 1) (by simp)
 obtain ⟨W0, hW0⟩ : ∃ W0, W0 = (w.alloc (.cells (cols1 x).toArray 98)).alloc (.cells qz4 29) := ⟨_, rfl⟩
 rw [← hW0] at hE;have HW0 := Lib.hid hW0;clear hW0
 go_enter Tryz.func87, Tryz.ntmps87
 go_upto_region 1 with (fail)
 rw [← HW0.out];have k0 : W0.cell? ⟨w.heap.size, 12, none⟩ = some (.bool (x 3).s) := (hE.here.1.2).col (j := 3) (i := 0) (by decide) (by decide) rfl rfl;have k1 : W0.cell? ⟨w.heap.size, 13, none⟩ = some (.slice (x 3).A (x 3).n (x 3).c) := (hE.here.1.2).col (j := 3) (i := 1) (by decide) (by decide) rfl rfl;have k2 : W0.cell? ⟨w.heap.size, 14, none⟩ = some (.bool (x 3).t) := (hE.here.1.2).col (j := 3) (i := 2) (by decide) (by decide) rfl rfl;have k3 : W0.cell? ⟨w.heap.size, 15, none⟩ = some (.slice (x 3).B (x 3).m (x 3).d) := (hE.here.1.2).col (j := 3) (i := 3) (by decide) (by decide) rfl rfl
 have hRl : w.heap.size ≤ w.heap.size + 1 := by omega
 obtain ⟨WW, hWW, hB, hV, hBel⟩ := ret_frac hE hE.here.2 hRl hE.h2 (x 3).c (x 3).d;obtain ⟨x0, x1, x2, x3⟩ := (hE.here.2).c4;obtain ⟨fz0, fz1, fz2, fz3⟩ := hE.here.2.f4;have HWW := Lib.hid hWW;clear hWW;go_wp2_with fail
 clear k0 k1 k2 k3;rw [← HWW.out];obtain ⟨y0, y1, y2, y3⟩ := hB.c4;refine bodyPost_ret (v := .agg #[.bool (x 3).s, .slice (x 3).A (x 3).n (x 3).c, .bool (x 3).t, .slice (x 3).B (x 3).m (x 3).d]) (by simp [results, Tryz.results87, go_sem, y0, y1, y2, y3]) rfl ?_;exact ⟨(x 3).s, (x 3).A, (x 3).n, (x 3).c, (x 3).t, (x 3).B, (x 3).m, (x 3).d, rfl, hV, hBel⟩
end
section
open Go.RowKit Go.Shelf
attribute [local go_sem] Oper.semAt_some

def PrI (w : World) (g1 g2 g3 g4 Pp : Nat) (a b : Int) (of : Value) (q : Rat) (W : World) : Prop :=
 ∃ s A n c t C m d, Env w (fun V => ((((((True ∧ Blk 3 g1 #[.int .i64 a] V) ∧ Blk 3 g2 #[.int .i64 b] V) ∧ Blk 116 g3 #[of] V) ∧ Blk 29 g4 qz4 V) ∧ FV V q s A n t C m) ∧ Blk 29 Pp (qf4 s A n c t C m d) V)) W
theorem PrI.grown {w : World} {B : Nat} (hB : w.heap.size ≤ B) (g1 g2 g3 g4 Pp : Nat) (a b : Int) (of : Value) (q : Rat) : Grown B (PrI w g1 g2 g3 g4 Pp a b of q) := fun W W' row ⟨s, A, n, c, t, C, m, d, h⟩ hg hr =>
 ⟨s, A, n, c, t, C, m, d, Grown.env hB ((((((Grown.tt B).and (Grown.blk _ _ _ _)).and (Grown.blk _ _ _ _)).and (Grown.blk _ _ _ _)).and (Grown.blk _ _ _ _)).and (Grown.fv _ _ _ _ _ _ _ _) |>.and (Grown.blk _ _ _ _)) W W' row h hg hr⟩
theorem PrI.step {w W W' : World} {g1 g2 g3 g4 Pp : Nat} {a b : Int} {of : Value} {q : Rat} (h : PrI w g1 g2 g3 g4 Pp a b of q W) (hb : Below W.heap.size W W') : PrI w g1 g2 g3 g4 Pp a b of q W' := by
 obtain ⟨s, A, n, c, t, C, m, d, h⟩ := h;exact ⟨s, A, n, c, t, C, m, d, h.step hb⟩
def CAx (q : Nat → Nat → Rat) (Pp : Nat) (mk : Nat → Value → Value → Act) (pre : List Cl) (x : Cl) (a : Act) (W : World) : Prop :=
 x.k = pre.length ∧ ∃ g, a = mk g (.int .i64 (x.k : Int)) (.agg (cols1 x.x).toArray) ∧ Pp < g ∧ g < W.heap.size ∧ ((x.x 0).fv W (q x.k 0) ∧ (x.x 3).fv W (q x.k 3)) ∧ Blk 98 g (cols1 x.x).toArray W
theorem CAx.grown {B Pp : Nat} {q : Nat → Nat → Rat} {mk : Nat → Value → Value → Act} {pre : List Cl} {x : Cl} {a : Act} : Grown B (fun W => CAx q Pp mk pre x a W) :=
 (Grown.pure B _).and (Grown.ex fun g => (Grown.pure B _).and ((Grown.pure B _).and ((Grown.size B g).and (((Grown.fv B _ _ _ _ _ _ _).and (Grown.fv B _ _ _ _ _ _ _)).and (Grown.blk B _ _ _)))))
theorem col_ldB {g : Nat} {x : Nat → Q8} {W : World} (hB : Blk 98 g (cols1 x).toArray W) : (Instr.loadAt 98 (.pointer (some ⟨g, 0, none⟩))).run Tryz.prog W = .ok (.agg (cols1 x).toArray) W := by
 obtain ⟨d, h1, h2⟩ := col_desc;refine run_loadAt_mid W g 0 98 (cols1 x) d (fun j v hv => ?_) h1 h2 (col_size _);rw [Nat.zero_add, hB.cell, List.getElem?_toArray];exact hv
theorem wpAnyIn_relist {F : Fence} {m fuel : Nat} {P : Program} {md : Region.Mode} {ops : Array Oper} {Q : Exit → Act → World → Prop} {l l' : Array Bool} {a : Act} {w : World} (e : l = l') (h : wpAnyIn F m P md ops Q fuel l' a w) : wpAnyIn F m P md ops Q fuel l a w := e ▸ h
theorem ld_stepIn {F : Fence} {m : Nat} {P : Program} {w : World} {o : Oper} {a : Act} {K : Act → World → Prop} {Q : Exit → Act → World → Prop} {ty : TypeId} {x : Operand} {p v : Value} (hr : (Instr.loadAt ty p).run P w = .ok v w) (ho : o.op = .load ty x) (hx : a.eval x = p) (h : K (a.put o.dst v) w) : o.wpIn F m P a w K Q := by
 unfold Oper.wpIn;refine ⟨?_, ?_⟩
 · simp [Oper.about, ho]
 ·
  rw [Oper.semAt_plain F _ _ (by rw [ho]; intro c hc'; cases hc')]
  simp [execOp, ho, hx, hr, Result.andThen]
  exact h
section
variable {v : Rat} {f : Nat → Rat} {N : Nat} (hv : Dis v) (hf : Rts f N) (h80 : N ≤ 80)
include hv hf h80
theorem ps_len {g : Nat → Rat} {M : Nat} (hM : M ≤ 80) (a b : Int) (h : ∀ j, j < N → a ≤ (j : Int) → 0 ≤ g j ∧ g j ≤ (M : Rat) ∧ Dv (g j) (dE v f N)) : ∀ k, k ≤ N → Ql 6400 (3 * N) (ps g a b k) := fun k hk => by
 obtain ⟨h1, h2, h3⟩ := ps_bound2 a b h k hk;refine Ql.of h1 (Rat.le_trans h2 ?_) (dE_pos v f N) h3 (dE_le hv hf N (Nat.le_refl _))
 exact_mod_cast Nat.mul_le_mul (show k ≤ 80 by omega) hM
omit h80 in
theorem ddA {j : Nat} (hj : j < N) (a : Int) (_ : a ≤ (j : Int)) : 0 ≤ dd v f j ∧ dd v f j ≤ ((1 : Nat) : Rat) ∧ Dv (dd v f j) (dE v f N) := dd_ok hv hf j hj
omit h80 in
theorem ccA {j : Nat} (hj : j < N) (a : Int) (_ : a ≤ (j : Int)) : 0 ≤ cc v f j ∧ cc v f j ≤ ((1 : Nat) : Rat) ∧ Dv (cc v f j) (dE v f N) := cc_ok hv hf j hj
end
theorem cpresA_v {F S E Y : Int} {A : Option Addr} {n c : Nat} {r : Nat → RH} {si ti : Bool} {Ai Bi : Option Addr} {ni ci mi di : Nat} {fi gi : Nat → Nat} {w : World} (hT : TabM w A n r) (hB : TabB n r) (hr : FRd w Ai ni fi Bi mi gi) (hn : ni ≤ 1000000) (hm : mi ≤ 1000000) (hbk : BOK F S n r si ni fi ti mi gi) (hR : RightP F S n r E Y) (N : Nat) (hN : Cnt (1 / (1 + qOf si ni fi mi gi)) (fr F S n r E Y) N) (h80 : N ≤ 80) (a b : Nat) (ha : a ≤ 9223372036854775807) (hb : b ≤ 9223372036854775807) :
  Calls Tryz.prog 85 #[.agg (qb7 F S A n c si Ai ni ci ti Bi mi di), .agg #[.int .i64 E, .int .i64 Y], .int .i64 (a : Int), .int .i64 (b : Int), .func (.func 86) #[] #[]] w (FOK (ps (dd (1 / (1 + qOf si ni fi mi gi)) (fr F S n r E Y)) (a : Int) (b : Int) N) w) := by
 obtain ⟨hqv, hi⟩ := intB_rti hr hbk.2;have hN0 : 0 < N := hN.pos;have hdis := hi.dis;have hrts := rt_rates hT hR N
 have hcols := fun (W : World) (hW : Below w.heap.size w W) => ccols1_v (c := c) (ci := ci) (di := di) (hT.below hW) hB (hr.below hW) hn hm hbk hR N hN h80
 obtain ⟨v, hv⟩ : ∃ v, v = 1 / (1 + qOf si ni fi mi gi) := ⟨_, rfl⟩
 obtain ⟨f, hf⟩ : ∃ f, f = fr F S n r E Y := ⟨_, rfl⟩
 rw [← hv] at hdis hN hcols ⊢;rw [← hf] at hN hcols ⊢
 have hrf : Rts f N := by rw [hf]; exact hrts
 clear hrts;have t1 : decide ((a : Int) < 0) = false := decide_eq_false (by omega);have t2 : decide ((b : Int) < 0) = false := decide_eq_false (by omega);have HhT := Lib.hid hT;clear hT;have HhB := Lib.hid hB;clear hB;have Hhr := Lib.hid hr;clear hr;have Hhbk := Lib.hid hbk;clear hbk;have HhR := Lib.hid hR;clear hR;have HhN := Lib.hid hN;clear hN;have Hhqv := Lib.hid hqv;clear hqv;have Hhi := Lib.hid hi;clear hi;have Hhdis := Lib.hid hdis;clear hdis;have Hhrf := Lib.hid hrf;clear hrf;have Hhv := Lib.hid hv;clear hv;have Hhf := Lib.hid hf;clear hf;have Hhcols := Lib.hid hcols;clear hcols;refine (callsIn_wide (n := 5)).1 ?_;have hro : Fence.wide.round = none := rfl;refine callsIn_of_wp_marks Tryz.func85 rfl trivial ?_ hro;simp only [Tryz.ntmps85, List.size_toArray, List.length_cons, List.length_nil, Nat.reduceAdd, Nat.reduceSub, Array.replicate_succ, Array.replicate_zero, List.push_toArray, List.append_toArray, List.nil_append, List.cons_append];have hE := (((((((Env.start w).blk 31 (qb7 F S A n c si Ai ni ci ti Bi mi di) (g := w.heap.size) rfl).blk 33 #[.int .i64 E, .int .i64 Y] (g := w.heap.size + 1) (by simp)).blk 3 #[.int .i64 (a : Int)] (g := w.heap.size + 1 + 1) (by simp)).blk 3 #[.int .i64 (b : Int)] (g := w.heap.size + 1 + 1 + 1) (by simp)).blk 116 #[.func (.func 86) #[] #[]] (g := w.heap.size + 1 + 1 + 1 + 1) (by simp)).blk 29 qz4 (g := w.heap.size + 1 + 1 + 1 + 1 + 1) (by simp))
 obtain ⟨W0, hW0⟩ : ∃ W0, W0 = ((((((w.alloc (.cells (qb7 F S A n c si Ai ni ci ti Bi mi di) 31)).alloc (.cells #[.int .i64 E, .int .i64 Y] 33)).alloc (.cells #[.int .i64 (a : Int)] 3)).alloc (.cells #[.int .i64 (b : Int)] 3)).alloc (.cells #[.func (.func 86) #[] #[]] 116)).alloc (.cells qz4 29)) := ⟨_, rfl⟩
 rw [← hW0] at hE;have HW0 := Lib.hid hW0;clear hW0
 gi_wp2
 clear t1 t2;rw [← HW0.out];refine ⟨trivial, (callsIn_wide.2 (Hhcols.out _ hE.bel)).mono ?_⟩
 rintro e wc ⟨cv, h, rfl, hcv, hcq, hb1⟩
 replace hE := hE.step hb1;have hlc : w.heap.size + 1 + 1 + 1 + 1 + 1 < wc.heap.size := (hE.here.2).lt
 rcases hcv with ⟨-, h0⟩ | ⟨g, cap, rfl, -, hCB⟩
 · omega
 clear hb1
 gi_wp2
 refine ⟨trivial, (callsIn_wide.2 (ffromInt_v 0 _ (by decide) (by decide))).mono ?_⟩
 rintro e w1 ⟨sp, Ap, np, cp, tp, Bp, mp, dp, rfl, hp, hb1⟩
 have hcw : Below wc.heap.size wc w1 := hb1;replace hE := (hE.step hb1).fv hp;clear hp
 gi_wp2
 refine ⟨trivial, (call_in 4 _ N cap _).mono ?_⟩
 rintro e w2 ⟨rfl, rfl⟩
 gi_wp2
 have hE := (hE.blk 29 (qf4 sp Ap np cp tp Bp mp dp) (g := w1.heap.size) rfl).blk 43 #[.slice (some ⟨g, 0, none⟩) N cap] (g := w1.heap.size + 1) (by simp);have hcP : wc.heap.size ≤ w1.heap.size := hcw.size;have hcw2 : Below wc.heap.size wc ((w1.alloc (.cells (qf4 sp Ap np cp tp Bp mp dp) 29)).alloc (.cells #[.slice (some ⟨g, 0, none⟩) N cap] 43)) := (hcw.alloc hcP _).alloc (by simp; omega) _;have hPl : w.heap.size + 1 + 1 + 1 + 1 + 1 < wc.heap.size := hlc;generalize hPp : w1.heap.size = Pp at hE hcP ⊢
 have hsz : ((w1.alloc (.cells (qf4 sp Ap np cp tp Bp mp dp) 29)).alloc (.cells #[.slice (some ⟨g, 0, none⟩) N cap] 43)).heap.size = Pp + 2 := by simp [hPp]
 generalize (w1.alloc (.cells (qf4 sp Ap np cp tp Bp mp dp) 29)).alloc (.cells #[.slice (some ⟨g, 0, none⟩) N cap] 43) = Wr at hE hsz hcw2 ⊢;clear hPp hcw hlc
 have hsw : w.heap.size ≤ Wr.heap.size := by omega
 have hcs : wc.heap.size ≤ Wr.heap.size := by omega
 have hL1 : ∀ k, k ≤ N → fl (ps (dd v f) (a : Int) (b : Int) k) ≤ 256 := fun k hk => (ps_len Hhdis.out Hhrf.out h80 (M := 1) (by decide) (a : Int) (b : Int) (fun j hj h => ddA Hhdis.out Hhrf.out hj (a : Int) h) k hk).l (by decide) (by decide) (by omega)
 have hL2 : ∀ k, k < N → (a : Int) ≤ (k : Int) → fl ((dd v f) k) ≤ 256 := fun k hk h => by
  obtain ⟨h1, h2, h3⟩ := (fun j hj h => ddA Hhdis.out Hhrf.out hj (a : Int) h : ∀ j, j < N → (a : Int) ≤ (j : Int) → 0 ≤ (dd v f) j ∧ (dd v f) j ≤ ((1 : Nat) : Rat) ∧ Dv ((dd v f) j) (dE v f N)) k hk h;exact (Ql.of h1 h2 (dE_pos v f N) h3 (dE_le Hhdis.out Hhrf.out N (Nat.le_refl _))).l (by decide) (by decide) (by omega)
 have HhL1 := Lib.hid hL1;clear hL1;have HhL2 := Lib.hid hL2;clear hL2
 refine rangeV hro (by decide) (gf := 160) (lb := #[.pointer (some ⟨Pp + 1, 0, none⟩)]) rfl trivial (enters_of Tryz.func160 (by kernel_rfl) rfl)
  (call_seq (5 - 1) (by decide) (Pp + 1) wc.heap.size (Nat.le_refl _) hCB hcq h80 Wr hcw2 hE.here.2) KpB.t (KpB.b hcs (by omega)) (Below.refl _ _) (fun _ => rfl)
  (fun pre W => (PrI w (w.heap.size + 1 + 1) (w.heap.size + 1 + 1 + 1) (w.heap.size + 1 + 1 + 1 + 1) (w.heap.size + 1 + 1 + 1 + 1 + 1) Pp (a : Int) (b : Int) (.func (.func 86) #[] #[]) (ps (dd v f) (a : Int) (b : Int) pre.length) W ∧ Pp + 1 < W.heap.size) ∧ wc.heap.size ≤ W.heap.size) (fun _ _ _ => False)
  (fun s W W' row h hg hr => ⟨⟨PrI.grown hsw _ _ _ _ _ _ _ _ _ W W' row h.1.1 hg hr, Nat.lt_of_lt_of_le h.1.2 hg.size⟩, Nat.le_trans h.2 hg.size⟩) (fun _ _ _ _ _ h _ _ => h)
  ⟨⟨⟨_, _, _, _, _, _, _, _, (((((((Env.again hE.bel).blkI (hE.h6)).blkI (hE.h5)).blkI (hE.h4)).blkI (hE.h3)).fv (hE.h2)).blkI (hE.here.1.2))⟩, by omega⟩, hcs⟩
  (CAx (colq v f N) Pp (fun gc yv rv => { tmps := #[.agg (qb7 F S A n c si Ai ni ci ti Bi mi di), .agg #[.int .i64 E, .int .i64 Y], .int .i64 (a : Int), .int .i64 (b : Int), .func (.func 86) #[] #[], .pointer (some ⟨w.heap.size, 0, none⟩), .pointer (some ⟨w.heap.size + 1, 0, none⟩), .pointer (some ⟨w.heap.size + 1 + 1, 0, none⟩), .pointer (some ⟨w.heap.size + 1 + 1 + 1, 0, none⟩), .pointer (some ⟨w.heap.size + 1 + 1 + 1 + 1, 0, none⟩), .pointer (some ⟨w.heap.size + 1 + 1 + 1 + 1 + 1, 0, none⟩), .int .i64 0, .slice (some ⟨g, 0, none⟩) N cap, .int .i64 0, .pointer (some ⟨Pp, 0, none⟩), yv, .pointer (some ⟨gc, 0, none⟩), .int .i64 (a : Int), .bool false, .bool false, .int .i64 (b : Int), .bool false, .bool false, undef, .tuple #[.slice (some ⟨g, 0, none⟩) N cap, .int .i64 0], .agg (qb7 F S A n c si Ai ni ci ti Bi mi di), .agg #[.int .i64 E, .int .i64 Y], .tuple #[.slice (some ⟨g, 0, none⟩) N cap, .int .i64 0], .slice (some ⟨g, 0, none⟩) N cap, .int .i64 0, .int .i64 0, .bool false, undef, undef, .agg (qf4 sp Ap np cp tp Bp mp dp), .slice (some ⟨g, 0, none⟩) N cap, .func (.func 160) #[] #[.pointer (some ⟨Pp + 1, 0, none⟩)], yv, rv, undef, undef, undef, undef, undef, undef, undef, undef, undef, undef, undef, undef, undef, undef, undef], defers := [] })) (fun pre x a' => fun _ W W' row h hg hr => CAx.grown W W' row h hg hr) ?assign ?body ?done ?stop
 case assign =>
  rintro l pre ⟨xk, xx⟩ W K ⟨⟨hI, hBs⟩, hcW⟩ ⟨hxk, hxf⟩ hK
  dsimp only at hxk hxf
  subst hxk;obtain ⟨V, hst, hld2, hba, -, hbk⟩ := col_store W xx;have hTr := (Trail.refl (B := Wr.heap.size) (n₀ := wc.heap.size) (Bs := Pp + 1) W hBs hcW).step hba
  have hfin := fun a hax => hK a V hTr.keeps hTr.kp ⟨⟨PrI.step hI hba, Nat.lt_of_lt_of_le hBs hba.size⟩, Nat.le_trans hcW hba.size⟩ ⟨rfl, W.heap.size, hax, by omega, hbk.lt, ⟨(hxf 0 (by decide) (.inl rfl)).below hba, (hxf 3 (by decide) (.inr rfl)).below hba⟩, hbk⟩
  have HF := Lib.hid hfin;clear hfin hK hI hxf hbk hTr hba hld2
  dsimp only [Cl.vals]
  gi_wp2_with (refine wpListIn_st hst rfl rfl rfl rfl ?_)
  exact HF.out _ rfl
 case body =>
  rintro l pre ⟨xk, xx⟩ a' W ⟨⟨⟨sq, Aq, nq, cq, tq, Bq, mq, dq, hE⟩, hBs⟩, hcW⟩ ⟨hxk, gx, rfl, hg1, hg2, ⟨hx0, hx3⟩, hxb⟩ hlen
  dsimp only at hxk hx0 hx3 hxb hg1 hg2
  subst hxk;have hE := (((hE.fv hx0).fv hx3).blkI hxb).trail (Trail.refl (B := Wr.heap.size) (n₀ := wc.heap.size) (Bs := Pp + 1) W hBs hcW);clear hx0 hx3 hxb
  have hmx : Tryz.prog.follows .mixedOrders = true := by kernel_rfl
  have hlen2 : (pre ++ [Cl.mk pre.length xx]).length = pre.length + 1 := by simp
  have Hlen2 := Lib.hid hlen2;clear hlen2
  by_cases h1 : a ≤ pre.length
  ·
   have t1 : decide ((a : Int) ≤ (pre.length : Int)) = true := decide_eq_true (by omega)
   by_cases h2 : pre.length < b
   ·
    have t2 : decide ((pre.length : Int) < (b : Int)) = true := decide_eq_true (by omega);have HPS : Hid (ps (dd v f) (a : Int) (b : Int) (pre.length + 1) = ps (dd v f) (a : Int) (b : Int) pre.length + (dd v f) pre.length) := Lib.hid (by simp only [ps]; rw [if_pos ⟨by omega, by omega⟩])
    have ha1 : (a : Int) ≤ (pre.length : Int) := by omega
    have lsum := HhL1.out (pre.length + 1) hlen;rw [HPS.out] at lsum;have Hlsum := Lib.hid lsum;clear lsum;have k0 := (hE.h9).c1;have k1 := (hE.h8).c1
    gi_wp2
    clear k0 k1 t1 t2;refine wpIn_region_any (by assumption) ?_;replace hE := hE.drew;change wpAnyIn _ _ _ _ _ _ _ _ _ (W.drew);generalize W.drew = wd at hE ⊢;refine wpAnyIn_ready (rs := [0, 1, 2, 3]) (by kernel_rfl) (by simp) ?rr1;refine AllReadyIn.cons rfl (fun K hK => ?_) ?_
    ·
     obtain ⟨k2, k3, k4, k5⟩ := (hE.h4).c4;have k6 := (hE.h7).c1;go_simp;refine hK _ _ ?_;clear hK K;try simp only [PL]
     clear k2 k3 k4 k5 k6;refine wpAnyIn_relist (l' := #[true, false, false, false, false, false, false]) (by kernel_rfl) ?_;refine ?c1_0;refine wpAnyIn_ready (rs := [1, 2, 3]) (by kernel_rfl) (by simp) ?rr7;refine AllReadyIn.cons rfl (fun K hK => ?_) ?_
     ·
      obtain ⟨k8, k9, k10, k11⟩ := (hE.h4).c4;have k12 := (hE.h7).c1;go_simp;refine hK _ _ ?_;clear hK K;try simp only [PL]
      clear k8 k9 k10 k11 k12;refine wpAnyIn_relist (l' := #[true, true, false, false, false, false, false]) (by kernel_rfl) ?_;refine ?c1_01;refine wpAnyIn_ready (rs := [2, 3]) (by kernel_rfl) (by simp) ?rr13;refine AllReadyIn.cons rfl (fun K hK => ?_) ?_
      ·
       obtain ⟨k14, k15, k16, k17⟩ := (hE.h4).c4;have k18 := (hE.h7).c1;go_simp;refine hK _ _ ?_;clear hK K;try simp only [PL]
       clear k14 k15 k16 k17 k18;refine wpAnyIn_relist (l' := #[true, true, true, false, false, false, false]) (by kernel_rfl) ?_;refine ?c1_012;refine wpAnyIn_ready (rs := [3]) (by kernel_rfl) (by simp) ?rr19;refine AllReadyIn.cons rfl (fun K hK => ?_) ?_
       ·
        refine Eq.mpr (if_pos (by rfl)) ?_;refine ld_stepIn (x := .tmp 16) (col_ldB (hE.here.1.2)) rfl rfl ?_;refine hK _ _ ?_;clear hK K;try simp only [PL]
        refine wpAnyIn_relist (l' := #[true, true, true, true, false, false, false]) (by kernel_rfl) ?_;refine ?c1_0123;refine wpAnyIn_ready (rs := [4]) (by kernel_rfl) (by simp) ?rr20;refine AllReadyIn.cons rfl (fun K hK => ?_) ?_
        ·
         go_simp;skip
         first | refine ⟨trivial, fun _ => by omega, (CallsIn.inRound l (callsIn_wide.2 (cofA_v (pre.length : Int) (x := xx) (q := dd v f pre.length) (hE.h3)))).mono ?_⟩ | refine ⟨trivial, (CallsIn.inRound l (callsIn_wide.2 (cofA_v (pre.length : Int) (x := xx) (q := dd v f pre.length) (hE.h3)))).mono ?_⟩ | refine ⟨trivial, trivial, (CallsIn.inRound l (callsIn_wide.2 (cofA_v (pre.length : Int) (x := xx) (q := dd v f pre.length) (hE.h3)))).mono ?_⟩ | refine ⟨trivial, trivial, fun _ => by omega, (CallsIn.inRound l (callsIn_wide.2 (cofA_v (pre.length : Int) (x := xx) (q := dd v f pre.length) (hE.h3)))).mono ?_⟩
         rintro e w21 ⟨so, Ao, no, co, ti, Bo, mo, dob, rfl, ho, hb⟩
         replace hE := hE.step hb;clear hb;replace hE := hE.fv ho;clear ho;refine hK _ _ ?_;clear hK K;try simp only [PL]
         refine wpAnyIn_ready (rs := [5]) (by kernel_rfl) (by simp) ?rr22;refine AllReadyIn.cons rfl (fun K hK => ?_) ?_
         ·
          go_simp;skip
          first | refine ⟨trivial, fun _ => by omega, (CallsIn.inRound l (callsIn_wide.2 (cplus_v (ca := cq) (da := dq) (cb := co) (db := dob) hE.h6 hE.here.2 (HhL1.out pre.length (by omega)) (HhL2.out pre.length hlen ha1) Hlsum.out))).mono ?_⟩ | refine ⟨trivial, (CallsIn.inRound l (callsIn_wide.2 (cplus_v (ca := cq) (da := dq) (cb := co) (db := dob) hE.h6 hE.here.2 (HhL1.out pre.length (by omega)) (HhL2.out pre.length hlen ha1) Hlsum.out))).mono ?_⟩ | refine ⟨trivial, trivial, (CallsIn.inRound l (callsIn_wide.2 (cplus_v (ca := cq) (da := dq) (cb := co) (db := dob) hE.h6 hE.here.2 (HhL1.out pre.length (by omega)) (HhL2.out pre.length hlen ha1) Hlsum.out))).mono ?_⟩ | refine ⟨trivial, trivial, fun _ => by omega, (CallsIn.inRound l (callsIn_wide.2 (cplus_v (ca := cq) (da := dq) (cb := co) (db := dob) hE.h6 hE.here.2 (HhL1.out pre.length (by omega)) (HhL2.out pre.length hlen ha1) Hlsum.out))).mono ?_⟩
          rintro e w23 ⟨sz, Az, nz, cz, tz, Bz, mz, dz, rfl, hz, hb⟩
          replace hE := hE.step hb;clear hb;replace hE := hE.fv hz;clear hz;refine hK _ _ ?_;clear hK K;try simp only [PL]
          refine wpAnyIn_ready (rs := [6]) (by kernel_rfl) (by simp) ?rr24;refine AllReadyIn.cons rfl (fun K hK => ?_) ?_
          ·
           have hgl25 : w.heap.size ≤ Pp := by omega
           obtain ⟨x25_0, x25_1, x25_2, x25_3⟩ := (hE.h6).c4;obtain ⟨f25_0, f25_1, f25_2, f25_3⟩ := hE.h6.f4;replace hE := (((((((((((((Env.again (bel4 hE.bel hgl25 (.bool sz) (.slice Az nz cz) (.bool tz) (.slice Bz mz dz))).blkI ((hE.h11).far4 (by omega) _ _ _ _)).blkI ((hE.h10).far4 (by omega) _ _ _ _)).blkI ((hE.h9).far4 (by omega) _ _ _ _)).blkI ((hE.h8).far4 (by omega) _ _ _ _)).fv ((hE.h7).sep4 hE.h6 rfl _ _ _ _ rfl rfl rfl)).blkI ((hE.h6).s4 _ _ _ _)).fv ((hE.h5).sep4 hE.h6 rfl _ _ _ _ rfl rfl rfl)).fv ((hE.h4).sep4 hE.h6 rfl _ _ _ _ rfl rfl rfl)).blkI ((hE.h3).far4 (by omega) _ _ _ _)).trail ((hE.h2).set4 ⟨by omega, by omega, by omega⟩ _ _ _ _)).fv ((hE.here.1.2).sep4 hE.h6 rfl _ _ _ _ rfl rfl rfl)).fv ((hE.here.2).sep4 hE.h6 rfl _ _ _ _ rfl rfl rfl));go_simp;clear x25_0 x25_1 x25_2 x25_3 f25_0 f25_1 f25_2 f25_3 hgl25;generalize ((((w23.setCell ⟨Pp, 0, none⟩ (.bool sz)).setCell ⟨Pp, 1, none⟩ (.slice Az nz cz)).setCell ⟨Pp, 2, none⟩ (.bool tz)).setCell ⟨Pp, 3, none⟩ (.slice Bz mz dz)) = W25 at hE ⊢;refine hK _ _ ?_;clear hK K;try simp only [PL]
           refine wpAnyIn_done (by kernel_rfl) ?_ _;refine ⟨(hE.h2).keeps, (hE.h2).kp, ⟨⟨?_, (hE.h2).hs⟩, ?_⟩⟩
           ·
            show PrI w (w.heap.size + 1 + 1) (w.heap.size + 1 + 1 + 1) (w.heap.size + 1 + 1 + 1 + 1) (w.heap.size + 1 + 1 + 1 + 1 + 1) Pp (a : Int) (b : Int) (.func (.func 86) #[] #[]) (ps (dd v f) (a : Int) (b : Int) (pre ++ [Cl.mk pre.length xx]).length) _;rw [Hlen2.out, HPS.out];exact ⟨_, _, _, _, _, _, _, _, (((((((Env.again hE.bel).blkI (hE.h11)).blkI (hE.h10)).blkI (hE.h9)).blkI (hE.h8)).fv (hE.here.2)).blkI (hE.h6))⟩
           ·
            show wc.heap.size ≤ _;exact Nat.le_trans hcW (hE.h2).keeps.size
          exact AllReadyIn.nil
         exact AllReadyIn.nil
        exact AllReadyIn.nil
       exact AllReadyIn.nil
      refine AllReadyIn.cons rfl (fun K hK => ?_) ?_
      ·
       refine Eq.mpr (if_pos (by rfl)) ?_;refine ld_stepIn (x := .tmp 16) (col_ldB (hE.here.1.2)) rfl rfl ?_;refine hK _ _ ?_;clear hK K;try simp only [PL]
       refine wpAnyIn_relist (l' := #[true, true, false, true, false, false, false]) (by kernel_rfl) ?_;refine ?c1_013;refine wpAnyIn_ready (rs := [2]) (by kernel_rfl) (by simp) ?rr26;refine AllReadyIn.cons rfl (fun K hK => ?_) ?_
       ·
        obtain ⟨k27, k28, k29, k30⟩ := (hE.h4).c4;have k31 := (hE.h7).c1;go_simp;refine hK _ _ ?_;clear hK K;try simp only [PL]
        clear k27 k28 k29 k30 k31;refine wpAnyIn_relist (l' := #[true, true, true, true, false, false, false]) (by kernel_rfl) ?_;exact ?c1_0123
       exact AllReadyIn.nil
      exact AllReadyIn.nil
     refine AllReadyIn.cons rfl (fun K hK => ?_) ?_
     ·
      obtain ⟨k32, k33, k34, k35⟩ := (hE.h4).c4;have k36 := (hE.h7).c1;go_simp;refine hK _ _ ?_;clear hK K;try simp only [PL]
      clear k32 k33 k34 k35 k36;refine wpAnyIn_relist (l' := #[true, false, true, false, false, false, false]) (by kernel_rfl) ?_;refine ?c1_02;refine wpAnyIn_ready (rs := [1, 3]) (by kernel_rfl) (by simp) ?rr37;refine AllReadyIn.cons rfl (fun K hK => ?_) ?_
      ·
       obtain ⟨k38, k39, k40, k41⟩ := (hE.h4).c4;have k42 := (hE.h7).c1;go_simp;refine hK _ _ ?_;clear hK K;try simp only [PL]
       clear k38 k39 k40 k41 k42;refine wpAnyIn_relist (l' := #[true, true, true, false, false, false, false]) (by kernel_rfl) ?_;exact ?c1_012
      refine AllReadyIn.cons rfl (fun K hK => ?_) ?_
      ·
       refine Eq.mpr (if_pos (by rfl)) ?_;refine ld_stepIn (x := .tmp 16) (col_ldB (hE.here.1.2)) rfl rfl ?_;refine hK _ _ ?_;clear hK K;try simp only [PL]
       refine wpAnyIn_relist (l' := #[true, false, true, true, false, false, false]) (by kernel_rfl) ?_;refine ?c1_023;refine wpAnyIn_ready (rs := [1]) (by kernel_rfl) (by simp) ?rr43;refine AllReadyIn.cons rfl (fun K hK => ?_) ?_
       ·
        obtain ⟨k44, k45, k46, k47⟩ := (hE.h4).c4;have k48 := (hE.h7).c1;go_simp;refine hK _ _ ?_;clear hK K;try simp only [PL]
        clear k44 k45 k46 k47 k48;refine wpAnyIn_relist (l' := #[true, true, true, true, false, false, false]) (by kernel_rfl) ?_;exact ?c1_0123
       exact AllReadyIn.nil
      exact AllReadyIn.nil
     refine AllReadyIn.cons rfl (fun K hK => ?_) ?_
     ·
      refine Eq.mpr (if_pos (by rfl)) ?_;refine ld_stepIn (x := .tmp 16) (col_ldB (hE.here.1.2)) rfl rfl ?_;refine hK _ _ ?_;clear hK K;try simp only [PL]
      refine wpAnyIn_relist (l' := #[true, false, false, true, false, false, false]) (by kernel_rfl) ?_;refine ?c1_03;refine wpAnyIn_ready (rs := [1, 2]) (by kernel_rfl) (by simp) ?rr49;refine AllReadyIn.cons rfl (fun K hK => ?_) ?_
      ·
       obtain ⟨k50, k51, k52, k53⟩ := (hE.h4).c4;have k54 := (hE.h7).c1;go_simp;refine hK _ _ ?_;clear hK K;try simp only [PL]
       clear k50 k51 k52 k53 k54;refine wpAnyIn_relist (l' := #[true, true, false, true, false, false, false]) (by kernel_rfl) ?_;exact ?c1_013
      refine AllReadyIn.cons rfl (fun K hK => ?_) ?_
      ·
       obtain ⟨k55, k56, k57, k58⟩ := (hE.h4).c4;have k59 := (hE.h7).c1;go_simp;refine hK _ _ ?_;clear hK K;try simp only [PL]
       clear k55 k56 k57 k58 k59;refine wpAnyIn_relist (l' := #[true, false, true, true, false, false, false]) (by kernel_rfl) ?_;exact ?c1_023
      exact AllReadyIn.nil
     exact AllReadyIn.nil
    refine AllReadyIn.cons rfl (fun K hK => ?_) ?_
    ·
     obtain ⟨k60, k61, k62, k63⟩ := (hE.h4).c4;have k64 := (hE.h7).c1;go_simp;refine hK _ _ ?_;clear hK K;try simp only [PL]
     clear k60 k61 k62 k63 k64;refine wpAnyIn_relist (l' := #[false, true, false, false, false, false, false]) (by kernel_rfl) ?_;refine ?c1_1;refine wpAnyIn_ready (rs := [0, 2, 3]) (by kernel_rfl) (by simp) ?rr65;refine AllReadyIn.cons rfl (fun K hK => ?_) ?_
     ·
      obtain ⟨k66, k67, k68, k69⟩ := (hE.h4).c4;have k70 := (hE.h7).c1;go_simp;refine hK _ _ ?_;clear hK K;try simp only [PL]
      clear k66 k67 k68 k69 k70;refine wpAnyIn_relist (l' := #[true, true, false, false, false, false, false]) (by kernel_rfl) ?_;exact ?c1_01
     refine AllReadyIn.cons rfl (fun K hK => ?_) ?_
     ·
      obtain ⟨k71, k72, k73, k74⟩ := (hE.h4).c4;have k75 := (hE.h7).c1;go_simp;refine hK _ _ ?_;clear hK K;try simp only [PL]
      clear k71 k72 k73 k74 k75;refine wpAnyIn_relist (l' := #[false, true, true, false, false, false, false]) (by kernel_rfl) ?_;refine ?c1_12;refine wpAnyIn_ready (rs := [0, 3]) (by kernel_rfl) (by simp) ?rr76;refine AllReadyIn.cons rfl (fun K hK => ?_) ?_
      ·
       obtain ⟨k77, k78, k79, k80⟩ := (hE.h4).c4;have k81 := (hE.h7).c1;go_simp;refine hK _ _ ?_;clear hK K;try simp only [PL]
       clear k77 k78 k79 k80 k81;refine wpAnyIn_relist (l' := #[true, true, true, false, false, false, false]) (by kernel_rfl) ?_;exact ?c1_012
      refine AllReadyIn.cons rfl (fun K hK => ?_) ?_
      ·
       refine Eq.mpr (if_pos (by rfl)) ?_;refine ld_stepIn (x := .tmp 16) (col_ldB (hE.here.1.2)) rfl rfl ?_;refine hK _ _ ?_;clear hK K;try simp only [PL]
       refine wpAnyIn_relist (l' := #[false, true, true, true, false, false, false]) (by kernel_rfl) ?_;refine ?c1_123;refine wpAnyIn_ready (rs := [0, 4]) (by kernel_rfl) (by simp) ?rr82;refine AllReadyIn.cons rfl (fun K hK => ?_) ?_
       ·
        obtain ⟨k83, k84, k85, k86⟩ := (hE.h4).c4;have k87 := (hE.h7).c1;go_simp;refine hK _ _ ?_;clear hK K;try simp only [PL]
        clear k83 k84 k85 k86 k87;refine wpAnyIn_relist (l' := #[true, true, true, true, false, false, false]) (by kernel_rfl) ?_;exact ?c1_0123
       refine AllReadyIn.cons rfl (fun K hK => ?_) ?_
       ·
        go_simp;skip
        first | refine ⟨trivial, fun _ => by omega, (CallsIn.inRound l (callsIn_wide.2 (cofA_v (pre.length : Int) (x := xx) (q := dd v f pre.length) (hE.h3)))).mono ?_⟩ | refine ⟨trivial, (CallsIn.inRound l (callsIn_wide.2 (cofA_v (pre.length : Int) (x := xx) (q := dd v f pre.length) (hE.h3)))).mono ?_⟩ | refine ⟨trivial, trivial, (CallsIn.inRound l (callsIn_wide.2 (cofA_v (pre.length : Int) (x := xx) (q := dd v f pre.length) (hE.h3)))).mono ?_⟩ | refine ⟨trivial, trivial, fun _ => by omega, (CallsIn.inRound l (callsIn_wide.2 (cofA_v (pre.length : Int) (x := xx) (q := dd v f pre.length) (hE.h3)))).mono ?_⟩
        rintro e w88 ⟨so, Ao, no, co, ti, Bo, mo, dob, rfl, ho, hb⟩
        replace hE := hE.step hb;clear hb;replace hE := hE.fv ho;clear ho;refine hK _ _ ?_;clear hK K;try simp only [PL]
        refine wpAnyIn_ready (rs := [0]) (by kernel_rfl) (by simp) ?rr89;refine AllReadyIn.cons rfl (fun K hK => ?_) ?_
        ·
         obtain ⟨k90, k91, k92, k93⟩ := (hE.h5).c4;have k94 := (hE.h8).c1;go_simp;refine hK _ _ ?_;clear hK K;try simp only [PL]
         clear k90 k91 k92 k93 k94;refine wpAnyIn_ready (rs := [5]) (by kernel_rfl) (by simp) ?rr95;refine AllReadyIn.cons rfl (fun K hK => ?_) ?_
         ·
          go_simp;skip
          first | refine ⟨trivial, fun _ => by omega, (CallsIn.inRound l (callsIn_wide.2 (cplus_v (ca := cq) (da := dq) (cb := co) (db := dob) hE.h6 hE.here.2 (HhL1.out pre.length (by omega)) (HhL2.out pre.length hlen ha1) Hlsum.out))).mono ?_⟩ | refine ⟨trivial, (CallsIn.inRound l (callsIn_wide.2 (cplus_v (ca := cq) (da := dq) (cb := co) (db := dob) hE.h6 hE.here.2 (HhL1.out pre.length (by omega)) (HhL2.out pre.length hlen ha1) Hlsum.out))).mono ?_⟩ | refine ⟨trivial, trivial, (CallsIn.inRound l (callsIn_wide.2 (cplus_v (ca := cq) (da := dq) (cb := co) (db := dob) hE.h6 hE.here.2 (HhL1.out pre.length (by omega)) (HhL2.out pre.length hlen ha1) Hlsum.out))).mono ?_⟩ | refine ⟨trivial, trivial, fun _ => by omega, (CallsIn.inRound l (callsIn_wide.2 (cplus_v (ca := cq) (da := dq) (cb := co) (db := dob) hE.h6 hE.here.2 (HhL1.out pre.length (by omega)) (HhL2.out pre.length hlen ha1) Hlsum.out))).mono ?_⟩
          rintro e w96 ⟨sz, Az, nz, cz, tz, Bz, mz, dz, rfl, hz, hb⟩
          replace hE := hE.step hb;clear hb;replace hE := hE.fv hz;clear hz;refine hK _ _ ?_;clear hK K;try simp only [PL]
          refine wpAnyIn_ready (rs := [6]) (by kernel_rfl) (by simp) ?rr97;refine AllReadyIn.cons rfl (fun K hK => ?_) ?_
          ·
           have hgl98 : w.heap.size ≤ Pp := by omega
           obtain ⟨x98_0, x98_1, x98_2, x98_3⟩ := (hE.h6).c4;obtain ⟨f98_0, f98_1, f98_2, f98_3⟩ := hE.h6.f4;replace hE := (((((((((((((Env.again (bel4 hE.bel hgl98 (.bool sz) (.slice Az nz cz) (.bool tz) (.slice Bz mz dz))).blkI ((hE.h11).far4 (by omega) _ _ _ _)).blkI ((hE.h10).far4 (by omega) _ _ _ _)).blkI ((hE.h9).far4 (by omega) _ _ _ _)).blkI ((hE.h8).far4 (by omega) _ _ _ _)).fv ((hE.h7).sep4 hE.h6 rfl _ _ _ _ rfl rfl rfl)).blkI ((hE.h6).s4 _ _ _ _)).fv ((hE.h5).sep4 hE.h6 rfl _ _ _ _ rfl rfl rfl)).fv ((hE.h4).sep4 hE.h6 rfl _ _ _ _ rfl rfl rfl)).blkI ((hE.h3).far4 (by omega) _ _ _ _)).trail ((hE.h2).set4 ⟨by omega, by omega, by omega⟩ _ _ _ _)).fv ((hE.here.1.2).sep4 hE.h6 rfl _ _ _ _ rfl rfl rfl)).fv ((hE.here.2).sep4 hE.h6 rfl _ _ _ _ rfl rfl rfl));go_simp;clear x98_0 x98_1 x98_2 x98_3 f98_0 f98_1 f98_2 f98_3 hgl98;generalize ((((w96.setCell ⟨Pp, 0, none⟩ (.bool sz)).setCell ⟨Pp, 1, none⟩ (.slice Az nz cz)).setCell ⟨Pp, 2, none⟩ (.bool tz)).setCell ⟨Pp, 3, none⟩ (.slice Bz mz dz)) = W98 at hE ⊢;refine hK _ _ ?_;clear hK K;try simp only [PL]
           refine wpAnyIn_done (by kernel_rfl) ?_ _;refine ⟨(hE.h2).keeps, (hE.h2).kp, ⟨⟨?_, (hE.h2).hs⟩, ?_⟩⟩
           ·
            show PrI w (w.heap.size + 1 + 1) (w.heap.size + 1 + 1 + 1) (w.heap.size + 1 + 1 + 1 + 1) (w.heap.size + 1 + 1 + 1 + 1 + 1) Pp (a : Int) (b : Int) (.func (.func 86) #[] #[]) (ps (dd v f) (a : Int) (b : Int) (pre ++ [Cl.mk pre.length xx]).length) _;rw [Hlen2.out, HPS.out];exact ⟨_, _, _, _, _, _, _, _, (((((((Env.again hE.bel).blkI (hE.h11)).blkI (hE.h10)).blkI (hE.h9)).blkI (hE.h8)).fv (hE.here.2)).blkI (hE.h6))⟩
           ·
            show wc.heap.size ≤ _;exact Nat.le_trans hcW (hE.h2).keeps.size
          exact AllReadyIn.nil
         exact AllReadyIn.nil
        exact AllReadyIn.nil
       exact AllReadyIn.nil
      exact AllReadyIn.nil
     refine AllReadyIn.cons rfl (fun K hK => ?_) ?_
     ·
      refine Eq.mpr (if_pos (by rfl)) ?_;refine ld_stepIn (x := .tmp 16) (col_ldB (hE.here.1.2)) rfl rfl ?_;refine hK _ _ ?_;clear hK K;try simp only [PL]
      refine wpAnyIn_relist (l' := #[false, true, false, true, false, false, false]) (by kernel_rfl) ?_;refine ?c1_13;refine wpAnyIn_ready (rs := [0, 2]) (by kernel_rfl) (by simp) ?rr99;refine AllReadyIn.cons rfl (fun K hK => ?_) ?_
      ·
       obtain ⟨k100, k101, k102, k103⟩ := (hE.h4).c4;have k104 := (hE.h7).c1;go_simp;refine hK _ _ ?_;clear hK K;try simp only [PL]
       clear k100 k101 k102 k103 k104;refine wpAnyIn_relist (l' := #[true, true, false, true, false, false, false]) (by kernel_rfl) ?_;exact ?c1_013
      refine AllReadyIn.cons rfl (fun K hK => ?_) ?_
      ·
       obtain ⟨k105, k106, k107, k108⟩ := (hE.h4).c4;have k109 := (hE.h7).c1;go_simp;refine hK _ _ ?_;clear hK K;try simp only [PL]
       clear k105 k106 k107 k108 k109;refine wpAnyIn_relist (l' := #[false, true, true, true, false, false, false]) (by kernel_rfl) ?_;exact ?c1_123
      exact AllReadyIn.nil
     exact AllReadyIn.nil
    refine AllReadyIn.cons rfl (fun K hK => ?_) ?_
    ·
     obtain ⟨k110, k111, k112, k113⟩ := (hE.h4).c4;have k114 := (hE.h7).c1;go_simp;refine hK _ _ ?_;clear hK K;try simp only [PL]
     clear k110 k111 k112 k113 k114;refine wpAnyIn_relist (l' := #[false, false, true, false, false, false, false]) (by kernel_rfl) ?_;refine ?c1_2;refine wpAnyIn_ready (rs := [0, 1, 3]) (by kernel_rfl) (by simp) ?rr115;refine AllReadyIn.cons rfl (fun K hK => ?_) ?_
     ·
      obtain ⟨k116, k117, k118, k119⟩ := (hE.h4).c4;have k120 := (hE.h7).c1;go_simp;refine hK _ _ ?_;clear hK K;try simp only [PL]
      clear k116 k117 k118 k119 k120;refine wpAnyIn_relist (l' := #[true, false, true, false, false, false, false]) (by kernel_rfl) ?_;exact ?c1_02
     refine AllReadyIn.cons rfl (fun K hK => ?_) ?_
     ·
      obtain ⟨k121, k122, k123, k124⟩ := (hE.h4).c4;have k125 := (hE.h7).c1;go_simp;refine hK _ _ ?_;clear hK K;try simp only [PL]
      clear k121 k122 k123 k124 k125;refine wpAnyIn_relist (l' := #[false, true, true, false, false, false, false]) (by kernel_rfl) ?_;exact ?c1_12
     refine AllReadyIn.cons rfl (fun K hK => ?_) ?_
     ·
      refine Eq.mpr (if_pos (by rfl)) ?_;refine ld_stepIn (x := .tmp 16) (col_ldB (hE.here.1.2)) rfl rfl ?_;refine hK _ _ ?_;clear hK K;try simp only [PL]
      refine wpAnyIn_relist (l' := #[false, false, true, true, false, false, false]) (by kernel_rfl) ?_;refine ?c1_23;refine wpAnyIn_ready (rs := [0, 1]) (by kernel_rfl) (by simp) ?rr126;refine AllReadyIn.cons rfl (fun K hK => ?_) ?_
      ·
       obtain ⟨k127, k128, k129, k130⟩ := (hE.h4).c4;have k131 := (hE.h7).c1;go_simp;refine hK _ _ ?_;clear hK K;try simp only [PL]
       clear k127 k128 k129 k130 k131;refine wpAnyIn_relist (l' := #[true, false, true, true, false, false, false]) (by kernel_rfl) ?_;exact ?c1_023
      refine AllReadyIn.cons rfl (fun K hK => ?_) ?_
      ·
       obtain ⟨k132, k133, k134, k135⟩ := (hE.h4).c4;have k136 := (hE.h7).c1;go_simp;refine hK _ _ ?_;clear hK K;try simp only [PL]
       clear k132 k133 k134 k135 k136;refine wpAnyIn_relist (l' := #[false, true, true, true, false, false, false]) (by kernel_rfl) ?_;exact ?c1_123
      exact AllReadyIn.nil
     exact AllReadyIn.nil
    refine AllReadyIn.cons rfl (fun K hK => ?_) ?_
    ·
     refine Eq.mpr (if_pos (by rfl)) ?_;refine ld_stepIn (x := .tmp 16) (col_ldB (hE.here.1.2)) rfl rfl ?_;refine hK _ _ ?_;clear hK K;try simp only [PL]
     refine wpAnyIn_relist (l' := #[false, false, false, true, false, false, false]) (by kernel_rfl) ?_;refine ?c1_3;refine wpAnyIn_ready (rs := [0, 1, 2]) (by kernel_rfl) (by simp) ?rr137;refine AllReadyIn.cons rfl (fun K hK => ?_) ?_
     ·
      obtain ⟨k138, k139, k140, k141⟩ := (hE.h4).c4;have k142 := (hE.h7).c1;go_simp;refine hK _ _ ?_;clear hK K;try simp only [PL]
      clear k138 k139 k140 k141 k142;refine wpAnyIn_relist (l' := #[true, false, false, true, false, false, false]) (by kernel_rfl) ?_;exact ?c1_03
     refine AllReadyIn.cons rfl (fun K hK => ?_) ?_
     ·
      obtain ⟨k143, k144, k145, k146⟩ := (hE.h4).c4;have k147 := (hE.h7).c1;go_simp;refine hK _ _ ?_;clear hK K;try simp only [PL]
      clear k143 k144 k145 k146 k147;refine wpAnyIn_relist (l' := #[false, true, false, true, false, false, false]) (by kernel_rfl) ?_;exact ?c1_13
     refine AllReadyIn.cons rfl (fun K hK => ?_) ?_
     ·
      obtain ⟨k148, k149, k150, k151⟩ := (hE.h4).c4;have k152 := (hE.h7).c1;go_simp;refine hK _ _ ?_;clear hK K;try simp only [PL]
      clear k148 k149 k150 k151 k152;refine wpAnyIn_relist (l' := #[false, false, true, true, false, false, false]) (by kernel_rfl) ?_;exact ?c1_23
     exact AllReadyIn.nil
    exact AllReadyIn.nil
   ·
    have t2 : decide ((pre.length : Int) < (b : Int)) = false := decide_eq_false (by omega);have HPS : Hid (ps (dd v f) (a : Int) (b : Int) (pre.length + 1) = ps (dd v f) (a : Int) (b : Int) pre.length) := Lib.hid (by simp only [ps]; rw [if_neg (by omega)]);have k0 := (hE.h9).c1;have k1 := (hE.h8).c1
    gi_wp2
    refine ⟨(hE.here.2).keeps, (hE.here.2).kp, ⟨⟨?_, (hE.here.2).hs⟩, ?_⟩⟩
    ·
     show PrI w (w.heap.size + 1 + 1) (w.heap.size + 1 + 1 + 1) (w.heap.size + 1 + 1 + 1 + 1) (w.heap.size + 1 + 1 + 1 + 1 + 1) Pp (a : Int) (b : Int) (.func (.func 86) #[] #[]) (ps (dd v f) (a : Int) (b : Int) (pre ++ [Cl.mk pre.length xx]).length) _;rw [Hlen2.out, HPS.out];exact ⟨_, _, _, _, _, _, _, _, (((((((Env.again hE.bel).blkI (hE.h9)).blkI (hE.h8)).blkI (hE.h7)).blkI (hE.h6)).fv (hE.h5)).blkI (hE.h4))⟩
    ·
     show wc.heap.size ≤ _;exact Nat.le_trans hcW (hE.here.2).keeps.size
  ·
   have t1 : decide ((a : Int) ≤ (pre.length : Int)) = false := decide_eq_false (by omega);have HPS : Hid (ps (dd v f) (a : Int) (b : Int) (pre.length + 1) = ps (dd v f) (a : Int) (b : Int) pre.length) := Lib.hid (by simp only [ps]; rw [if_neg (by omega)]);have k0 := (hE.h9).c1;have k1 := (hE.h8).c1
   gi_wp2
   refine ⟨(hE.here.2).keeps, (hE.here.2).kp, ⟨⟨?_, (hE.here.2).hs⟩, ?_⟩⟩
   ·
    show PrI w (w.heap.size + 1 + 1) (w.heap.size + 1 + 1 + 1) (w.heap.size + 1 + 1 + 1 + 1) (w.heap.size + 1 + 1 + 1 + 1 + 1) Pp (a : Int) (b : Int) (.func (.func 86) #[] #[]) (ps (dd v f) (a : Int) (b : Int) (pre ++ [Cl.mk pre.length xx]).length) _;rw [Hlen2.out, HPS.out];exact ⟨_, _, _, _, _, _, _, _, (((((((Env.again hE.bel).blkI (hE.h9)).blkI (hE.h8)).blkI (hE.h7)).blkI (hE.h6)).fv (hE.h5)).blkI (hE.h4))⟩
   ·
    show wc.heap.size ≤ _;exact Nat.le_trans hcW (hE.here.2).keeps.size
 case done =>
  rintro D ys W hD hS ⟨⟨hI, hBs⟩, hcW⟩ hK
  rw [hS.length] at hI;obtain ⟨sq, Aq, nq, cq, tq, Bq, mq, dq, hE⟩ := hI;have hE := hE.def_ hK;clear hK;obtain ⟨k1, k2, k3, k4⟩ := (hE.here.1.2).c4
  have hgl153 : w.heap.size ≤ w.heap.size + 1 + 1 + 1 + 1 + 1 := by omega
  obtain ⟨x153_0, x153_1, x153_2, x153_3⟩ := (hE.h3).c4;obtain ⟨f153_0, f153_1, f153_2, f153_3⟩ := hE.h3.f4;replace hE := ((((((((Env.again (bel4 hE.bel hgl153 (.bool sq) (.slice Aq nq cq) (.bool tq) (.slice Bq mq dq))).blkI ((hE.h6).far4 (R := w.heap.size + 1 + 1 + 1 + 1 + 1) (by omega) _ _ _ _)).blkI ((hE.h5).far4 (R := w.heap.size + 1 + 1 + 1 + 1 + 1) (by omega) _ _ _ _)).blkI ((hE.h4).far4 (R := w.heap.size + 1 + 1 + 1 + 1 + 1) (by omega) _ _ _ _)).blkI ((hE.h3).s4 _ _ _ _)).fv ((hE.h2).sep4 hE.h3 rfl _ _ _ _ rfl rfl rfl)).blkI ((hE.here.1.2).far4 (R := w.heap.size + 1 + 1 + 1 + 1 + 1) (by omega) _ _ _ _)).def_ ((heap_set4 (by omega) _ _ _ _).trans (hE.here.2)))
  gi_wp2
  clear x153_0 x153_1 x153_2 x153_3 f153_0 f153_1 f153_2 f153_3 hgl153;generalize ((((W.setCell ⟨w.heap.size + 1 + 1 + 1 + 1 + 1, 0, none⟩ (.bool sq)).setCell ⟨w.heap.size + 1 + 1 + 1 + 1 + 1, 1, none⟩ (.slice Aq nq cq)).setCell ⟨w.heap.size + 1 + 1 + 1 + 1 + 1, 2, none⟩ (.bool tq)).setCell ⟨w.heap.size + 1 + 1 + 1 + 1 + 1, 3, none⟩ (.slice Bq mq dq)) = W153 at hE ⊢;clear k1 k2 k3 k4;obtain ⟨hB2, hV2, hb2⟩ := leave_frac (hE.h3) (hE.h2) hE.bel (show w.heap.size ≤ D by omega) (show D ≠ w.heap.size + 1 + 1 + 1 + 1 + 1 by omega) (hE.here.2) (.deferred none);refine ⟨by simp, .inl ⟨_, _, rfl, run_takeDeferred (hE.here.2), ?_⟩⟩;obtain ⟨y0, y1, y2, y3⟩ := hB2.c4;exact ⟨.tuple #[.agg (qf4 sq Aq nq cq tq Bq mq dq), .int .i64 0], by simp [results, Tryz.results85, go_sem, y0, y1, y2, y3], sq, Aq, nq, cq, tq, Bq, mq, dq, rfl, hV2, hb2⟩
 case stop => exact fun D c pre W hD _ h hK => h.elim
theorem cpresC_v {F S E Y : Int} {A : Option Addr} {n c : Nat} {r : Nat → RH} {si ti : Bool} {Ai Bi : Option Addr} {ni ci mi di : Nat} {fi gi : Nat → Nat} {w : World} (hT : TabM w A n r) (hB : TabB n r) (hr : FRd w Ai ni fi Bi mi gi) (hn : ni ≤ 1000000) (hm : mi ≤ 1000000) (hbk : BOK F S n r si ni fi ti mi gi) (hR : RightP F S n r E Y) (N : Nat) (hN : Cnt (1 / (1 + qOf si ni fi mi gi)) (fr F S n r E Y) N) (h80 : N ≤ 80) (a b : Nat) (ha : a ≤ 9223372036854775807) (hb : b ≤ 9223372036854775807) :
  Calls Tryz.prog 85 #[.agg (qb7 F S A n c si Ai ni ci ti Bi mi di), .agg #[.int .i64 E, .int .i64 Y], .int .i64 (a : Int), .int .i64 (b : Int), .func (.func 87) #[] #[]] w (FOK (ps (cc (1 / (1 + qOf si ni fi mi gi)) (fr F S n r E Y)) (a : Int) (b : Int) N) w) := by
 obtain ⟨hqv, hi⟩ := intB_rti hr hbk.2;have hN0 : 0 < N := hN.pos;have hdis := hi.dis;have hrts := rt_rates hT hR N
 have hcols := fun (W : World) (hW : Below w.heap.size w W) => ccols1_v (c := c) (ci := ci) (di := di) (hT.below hW) hB (hr.below hW) hn hm hbk hR N hN h80
 obtain ⟨v, hv⟩ : ∃ v, v = 1 / (1 + qOf si ni fi mi gi) := ⟨_, rfl⟩
 obtain ⟨f, hf⟩ : ∃ f, f = fr F S n r E Y := ⟨_, rfl⟩
 rw [← hv] at hdis hN hcols ⊢;rw [← hf] at hN hcols ⊢
 have hrf : Rts f N := by rw [hf]; exact hrts
 clear hrts;have t1 : decide ((a : Int) < 0) = false := decide_eq_false (by omega);have t2 : decide ((b : Int) < 0) = false := decide_eq_false (by omega);have HhT := Lib.hid hT;clear hT;have HhB := Lib.hid hB;clear hB;have Hhr := Lib.hid hr;clear hr;have Hhbk := Lib.hid hbk;clear hbk;have HhR := Lib.hid hR;clear hR;have HhN := Lib.hid hN;clear hN;have Hhqv := Lib.hid hqv;clear hqv;have Hhi := Lib.hid hi;clear hi;have Hhdis := Lib.hid hdis;clear hdis;have Hhrf := Lib.hid hrf;clear hrf;have Hhv := Lib.hid hv;clear hv;have Hhf := Lib.hid hf;clear hf;have Hhcols := Lib.hid hcols;clear hcols;refine (callsIn_wide (n := 5)).1 ?_;have hro : Fence.wide.round = none := rfl;refine callsIn_of_wp_marks Tryz.func85 rfl trivial ?_ hro;simp only [Tryz.ntmps85, List.size_toArray, List.length_cons, List.length_nil, Nat.reduceAdd, Nat.reduceSub, Array.replicate_succ, Array.replicate_zero, List.push_toArray, List.append_toArray, List.nil_append, List.cons_append];have hE := (((((((Env.start w).blk 31 (qb7 F S A n c si Ai ni ci ti Bi mi di) (g := w.heap.size) rfl).blk 33 #[.int .i64 E, .int .i64 Y] (g := w.heap.size + 1) (by simp)).blk 3 #[.int .i64 (a : Int)] (g := w.heap.size + 1 + 1) (by simp)).blk 3 #[.int .i64 (b : Int)] (g := w.heap.size + 1 + 1 + 1) (by simp)).blk 116 #[.func (.func 87) #[] #[]] (g := w.heap.size + 1 + 1 + 1 + 1) (by simp)).blk 29 qz4 (g := w.heap.size + 1 + 1 + 1 + 1 + 1) (by simp))
 obtain ⟨W0, hW0⟩ : ∃ W0, W0 = ((((((w.alloc (.cells (qb7 F S A n c si Ai ni ci ti Bi mi di) 31)).alloc (.cells #[.int .i64 E, .int .i64 Y] 33)).alloc (.cells #[.int .i64 (a : Int)] 3)).alloc (.cells #[.int .i64 (b : Int)] 3)).alloc (.cells #[.func (.func 87) #[] #[]] 116)).alloc (.cells qz4 29)) := ⟨_, rfl⟩
 rw [← hW0] at hE;have HW0 := Lib.hid hW0;clear hW0
 gi_wp2
 clear t1 t2;rw [← HW0.out];refine ⟨trivial, (callsIn_wide.2 (Hhcols.out _ hE.bel)).mono ?_⟩
 rintro e wc ⟨cv, h, rfl, hcv, hcq, hb1⟩
 replace hE := hE.step hb1;have hlc : w.heap.size + 1 + 1 + 1 + 1 + 1 < wc.heap.size := (hE.here.2).lt
 rcases hcv with ⟨-, h0⟩ | ⟨g, cap, rfl, -, hCB⟩
 · omega
 clear hb1
 gi_wp2
 refine ⟨trivial, (callsIn_wide.2 (ffromInt_v 0 _ (by decide) (by decide))).mono ?_⟩
 rintro e w1 ⟨sp, Ap, np, cp, tp, Bp, mp, dp, rfl, hp, hb1⟩
 have hcw : Below wc.heap.size wc w1 := hb1;replace hE := (hE.step hb1).fv hp;clear hp
 gi_wp2
 refine ⟨trivial, (call_in 4 _ N cap _).mono ?_⟩
 rintro e w2 ⟨rfl, rfl⟩
 gi_wp2
 have hE := (hE.blk 29 (qf4 sp Ap np cp tp Bp mp dp) (g := w1.heap.size) rfl).blk 43 #[.slice (some ⟨g, 0, none⟩) N cap] (g := w1.heap.size + 1) (by simp);have hcP : wc.heap.size ≤ w1.heap.size := hcw.size;have hcw2 : Below wc.heap.size wc ((w1.alloc (.cells (qf4 sp Ap np cp tp Bp mp dp) 29)).alloc (.cells #[.slice (some ⟨g, 0, none⟩) N cap] 43)) := (hcw.alloc hcP _).alloc (by simp; omega) _;have hPl : w.heap.size + 1 + 1 + 1 + 1 + 1 < wc.heap.size := hlc;generalize hPp : w1.heap.size = Pp at hE hcP ⊢
 have hsz : ((w1.alloc (.cells (qf4 sp Ap np cp tp Bp mp dp) 29)).alloc (.cells #[.slice (some ⟨g, 0, none⟩) N cap] 43)).heap.size = Pp + 2 := by simp [hPp]
 generalize (w1.alloc (.cells (qf4 sp Ap np cp tp Bp mp dp) 29)).alloc (.cells #[.slice (some ⟨g, 0, none⟩) N cap] 43) = Wr at hE hsz hcw2 ⊢;clear hPp hcw hlc
 have hsw : w.heap.size ≤ Wr.heap.size := by omega
 have hcs : wc.heap.size ≤ Wr.heap.size := by omega
 have hL1 : ∀ k, k ≤ N → fl (ps (cc v f) (a : Int) (b : Int) k) ≤ 256 := fun k hk => (ps_len Hhdis.out Hhrf.out h80 (M := 1) (by decide) (a : Int) (b : Int) (fun j hj h => ccA Hhdis.out Hhrf.out hj (a : Int) h) k hk).l (by decide) (by decide) (by omega)
 have hL2 : ∀ k, k < N → (a : Int) ≤ (k : Int) → fl ((cc v f) k) ≤ 256 := fun k hk h => by
  obtain ⟨h1, h2, h3⟩ := (fun j hj h => ccA Hhdis.out Hhrf.out hj (a : Int) h : ∀ j, j < N → (a : Int) ≤ (j : Int) → 0 ≤ (cc v f) j ∧ (cc v f) j ≤ ((1 : Nat) : Rat) ∧ Dv ((cc v f) j) (dE v f N)) k hk h;exact (Ql.of h1 h2 (dE_pos v f N) h3 (dE_le Hhdis.out Hhrf.out N (Nat.le_refl _))).l (by decide) (by decide) (by omega)
 have HhL1 := Lib.hid hL1;clear hL1;have HhL2 := Lib.hid hL2;clear hL2
 refine rangeV hro (by decide) (gf := 160) (lb := #[.pointer (some ⟨Pp + 1, 0, none⟩)]) rfl trivial (enters_of Tryz.func160 (by kernel_rfl) rfl)
  (call_seq (5 - 1) (by decide) (Pp + 1) wc.heap.size (Nat.le_refl _) hCB hcq h80 Wr hcw2 hE.here.2) KpB.t (KpB.b hcs (by omega)) (Below.refl _ _) (fun _ => rfl)
  (fun pre W => (PrI w (w.heap.size + 1 + 1) (w.heap.size + 1 + 1 + 1) (w.heap.size + 1 + 1 + 1 + 1) (w.heap.size + 1 + 1 + 1 + 1 + 1) Pp (a : Int) (b : Int) (.func (.func 87) #[] #[]) (ps (cc v f) (a : Int) (b : Int) pre.length) W ∧ Pp + 1 < W.heap.size) ∧ wc.heap.size ≤ W.heap.size) (fun _ _ _ => False)
  (fun s W W' row h hg hr => ⟨⟨PrI.grown hsw _ _ _ _ _ _ _ _ _ W W' row h.1.1 hg hr, Nat.lt_of_lt_of_le h.1.2 hg.size⟩, Nat.le_trans h.2 hg.size⟩) (fun _ _ _ _ _ h _ _ => h)
  ⟨⟨⟨_, _, _, _, _, _, _, _, (((((((Env.again hE.bel).blkI (hE.h6)).blkI (hE.h5)).blkI (hE.h4)).blkI (hE.h3)).fv (hE.h2)).blkI (hE.here.1.2))⟩, by omega⟩, hcs⟩
  (CAx (colq v f N) Pp (fun gc yv rv => { tmps := #[.agg (qb7 F S A n c si Ai ni ci ti Bi mi di), .agg #[.int .i64 E, .int .i64 Y], .int .i64 (a : Int), .int .i64 (b : Int), .func (.func 87) #[] #[], .pointer (some ⟨w.heap.size, 0, none⟩), .pointer (some ⟨w.heap.size + 1, 0, none⟩), .pointer (some ⟨w.heap.size + 1 + 1, 0, none⟩), .pointer (some ⟨w.heap.size + 1 + 1 + 1, 0, none⟩), .pointer (some ⟨w.heap.size + 1 + 1 + 1 + 1, 0, none⟩), .pointer (some ⟨w.heap.size + 1 + 1 + 1 + 1 + 1, 0, none⟩), .int .i64 0, .slice (some ⟨g, 0, none⟩) N cap, .int .i64 0, .pointer (some ⟨Pp, 0, none⟩), yv, .pointer (some ⟨gc, 0, none⟩), .int .i64 (a : Int), .bool false, .bool false, .int .i64 (b : Int), .bool false, .bool false, undef, .tuple #[.slice (some ⟨g, 0, none⟩) N cap, .int .i64 0], .agg (qb7 F S A n c si Ai ni ci ti Bi mi di), .agg #[.int .i64 E, .int .i64 Y], .tuple #[.slice (some ⟨g, 0, none⟩) N cap, .int .i64 0], .slice (some ⟨g, 0, none⟩) N cap, .int .i64 0, .int .i64 0, .bool false, undef, undef, .agg (qf4 sp Ap np cp tp Bp mp dp), .slice (some ⟨g, 0, none⟩) N cap, .func (.func 160) #[] #[.pointer (some ⟨Pp + 1, 0, none⟩)], yv, rv, undef, undef, undef, undef, undef, undef, undef, undef, undef, undef, undef, undef, undef, undef, undef], defers := [] })) (fun pre x a' => fun _ W W' row h hg hr => CAx.grown W W' row h hg hr) ?assign ?body ?done ?stop
 case assign =>
  rintro l pre ⟨xk, xx⟩ W K ⟨⟨hI, hBs⟩, hcW⟩ ⟨hxk, hxf⟩ hK
  dsimp only at hxk hxf
  subst hxk;obtain ⟨V, hst, hld2, hba, -, hbk⟩ := col_store W xx;have hTr := (Trail.refl (B := Wr.heap.size) (n₀ := wc.heap.size) (Bs := Pp + 1) W hBs hcW).step hba
  have hfin := fun a hax => hK a V hTr.keeps hTr.kp ⟨⟨PrI.step hI hba, Nat.lt_of_lt_of_le hBs hba.size⟩, Nat.le_trans hcW hba.size⟩ ⟨rfl, W.heap.size, hax, by omega, hbk.lt, ⟨(hxf 0 (by decide) (.inl rfl)).below hba, (hxf 3 (by decide) (.inr rfl)).below hba⟩, hbk⟩
  have HF := Lib.hid hfin;clear hfin hK hI hxf hbk hTr hba hld2
  dsimp only [Cl.vals]
  gi_wp2_with (refine wpListIn_st hst rfl rfl rfl rfl ?_)
  exact HF.out _ rfl
 case body =>
  rintro l pre ⟨xk, xx⟩ a' W ⟨⟨⟨sq, Aq, nq, cq, tq, Bq, mq, dq, hE⟩, hBs⟩, hcW⟩ ⟨hxk, gx, rfl, hg1, hg2, ⟨hx0, hx3⟩, hxb⟩ hlen
  dsimp only at hxk hx0 hx3 hxb hg1 hg2
  subst hxk;have hE := (((hE.fv hx0).fv hx3).blkI hxb).trail (Trail.refl (B := Wr.heap.size) (n₀ := wc.heap.size) (Bs := Pp + 1) W hBs hcW);clear hx0 hx3 hxb
  have hmx : Tryz.prog.follows .mixedOrders = true := by kernel_rfl
  have hlen2 : (pre ++ [Cl.mk pre.length xx]).length = pre.length + 1 := by simp
  have Hlen2 := Lib.hid hlen2;clear hlen2
  by_cases h1 : a ≤ pre.length
  ·
   have t1 : decide ((a : Int) ≤ (pre.length : Int)) = true := decide_eq_true (by omega)
   by_cases h2 : pre.length < b
   ·
    have t2 : decide ((pre.length : Int) < (b : Int)) = true := decide_eq_true (by omega);have HPS : Hid (ps (cc v f) (a : Int) (b : Int) (pre.length + 1) = ps (cc v f) (a : Int) (b : Int) pre.length + (cc v f) pre.length) := Lib.hid (by simp only [ps]; rw [if_pos ⟨by omega, by omega⟩])
    have ha1 : (a : Int) ≤ (pre.length : Int) := by omega
    have lsum := HhL1.out (pre.length + 1) hlen;rw [HPS.out] at lsum;have Hlsum := Lib.hid lsum;clear lsum;have k0 := (hE.h9).c1;have k1 := (hE.h8).c1
    gi_wp2
    clear k0 k1 t1 t2;refine wpIn_region_any (by assumption) ?_;replace hE := hE.drew;change wpAnyIn _ _ _ _ _ _ _ _ _ (W.drew);generalize W.drew = wd at hE ⊢;refine wpAnyIn_ready (rs := [0, 1, 2, 3]) (by kernel_rfl) (by simp) ?rr1;refine AllReadyIn.cons rfl (fun K hK => ?_) ?_
    ·
     obtain ⟨k2, k3, k4, k5⟩ := (hE.h4).c4;have k6 := (hE.h7).c1;go_simp;refine hK _ _ ?_;clear hK K;try simp only [PL]
     clear k2 k3 k4 k5 k6;refine wpAnyIn_relist (l' := #[true, false, false, false, false, false, false]) (by kernel_rfl) ?_;refine ?c2_0;refine wpAnyIn_ready (rs := [1, 2, 3]) (by kernel_rfl) (by simp) ?rr7;refine AllReadyIn.cons rfl (fun K hK => ?_) ?_
     ·
      obtain ⟨k8, k9, k10, k11⟩ := (hE.h4).c4;have k12 := (hE.h7).c1;go_simp;refine hK _ _ ?_;clear hK K;try simp only [PL]
      clear k8 k9 k10 k11 k12;refine wpAnyIn_relist (l' := #[true, true, false, false, false, false, false]) (by kernel_rfl) ?_;refine ?c2_01;refine wpAnyIn_ready (rs := [2, 3]) (by kernel_rfl) (by simp) ?rr13;refine AllReadyIn.cons rfl (fun K hK => ?_) ?_
      ·
       obtain ⟨k14, k15, k16, k17⟩ := (hE.h4).c4;have k18 := (hE.h7).c1;go_simp;refine hK _ _ ?_;clear hK K;try simp only [PL]
       clear k14 k15 k16 k17 k18;refine wpAnyIn_relist (l' := #[true, true, true, false, false, false, false]) (by kernel_rfl) ?_;refine ?c2_012;refine wpAnyIn_ready (rs := [3]) (by kernel_rfl) (by simp) ?rr19;refine AllReadyIn.cons rfl (fun K hK => ?_) ?_
       ·
        refine Eq.mpr (if_pos (by rfl)) ?_;refine ld_stepIn (x := .tmp 16) (col_ldB (hE.here.1.2)) rfl rfl ?_;refine hK _ _ ?_;clear hK K;try simp only [PL]
        refine wpAnyIn_relist (l' := #[true, true, true, true, false, false, false]) (by kernel_rfl) ?_;refine ?c2_0123;refine wpAnyIn_ready (rs := [4]) (by kernel_rfl) (by simp) ?rr20;refine AllReadyIn.cons rfl (fun K hK => ?_) ?_
        ·
         go_simp;skip
         first | refine ⟨trivial, fun _ => by omega, (CallsIn.inRound l (callsIn_wide.2 (cofC_v (pre.length : Int) (x := xx) (q := cc v f pre.length) (hE.h2)))).mono ?_⟩ | refine ⟨trivial, (CallsIn.inRound l (callsIn_wide.2 (cofC_v (pre.length : Int) (x := xx) (q := cc v f pre.length) (hE.h2)))).mono ?_⟩ | refine ⟨trivial, trivial, (CallsIn.inRound l (callsIn_wide.2 (cofC_v (pre.length : Int) (x := xx) (q := cc v f pre.length) (hE.h2)))).mono ?_⟩ | refine ⟨trivial, trivial, fun _ => by omega, (CallsIn.inRound l (callsIn_wide.2 (cofC_v (pre.length : Int) (x := xx) (q := cc v f pre.length) (hE.h2)))).mono ?_⟩
         rintro e w21 ⟨so, Ao, no, co, ti, Bo, mo, dob, rfl, ho, hb⟩
         replace hE := hE.step hb;clear hb;replace hE := hE.fv ho;clear ho;refine hK _ _ ?_;clear hK K;try simp only [PL]
         refine wpAnyIn_ready (rs := [5]) (by kernel_rfl) (by simp) ?rr22;refine AllReadyIn.cons rfl (fun K hK => ?_) ?_
         ·
          go_simp;skip
          first | refine ⟨trivial, fun _ => by omega, (CallsIn.inRound l (callsIn_wide.2 (cplus_v (ca := cq) (da := dq) (cb := co) (db := dob) hE.h6 hE.here.2 (HhL1.out pre.length (by omega)) (HhL2.out pre.length hlen ha1) Hlsum.out))).mono ?_⟩ | refine ⟨trivial, (CallsIn.inRound l (callsIn_wide.2 (cplus_v (ca := cq) (da := dq) (cb := co) (db := dob) hE.h6 hE.here.2 (HhL1.out pre.length (by omega)) (HhL2.out pre.length hlen ha1) Hlsum.out))).mono ?_⟩ | refine ⟨trivial, trivial, (CallsIn.inRound l (callsIn_wide.2 (cplus_v (ca := cq) (da := dq) (cb := co) (db := dob) hE.h6 hE.here.2 (HhL1.out pre.length (by omega)) (HhL2.out pre.length hlen ha1) Hlsum.out))).mono ?_⟩ | refine ⟨trivial, trivial, fun _ => by omega, (CallsIn.inRound l (callsIn_wide.2 (cplus_v (ca := cq) (da := dq) (cb := co) (db := dob) hE.h6 hE.here.2 (HhL1.out pre.length (by omega)) (HhL2.out pre.length hlen ha1) Hlsum.out))).mono ?_⟩
          rintro e w23 ⟨sz, Az, nz, cz, tz, Bz, mz, dz, rfl, hz, hb⟩
          replace hE := hE.step hb;clear hb;replace hE := hE.fv hz;clear hz;refine hK _ _ ?_;clear hK K;try simp only [PL]
          refine wpAnyIn_ready (rs := [6]) (by kernel_rfl) (by simp) ?rr24;refine AllReadyIn.cons rfl (fun K hK => ?_) ?_
          ·
           have hgl25 : w.heap.size ≤ Pp := by omega
           obtain ⟨x25_0, x25_1, x25_2, x25_3⟩ := (hE.h6).c4;obtain ⟨f25_0, f25_1, f25_2, f25_3⟩ := hE.h6.f4;replace hE := (((((((((((((Env.again (bel4 hE.bel hgl25 (.bool sz) (.slice Az nz cz) (.bool tz) (.slice Bz mz dz))).blkI ((hE.h11).far4 (by omega) _ _ _ _)).blkI ((hE.h10).far4 (by omega) _ _ _ _)).blkI ((hE.h9).far4 (by omega) _ _ _ _)).blkI ((hE.h8).far4 (by omega) _ _ _ _)).fv ((hE.h7).sep4 hE.h6 rfl _ _ _ _ rfl rfl rfl)).blkI ((hE.h6).s4 _ _ _ _)).fv ((hE.h5).sep4 hE.h6 rfl _ _ _ _ rfl rfl rfl)).fv ((hE.h4).sep4 hE.h6 rfl _ _ _ _ rfl rfl rfl)).blkI ((hE.h3).far4 (by omega) _ _ _ _)).trail ((hE.h2).set4 ⟨by omega, by omega, by omega⟩ _ _ _ _)).fv ((hE.here.1.2).sep4 hE.h6 rfl _ _ _ _ rfl rfl rfl)).fv ((hE.here.2).sep4 hE.h6 rfl _ _ _ _ rfl rfl rfl));go_simp;clear x25_0 x25_1 x25_2 x25_3 f25_0 f25_1 f25_2 f25_3 hgl25;generalize ((((w23.setCell ⟨Pp, 0, none⟩ (.bool sz)).setCell ⟨Pp, 1, none⟩ (.slice Az nz cz)).setCell ⟨Pp, 2, none⟩ (.bool tz)).setCell ⟨Pp, 3, none⟩ (.slice Bz mz dz)) = W25 at hE ⊢;refine hK _ _ ?_;clear hK K;try simp only [PL]
           refine wpAnyIn_done (by kernel_rfl) ?_ _;refine ⟨(hE.h2).keeps, (hE.h2).kp, ⟨⟨?_, (hE.h2).hs⟩, ?_⟩⟩
           ·
            show PrI w (w.heap.size + 1 + 1) (w.heap.size + 1 + 1 + 1) (w.heap.size + 1 + 1 + 1 + 1) (w.heap.size + 1 + 1 + 1 + 1 + 1) Pp (a : Int) (b : Int) (.func (.func 87) #[] #[]) (ps (cc v f) (a : Int) (b : Int) (pre ++ [Cl.mk pre.length xx]).length) _;rw [Hlen2.out, HPS.out];exact ⟨_, _, _, _, _, _, _, _, (((((((Env.again hE.bel).blkI (hE.h11)).blkI (hE.h10)).blkI (hE.h9)).blkI (hE.h8)).fv (hE.here.2)).blkI (hE.h6))⟩
           ·
            show wc.heap.size ≤ _;exact Nat.le_trans hcW (hE.h2).keeps.size
          exact AllReadyIn.nil
         exact AllReadyIn.nil
        exact AllReadyIn.nil
       exact AllReadyIn.nil
      refine AllReadyIn.cons rfl (fun K hK => ?_) ?_
      ·
       refine Eq.mpr (if_pos (by rfl)) ?_;refine ld_stepIn (x := .tmp 16) (col_ldB (hE.here.1.2)) rfl rfl ?_;refine hK _ _ ?_;clear hK K;try simp only [PL]
       refine wpAnyIn_relist (l' := #[true, true, false, true, false, false, false]) (by kernel_rfl) ?_;refine ?c2_013;refine wpAnyIn_ready (rs := [2]) (by kernel_rfl) (by simp) ?rr26;refine AllReadyIn.cons rfl (fun K hK => ?_) ?_
       ·
        obtain ⟨k27, k28, k29, k30⟩ := (hE.h4).c4;have k31 := (hE.h7).c1;go_simp;refine hK _ _ ?_;clear hK K;try simp only [PL]
        clear k27 k28 k29 k30 k31;refine wpAnyIn_relist (l' := #[true, true, true, true, false, false, false]) (by kernel_rfl) ?_;exact ?c2_0123
       exact AllReadyIn.nil
      exact AllReadyIn.nil
     refine AllReadyIn.cons rfl (fun K hK => ?_) ?_
     ·
      obtain ⟨k32, k33, k34, k35⟩ := (hE.h4).c4;have k36 := (hE.h7).c1;go_simp;refine hK _ _ ?_;clear hK K;try simp only [PL]
      clear k32 k33 k34 k35 k36;refine wpAnyIn_relist (l' := #[true, false, true, false, false, false, false]) (by kernel_rfl) ?_;refine ?c2_02;refine wpAnyIn_ready (rs := [1, 3]) (by kernel_rfl) (by simp) ?rr37;refine AllReadyIn.cons rfl (fun K hK => ?_) ?_
      ·
       obtain ⟨k38, k39, k40, k41⟩ := (hE.h4).c4;have k42 := (hE.h7).c1;go_simp;refine hK _ _ ?_;clear hK K;try simp only [PL]
       clear k38 k39 k40 k41 k42;refine wpAnyIn_relist (l' := #[true, true, true, false, false, false, false]) (by kernel_rfl) ?_;exact ?c2_012
      refine AllReadyIn.cons rfl (fun K hK => ?_) ?_
      ·
       refine Eq.mpr (if_pos (by rfl)) ?_;refine ld_stepIn (x := .tmp 16) (col_ldB (hE.here.1.2)) rfl rfl ?_;refine hK _ _ ?_;clear hK K;try simp only [PL]
       refine wpAnyIn_relist (l' := #[true, false, true, true, false, false, false]) (by kernel_rfl) ?_;refine ?c2_023;refine wpAnyIn_ready (rs := [1]) (by kernel_rfl) (by simp) ?rr43;refine AllReadyIn.cons rfl (fun K hK => ?_) ?_
       ·
        obtain ⟨k44, k45, k46, k47⟩ := (hE.h4).c4;have k48 := (hE.h7).c1;go_simp;refine hK _ _ ?_;clear hK K;try simp only [PL]
        clear k44 k45 k46 k47 k48;refine wpAnyIn_relist (l' := #[true, true, true, true, false, false, false]) (by kernel_rfl) ?_;exact ?c2_0123
       exact AllReadyIn.nil
      exact AllReadyIn.nil
     refine AllReadyIn.cons rfl (fun K hK => ?_) ?_
     ·
      refine Eq.mpr (if_pos (by rfl)) ?_;refine ld_stepIn (x := .tmp 16) (col_ldB (hE.here.1.2)) rfl rfl ?_;refine hK _ _ ?_;clear hK K;try simp only [PL]
      refine wpAnyIn_relist (l' := #[true, false, false, true, false, false, false]) (by kernel_rfl) ?_;refine ?c2_03;refine wpAnyIn_ready (rs := [1, 2]) (by kernel_rfl) (by simp) ?rr49;refine AllReadyIn.cons rfl (fun K hK => ?_) ?_
      ·
       obtain ⟨k50, k51, k52, k53⟩ := (hE.h4).c4;have k54 := (hE.h7).c1;go_simp;refine hK _ _ ?_;clear hK K;try simp only [PL]
       clear k50 k51 k52 k53 k54;refine wpAnyIn_relist (l' := #[true, true, false, true, false, false, false]) (by kernel_rfl) ?_;exact ?c2_013
      refine AllReadyIn.cons rfl (fun K hK => ?_) ?_
      ·
       obtain ⟨k55, k56, k57, k58⟩ := (hE.h4).c4;have k59 := (hE.h7).c1;go_simp;refine hK _ _ ?_;clear hK K;try simp only [PL]
       clear k55 k56 k57 k58 k59;refine wpAnyIn_relist (l' := #[true, false, true, true, false, false, false]) (by kernel_rfl) ?_;exact ?c2_023
      exact AllReadyIn.nil
     exact AllReadyIn.nil
    refine AllReadyIn.cons rfl (fun K hK => ?_) ?_
    ·
     obtain ⟨k60, k61, k62, k63⟩ := (hE.h4).c4;have k64 := (hE.h7).c1;go_simp;refine hK _ _ ?_;clear hK K;try simp only [PL]
     clear k60 k61 k62 k63 k64;refine wpAnyIn_relist (l' := #[false, true, false, false, false, false, false]) (by kernel_rfl) ?_;refine ?c2_1;refine wpAnyIn_ready (rs := [0, 2, 3]) (by kernel_rfl) (by simp) ?rr65;refine AllReadyIn.cons rfl (fun K hK => ?_) ?_
     ·
      obtain ⟨k66, k67, k68, k69⟩ := (hE.h4).c4;have k70 := (hE.h7).c1;go_simp;refine hK _ _ ?_;clear hK K;try simp only [PL]
      clear k66 k67 k68 k69 k70;refine wpAnyIn_relist (l' := #[true, true, false, false, false, false, false]) (by kernel_rfl) ?_;exact ?c2_01
     refine AllReadyIn.cons rfl (fun K hK => ?_) ?_
     ·
      obtain ⟨k71, k72, k73, k74⟩ := (hE.h4).c4;have k75 := (hE.h7).c1;go_simp;refine hK _ _ ?_;clear hK K;try simp only [PL]
      clear k71 k72 k73 k74 k75;refine wpAnyIn_relist (l' := #[false, true, true, false, false, false, false]) (by kernel_rfl) ?_;refine ?c2_12;refine wpAnyIn_ready (rs := [0, 3]) (by kernel_rfl) (by simp) ?rr76;refine AllReadyIn.cons rfl (fun K hK => ?_) ?_
      ·
       obtain ⟨k77, k78, k79, k80⟩ := (hE.h4).c4;have k81 := (hE.h7).c1;go_simp;refine hK _ _ ?_;clear hK K;try simp only [PL]
       clear k77 k78 k79 k80 k81;refine wpAnyIn_relist (l' := #[true, true, true, false, false, false, false]) (by kernel_rfl) ?_;exact ?c2_012
      refine AllReadyIn.cons rfl (fun K hK => ?_) ?_
      ·
       refine Eq.mpr (if_pos (by rfl)) ?_;refine ld_stepIn (x := .tmp 16) (col_ldB (hE.here.1.2)) rfl rfl ?_;refine hK _ _ ?_;clear hK K;try simp only [PL]
       refine wpAnyIn_relist (l' := #[false, true, true, true, false, false, false]) (by kernel_rfl) ?_;refine ?c2_123;refine wpAnyIn_ready (rs := [0, 4]) (by kernel_rfl) (by simp) ?rr82;refine AllReadyIn.cons rfl (fun K hK => ?_) ?_
       ·
        obtain ⟨k83, k84, k85, k86⟩ := (hE.h4).c4;have k87 := (hE.h7).c1;go_simp;refine hK _ _ ?_;clear hK K;try simp only [PL]
        clear k83 k84 k85 k86 k87;refine wpAnyIn_relist (l' := #[true, true, true, true, false, false, false]) (by kernel_rfl) ?_;exact ?c2_0123
       refine AllReadyIn.cons rfl (fun K hK => ?_) ?_
       ·
        go_simp;skip
        first | refine ⟨trivial, fun _ => by omega, (CallsIn.inRound l (callsIn_wide.2 (cofC_v (pre.length : Int) (x := xx) (q := cc v f pre.length) (hE.h2)))).mono ?_⟩ | refine ⟨trivial, (CallsIn.inRound l (callsIn_wide.2 (cofC_v (pre.length : Int) (x := xx) (q := cc v f pre.length) (hE.h2)))).mono ?_⟩ | refine ⟨trivial, trivial, (CallsIn.inRound l (callsIn_wide.2 (cofC_v (pre.length : Int) (x := xx) (q := cc v f pre.length) (hE.h2)))).mono ?_⟩ | refine ⟨trivial, trivial, fun _ => by omega, (CallsIn.inRound l (callsIn_wide.2 (cofC_v (pre.length : Int) (x := xx) (q := cc v f pre.length) (hE.h2)))).mono ?_⟩
        rintro e w88 ⟨so, Ao, no, co, ti, Bo, mo, dob, rfl, ho, hb⟩
        replace hE := hE.step hb;clear hb;replace hE := hE.fv ho;clear ho;refine hK _ _ ?_;clear hK K;try simp only [PL]
        refine wpAnyIn_ready (rs := [0]) (by kernel_rfl) (by simp) ?rr89;refine AllReadyIn.cons rfl (fun K hK => ?_) ?_
        ·
         obtain ⟨k90, k91, k92, k93⟩ := (hE.h5).c4;have k94 := (hE.h8).c1;go_simp;refine hK _ _ ?_;clear hK K;try simp only [PL]
         clear k90 k91 k92 k93 k94;refine wpAnyIn_ready (rs := [5]) (by kernel_rfl) (by simp) ?rr95;refine AllReadyIn.cons rfl (fun K hK => ?_) ?_
         ·
          go_simp;skip
          first | refine ⟨trivial, fun _ => by omega, (CallsIn.inRound l (callsIn_wide.2 (cplus_v (ca := cq) (da := dq) (cb := co) (db := dob) hE.h6 hE.here.2 (HhL1.out pre.length (by omega)) (HhL2.out pre.length hlen ha1) Hlsum.out))).mono ?_⟩ | refine ⟨trivial, (CallsIn.inRound l (callsIn_wide.2 (cplus_v (ca := cq) (da := dq) (cb := co) (db := dob) hE.h6 hE.here.2 (HhL1.out pre.length (by omega)) (HhL2.out pre.length hlen ha1) Hlsum.out))).mono ?_⟩ | refine ⟨trivial, trivial, (CallsIn.inRound l (callsIn_wide.2 (cplus_v (ca := cq) (da := dq) (cb := co) (db := dob) hE.h6 hE.here.2 (HhL1.out pre.length (by omega)) (HhL2.out pre.length hlen ha1) Hlsum.out))).mono ?_⟩ | refine ⟨trivial, trivial, fun _ => by omega, (CallsIn.inRound l (callsIn_wide.2 (cplus_v (ca := cq) (da := dq) (cb := co) (db := dob) hE.h6 hE.here.2 (HhL1.out pre.length (by omega)) (HhL2.out pre.length hlen ha1) Hlsum.out))).mono ?_⟩
          rintro e w96 ⟨sz, Az, nz, cz, tz, Bz, mz, dz, rfl, hz, hb⟩
          replace hE := hE.step hb;clear hb;replace hE := hE.fv hz;clear hz;refine hK _ _ ?_;clear hK K;try simp only [PL]
          refine wpAnyIn_ready (rs := [6]) (by kernel_rfl) (by simp) ?rr97;refine AllReadyIn.cons rfl (fun K hK => ?_) ?_
          ·
           have hgl98 : w.heap.size ≤ Pp := by omega
           obtain ⟨x98_0, x98_1, x98_2, x98_3⟩ := (hE.h6).c4;obtain ⟨f98_0, f98_1, f98_2, f98_3⟩ := hE.h6.f4;replace hE := (((((((((((((Env.again (bel4 hE.bel hgl98 (.bool sz) (.slice Az nz cz) (.bool tz) (.slice Bz mz dz))).blkI ((hE.h11).far4 (by omega) _ _ _ _)).blkI ((hE.h10).far4 (by omega) _ _ _ _)).blkI ((hE.h9).far4 (by omega) _ _ _ _)).blkI ((hE.h8).far4 (by omega) _ _ _ _)).fv ((hE.h7).sep4 hE.h6 rfl _ _ _ _ rfl rfl rfl)).blkI ((hE.h6).s4 _ _ _ _)).fv ((hE.h5).sep4 hE.h6 rfl _ _ _ _ rfl rfl rfl)).fv ((hE.h4).sep4 hE.h6 rfl _ _ _ _ rfl rfl rfl)).blkI ((hE.h3).far4 (by omega) _ _ _ _)).trail ((hE.h2).set4 ⟨by omega, by omega, by omega⟩ _ _ _ _)).fv ((hE.here.1.2).sep4 hE.h6 rfl _ _ _ _ rfl rfl rfl)).fv ((hE.here.2).sep4 hE.h6 rfl _ _ _ _ rfl rfl rfl));go_simp;clear x98_0 x98_1 x98_2 x98_3 f98_0 f98_1 f98_2 f98_3 hgl98;generalize ((((w96.setCell ⟨Pp, 0, none⟩ (.bool sz)).setCell ⟨Pp, 1, none⟩ (.slice Az nz cz)).setCell ⟨Pp, 2, none⟩ (.bool tz)).setCell ⟨Pp, 3, none⟩ (.slice Bz mz dz)) = W98 at hE ⊢;refine hK _ _ ?_;clear hK K;try simp only [PL]
           refine wpAnyIn_done (by kernel_rfl) ?_ _;refine ⟨(hE.h2).keeps, (hE.h2).kp, ⟨⟨?_, (hE.h2).hs⟩, ?_⟩⟩
           ·
            show PrI w (w.heap.size + 1 + 1) (w.heap.size + 1 + 1 + 1) (w.heap.size + 1 + 1 + 1 + 1) (w.heap.size + 1 + 1 + 1 + 1 + 1) Pp (a : Int) (b : Int) (.func (.func 87) #[] #[]) (ps (cc v f) (a : Int) (b : Int) (pre ++ [Cl.mk pre.length xx]).length) _;rw [Hlen2.out, HPS.out];exact ⟨_, _, _, _, _, _, _, _, (((((((Env.again hE.bel).blkI (hE.h11)).blkI (hE.h10)).blkI (hE.h9)).blkI (hE.h8)).fv (hE.here.2)).blkI (hE.h6))⟩
           ·
            show wc.heap.size ≤ _;exact Nat.le_trans hcW (hE.h2).keeps.size
          exact AllReadyIn.nil
         exact AllReadyIn.nil
        exact AllReadyIn.nil
       exact AllReadyIn.nil
      exact AllReadyIn.nil
     refine AllReadyIn.cons rfl (fun K hK => ?_) ?_
     ·
      refine Eq.mpr (if_pos (by rfl)) ?_;refine ld_stepIn (x := .tmp 16) (col_ldB (hE.here.1.2)) rfl rfl ?_;refine hK _ _ ?_;clear hK K;try simp only [PL]
      refine wpAnyIn_relist (l' := #[false, true, false, true, false, false, false]) (by kernel_rfl) ?_;refine ?c2_13;refine wpAnyIn_ready (rs := [0, 2]) (by kernel_rfl) (by simp) ?rr99;refine AllReadyIn.cons rfl (fun K hK => ?_) ?_
      ·
       obtain ⟨k100, k101, k102, k103⟩ := (hE.h4).c4;have k104 := (hE.h7).c1;go_simp;refine hK _ _ ?_;clear hK K;try simp only [PL]
       clear k100 k101 k102 k103 k104;refine wpAnyIn_relist (l' := #[true, true, false, true, false, false, false]) (by kernel_rfl) ?_;exact ?c2_013
      refine AllReadyIn.cons rfl (fun K hK => ?_) ?_
      ·
       obtain ⟨k105, k106, k107, k108⟩ := (hE.h4).c4;have k109 := (hE.h7).c1;go_simp;refine hK _ _ ?_;clear hK K;try simp only [PL]
       clear k105 k106 k107 k108 k109;refine wpAnyIn_relist (l' := #[false, true, true, true, false, false, false]) (by kernel_rfl) ?_;exact ?c2_123
      exact AllReadyIn.nil
     exact AllReadyIn.nil
    refine AllReadyIn.cons rfl (fun K hK => ?_) ?_
    ·
     obtain ⟨k110, k111, k112, k113⟩ := (hE.h4).c4;have k114 := (hE.h7).c1;go_simp;refine hK _ _ ?_;clear hK K;try simp only [PL]
     clear k110 k111 k112 k113 k114;refine wpAnyIn_relist (l' := #[false, false, true, false, false, false, false]) (by kernel_rfl) ?_;refine ?c2_2;refine wpAnyIn_ready (rs := [0, 1, 3]) (by kernel_rfl) (by simp) ?rr115;refine AllReadyIn.cons rfl (fun K hK => ?_) ?_
     ·
      obtain ⟨k116, k117, k118, k119⟩ := (hE.h4).c4;have k120 := (hE.h7).c1;go_simp;refine hK _ _ ?_;clear hK K;try simp only [PL]
      clear k116 k117 k118 k119 k120;refine wpAnyIn_relist (l' := #[true, false, true, false, false, false, false]) (by kernel_rfl) ?_;exact ?c2_02
     refine AllReadyIn.cons rfl (fun K hK => ?_) ?_
     ·
      obtain ⟨k121, k122, k123, k124⟩ := (hE.h4).c4;have k125 := (hE.h7).c1;go_simp;refine hK _ _ ?_;clear hK K;try simp only [PL]
      clear k121 k122 k123 k124 k125;refine wpAnyIn_relist (l' := #[false, true, true, false, false, false, false]) (by kernel_rfl) ?_;exact ?c2_12
     refine AllReadyIn.cons rfl (fun K hK => ?_) ?_
     ·
      refine Eq.mpr (if_pos (by rfl)) ?_;refine ld_stepIn (x := .tmp 16) (col_ldB (hE.here.1.2)) rfl rfl ?_;refine hK _ _ ?_;clear hK K;try simp only [PL]
      refine wpAnyIn_relist (l' := #[false, false, true, true, false, false, false]) (by kernel_rfl) ?_;refine ?c2_23;refine wpAnyIn_ready (rs := [0, 1]) (by kernel_rfl) (by simp) ?rr126;refine AllReadyIn.cons rfl (fun K hK => ?_) ?_
      ·
       obtain ⟨k127, k128, k129, k130⟩ := (hE.h4).c4;have k131 := (hE.h7).c1;go_simp;refine hK _ _ ?_;clear hK K;try simp only [PL]
       clear k127 k128 k129 k130 k131;refine wpAnyIn_relist (l' := #[true, false, true, true, false, false, false]) (by kernel_rfl) ?_;exact ?c2_023
      refine AllReadyIn.cons rfl (fun K hK => ?_) ?_
      ·
       obtain ⟨k132, k133, k134, k135⟩ := (hE.h4).c4;have k136 := (hE.h7).c1;go_simp;refine hK _ _ ?_;clear hK K;try simp only [PL]
       clear k132 k133 k134 k135 k136;refine wpAnyIn_relist (l' := #[false, true, true, true, false, false, false]) (by kernel_rfl) ?_;exact ?c2_123
      exact AllReadyIn.nil
     exact AllReadyIn.nil
    refine AllReadyIn.cons rfl (fun K hK => ?_) ?_
    ·
     refine Eq.mpr (if_pos (by rfl)) ?_;refine ld_stepIn (x := .tmp 16) (col_ldB (hE.here.1.2)) rfl rfl ?_;refine hK _ _ ?_;clear hK K;try simp only [PL]
     refine wpAnyIn_relist (l' := #[false, false, false, true, false, false, false]) (by kernel_rfl) ?_;refine ?c2_3;refine wpAnyIn_ready (rs := [0, 1, 2]) (by kernel_rfl) (by simp) ?rr137;refine AllReadyIn.cons rfl (fun K hK => ?_) ?_
     ·
      obtain ⟨k138, k139, k140, k141⟩ := (hE.h4).c4;have k142 := (hE.h7).c1;go_simp;refine hK _ _ ?_;clear hK K;try simp only [PL]
      clear k138 k139 k140 k141 k142;refine wpAnyIn_relist (l' := #[true, false, false, true, false, false, false]) (by kernel_rfl) ?_;exact ?c2_03
     refine AllReadyIn.cons rfl (fun K hK => ?_) ?_
     ·
      obtain ⟨k143, k144, k145, k146⟩ := (hE.h4).c4;have k147 := (hE.h7).c1;go_simp;refine hK _ _ ?_;clear hK K;try simp only [PL]
      clear k143 k144 k145 k146 k147;refine wpAnyIn_relist (l' := #[false, true, false, true, false, false, false]) (by kernel_rfl) ?_;exact ?c2_13
     refine AllReadyIn.cons rfl (fun K hK => ?_) ?_
     ·
      obtain ⟨k148, k149, k150, k151⟩ := (hE.h4).c4;have k152 := (hE.h7).c1;go_simp;refine hK _ _ ?_;clear hK K;try simp only [PL]
      clear k148 k149 k150 k151 k152;refine wpAnyIn_relist (l' := #[false, false, true, true, false, false, false]) (by kernel_rfl) ?_;exact ?c2_23
     exact AllReadyIn.nil
    exact AllReadyIn.nil
   ·
    have t2 : decide ((pre.length : Int) < (b : Int)) = false := decide_eq_false (by omega);have HPS : Hid (ps (cc v f) (a : Int) (b : Int) (pre.length + 1) = ps (cc v f) (a : Int) (b : Int) pre.length) := Lib.hid (by simp only [ps]; rw [if_neg (by omega)]);have k0 := (hE.h9).c1;have k1 := (hE.h8).c1
    gi_wp2
    refine ⟨(hE.here.2).keeps, (hE.here.2).kp, ⟨⟨?_, (hE.here.2).hs⟩, ?_⟩⟩
    ·
     show PrI w (w.heap.size + 1 + 1) (w.heap.size + 1 + 1 + 1) (w.heap.size + 1 + 1 + 1 + 1) (w.heap.size + 1 + 1 + 1 + 1 + 1) Pp (a : Int) (b : Int) (.func (.func 87) #[] #[]) (ps (cc v f) (a : Int) (b : Int) (pre ++ [Cl.mk pre.length xx]).length) _;rw [Hlen2.out, HPS.out];exact ⟨_, _, _, _, _, _, _, _, (((((((Env.again hE.bel).blkI (hE.h9)).blkI (hE.h8)).blkI (hE.h7)).blkI (hE.h6)).fv (hE.h5)).blkI (hE.h4))⟩
    ·
     show wc.heap.size ≤ _;exact Nat.le_trans hcW (hE.here.2).keeps.size
  ·
   have t1 : decide ((a : Int) ≤ (pre.length : Int)) = false := decide_eq_false (by omega);have HPS : Hid (ps (cc v f) (a : Int) (b : Int) (pre.length + 1) = ps (cc v f) (a : Int) (b : Int) pre.length) := Lib.hid (by simp only [ps]; rw [if_neg (by omega)]);have k0 := (hE.h9).c1;have k1 := (hE.h8).c1
   gi_wp2
   refine ⟨(hE.here.2).keeps, (hE.here.2).kp, ⟨⟨?_, (hE.here.2).hs⟩, ?_⟩⟩
   ·
    show PrI w (w.heap.size + 1 + 1) (w.heap.size + 1 + 1 + 1) (w.heap.size + 1 + 1 + 1 + 1) (w.heap.size + 1 + 1 + 1 + 1 + 1) Pp (a : Int) (b : Int) (.func (.func 87) #[] #[]) (ps (cc v f) (a : Int) (b : Int) (pre ++ [Cl.mk pre.length xx]).length) _;rw [Hlen2.out, HPS.out];exact ⟨_, _, _, _, _, _, _, _, (((((((Env.again hE.bel).blkI (hE.h9)).blkI (hE.h8)).blkI (hE.h7)).blkI (hE.h6)).fv (hE.h5)).blkI (hE.h4))⟩
   ·
    show wc.heap.size ≤ _;exact Nat.le_trans hcW (hE.here.2).keeps.size
 case done =>
  rintro D ys W hD hS ⟨⟨hI, hBs⟩, hcW⟩ hK
  rw [hS.length] at hI;obtain ⟨sq, Aq, nq, cq, tq, Bq, mq, dq, hE⟩ := hI;have hE := hE.def_ hK;clear hK;obtain ⟨k1, k2, k3, k4⟩ := (hE.here.1.2).c4
  have hgl153 : w.heap.size ≤ w.heap.size + 1 + 1 + 1 + 1 + 1 := by omega
  obtain ⟨x153_0, x153_1, x153_2, x153_3⟩ := (hE.h3).c4;obtain ⟨f153_0, f153_1, f153_2, f153_3⟩ := hE.h3.f4;replace hE := ((((((((Env.again (bel4 hE.bel hgl153 (.bool sq) (.slice Aq nq cq) (.bool tq) (.slice Bq mq dq))).blkI ((hE.h6).far4 (R := w.heap.size + 1 + 1 + 1 + 1 + 1) (by omega) _ _ _ _)).blkI ((hE.h5).far4 (R := w.heap.size + 1 + 1 + 1 + 1 + 1) (by omega) _ _ _ _)).blkI ((hE.h4).far4 (R := w.heap.size + 1 + 1 + 1 + 1 + 1) (by omega) _ _ _ _)).blkI ((hE.h3).s4 _ _ _ _)).fv ((hE.h2).sep4 hE.h3 rfl _ _ _ _ rfl rfl rfl)).blkI ((hE.here.1.2).far4 (R := w.heap.size + 1 + 1 + 1 + 1 + 1) (by omega) _ _ _ _)).def_ ((heap_set4 (by omega) _ _ _ _).trans (hE.here.2)))
  gi_wp2
  clear x153_0 x153_1 x153_2 x153_3 f153_0 f153_1 f153_2 f153_3 hgl153;generalize ((((W.setCell ⟨w.heap.size + 1 + 1 + 1 + 1 + 1, 0, none⟩ (.bool sq)).setCell ⟨w.heap.size + 1 + 1 + 1 + 1 + 1, 1, none⟩ (.slice Aq nq cq)).setCell ⟨w.heap.size + 1 + 1 + 1 + 1 + 1, 2, none⟩ (.bool tq)).setCell ⟨w.heap.size + 1 + 1 + 1 + 1 + 1, 3, none⟩ (.slice Bq mq dq)) = W153 at hE ⊢;clear k1 k2 k3 k4;obtain ⟨hB2, hV2, hb2⟩ := leave_frac (hE.h3) (hE.h2) hE.bel (show w.heap.size ≤ D by omega) (show D ≠ w.heap.size + 1 + 1 + 1 + 1 + 1 by omega) (hE.here.2) (.deferred none);refine ⟨by simp, .inl ⟨_, _, rfl, run_takeDeferred (hE.here.2), ?_⟩⟩;obtain ⟨y0, y1, y2, y3⟩ := hB2.c4;exact ⟨.tuple #[.agg (qf4 sq Aq nq cq tq Bq mq dq), .int .i64 0], by simp [results, Tryz.results85, go_sem, y0, y1, y2, y3], sq, Aq, nq, cq, tq, Bq, mq, dq, rfl, hV2, hb2⟩
 case stop => exact fun D c pre W hD _ h hK => h.elim
end
section
open Go.RowKit

theorem cAnn_v {F S E Y : Int} {A : Option Addr} {n c : Nat} {r : Nat → RH} {si ti : Bool} {Ai Bi : Option Addr} {ni ci mi di : Nat} {fi gi : Nat → Nat} {w : World} (hT : TabM w A n r) (hB : TabB n r) (hr : FRd w Ai ni fi Bi mi gi) (hn : ni ≤ 1000000) (hm : mi ≤ 1000000) (hbk : BOK F S n r si ni fi ti mi gi) (hR : RightP F S n r E Y) (N : Nat) (hN : Cnt (1 / (1 + qOf si ni fi mi gi)) (fr F S n r E Y) N) (h80 : N ≤ 80) (a b : Nat) (ha : a ≤ 9223372036854775807) (hb : b ≤ 9223372036854775807) :
  Calls Tryz.prog 33 #[.agg (qb7 F S A n c si Ai ni ci ti Bi mi di), .agg #[.int .i64 E, .int .i64 Y], .int .i64 (a : Int), .int .i64 (b : Int)] w (FOK (ps (dd (1 / (1 + qOf si ni fi mi gi)) (fr F S n r E Y)) (a : Int) (b : Int) N) w) := by
 obtain ⟨Z, hZ⟩ : ∃ z, z = ps (dd (1 / (1 + qOf si ni fi mi gi)) (fr F S n r E Y)) (a : Int) (b : Int) N := ⟨_, rfl⟩
 rw [← hZ];have HhT := Lib.hid hT;clear hT;have HhB := Lib.hid hB;clear hB;have Hhr := Lib.hid hr;clear hr;have Hhbk := Lib.hid hbk;clear hbk;have HhR := Lib.hid hR;clear hR;have HhN := Lib.hid hN;clear hN;have HhZ := Lib.hid hZ;clear hZ;have hE := ((Env.start w).blk 31 (qb7 F S A n c si Ai ni ci ti Bi mi di) (g := w.heap.size) rfl).blk 33 #[.int .i64 E, .int .i64 Y] (g := w.heap.size + 1) (by simp);have hE := hE.blk 29 qz4 (g := w.heap.size + 1 + 1) (by simp)
 obtain ⟨W0, hW0⟩ : ∃ W0, W0 = (((w.alloc (.cells (qb7 F S A n c si Ai ni ci ti Bi mi di) 31)).alloc (.cells #[.int .i64 E, .int .i64 Y] 33)).alloc (.cells qz4 29)) := ⟨_, rfl⟩
 rw [← hW0] at hE;have HW0 := Lib.hid hW0;clear hW0
 go_enter Tryz.func33, Tryz.ntmps33
 go_upto_region 1 with (fail)
 rw [← HW0.out];obtain ⟨k1, k2, k3, k4, k5, k6, k7⟩ := (hE.h2).c7;obtain ⟨k8, k9⟩ := (hE.here.1.2).c2;go_wp2_with fail
 have hc := cpresA_v (c := c) (ci := ci) (di := di) (HhT.out.below hE.bel) HhB.out (Hhr.out.below hE.bel) hn hm Hhbk.out HhR.out N HhN.out h80 a b ha hb;rw [← HhZ.out] at hc;refine hE.fr (hc) ?_;clear hE k1 k2 k3 k4 k5 k6 k7 k8 k9;intro sz Az nz cz tz Bz mz dz w10 hE;clear hc
 have hRl : w.heap.size ≤ w.heap.size + 1 + 1 := by omega
 obtain ⟨WW, hWW, hB, hV, hBel⟩ := ret_frac hE hE.here.1.2 hRl hE.here.2 cz dz;obtain ⟨x0, x1, x2, x3⟩ := (hE.here.1.2).c4;obtain ⟨fz0, fz1, fz2, fz3⟩ := hE.here.1.2.f4;have HWW := Lib.hid hWW;clear hWW;go_wp2_with fail
 clear x0 x1 x2 x3;rw [← HWW.out];obtain ⟨y0, y1, y2, y3⟩ := hB.c4;refine bodyPost_ret (v := .tuple #[.agg (qf4 sz Az nz cz tz Bz mz dz), .int .i64 0]) (by simp [results, Tryz.results33, go_sem, y0, y1, y2, y3]) rfl ?_;exact ⟨sz, Az, nz, cz, tz, Bz, mz, dz, rfl, hV, hBel⟩
theorem cAss_v {F S E Y : Int} {A : Option Addr} {n c : Nat} {r : Nat → RH} {si ti : Bool} {Ai Bi : Option Addr} {ni ci mi di : Nat} {fi gi : Nat → Nat} {w : World} (hT : TabM w A n r) (hB : TabB n r) (hr : FRd w Ai ni fi Bi mi gi) (hn : ni ≤ 1000000) (hm : mi ≤ 1000000) (hbk : BOK F S n r si ni fi ti mi gi) (hR : RightP F S n r E Y) (N : Nat) (hN : Cnt (1 / (1 + qOf si ni fi mi gi)) (fr F S n r E Y) N) (h80 : N ≤ 80) (a b : Nat) (ha : a ≤ 9223372036854775807) (hb : b ≤ 9223372036854775807) :
  Calls Tryz.prog 34 #[.agg (qb7 F S A n c si Ai ni ci ti Bi mi di), .agg #[.int .i64 E, .int .i64 Y], .int .i64 (a : Int), .int .i64 (b : Int)] w (FOK (ps (cc (1 / (1 + qOf si ni fi mi gi)) (fr F S n r E Y)) (a : Int) (b : Int) N) w) := by
 obtain ⟨Z, hZ⟩ : ∃ z, z = ps (cc (1 / (1 + qOf si ni fi mi gi)) (fr F S n r E Y)) (a : Int) (b : Int) N := ⟨_, rfl⟩
 rw [← hZ];have HhT := Lib.hid hT;clear hT;have HhB := Lib.hid hB;clear hB;have Hhr := Lib.hid hr;clear hr;have Hhbk := Lib.hid hbk;clear hbk;have HhR := Lib.hid hR;clear hR;have HhN := Lib.hid hN;clear hN;have HhZ := Lib.hid hZ;clear hZ;have hE := ((Env.start w).blk 31 (qb7 F S A n c si Ai ni ci ti Bi mi di) (g := w.heap.size) rfl).blk 33 #[.int .i64 E, .int .i64 Y] (g := w.heap.size + 1) (by simp);have hE := hE.blk 29 qz4 (g := w.heap.size + 1 + 1) (by simp)
 obtain ⟨W0, hW0⟩ : ∃ W0, W0 = (((w.alloc (.cells (qb7 F S A n c si Ai ni ci ti Bi mi di) 31)).alloc (.cells #[.int .i64 E, .int .i64 Y] 33)).alloc (.cells qz4 29)) := ⟨_, rfl⟩
 rw [← hW0] at hE;have HW0 := Lib.hid hW0;clear hW0
 go_enter Tryz.func34, Tryz.ntmps34
 go_upto_region 1 with (fail)
 rw [← HW0.out];obtain ⟨k1, k2, k3, k4, k5, k6, k7⟩ := (hE.h2).c7;obtain ⟨k8, k9⟩ := (hE.here.1.2).c2;go_wp2_with fail
 have hc := cpresC_v (c := c) (ci := ci) (di := di) (HhT.out.below hE.bel) HhB.out (Hhr.out.below hE.bel) hn hm Hhbk.out HhR.out N HhN.out h80 a b ha hb;rw [← HhZ.out] at hc;refine hE.fr (hc) ?_;clear hE k1 k2 k3 k4 k5 k6 k7 k8 k9;intro sz Az nz cz tz Bz mz dz w10 hE;clear hc
 have hRl : w.heap.size ≤ w.heap.size + 1 + 1 := by omega
 obtain ⟨WW, hWW, hB, hV, hBel⟩ := ret_frac hE hE.here.1.2 hRl hE.here.2 cz dz;obtain ⟨x0, x1, x2, x3⟩ := (hE.here.1.2).c4;obtain ⟨fz0, fz1, fz2, fz3⟩ := hE.here.1.2.f4;have HWW := Lib.hid hWW;clear hWW;go_wp2_with fail
 clear x0 x1 x2 x3;rw [← HWW.out];obtain ⟨y0, y1, y2, y3⟩ := hB.c4;refine bodyPost_ret (v := .tuple #[.agg (qf4 sz Az nz cz tz Bz mz dz), .int .i64 0]) (by simp [results, Tryz.results34, go_sem, y0, y1, y2, y3]) rfl ?_;exact ⟨sz, Az, nz, cz, tz, Bz, mz, dz, rfl, hV, hBel⟩
theorem cEnd_v {F S E Y : Int} {A : Option Addr} {n c : Nat} {r : Nat → RH} {si ti : Bool} {Ai Bi : Option Addr} {ni ci mi di : Nat} {fi gi : Nat → Nat} {w : World} (hT : TabM w A n r) (hB : TabB n r) (hr : FRd w Ai ni fi Bi mi gi) (hn : ni ≤ 1000000) (hm : mi ≤ 1000000) (hbk : BOK F S n r si ni fi ti mi gi) (hR : RightP F S n r E Y) (N : Nat) (hN : Cnt (1 / (1 + qOf si ni fi mi gi)) (fr F S n r E Y) N) (h80 : N ≤ 80) (k : Nat) (hk : k ≤ 9223372036854775807) :
  Calls Tryz.prog 35 #[.agg (qb7 F S A n c si Ai ni ci ti Bi mi di), .agg #[.int .i64 E, .int .i64 Y], .int .i64 (k : Int)] w (FOK (if k < N then dd (1 / (1 + qOf si ni fi mi gi)) (fr F S n r E Y) k else 0) w) := by
 by_cases hkN : k < N
 ·
  rw [if_pos hkN]
  obtain ⟨f, hf⟩ : ∃ f, f = fr F S n r E Y := ⟨_, rfl⟩
  obtain ⟨v, hv⟩ : ∃ v, v = 1 / (1 + qOf si ni fi mi gi) := ⟨_, rfl⟩
  have hcols := fun (W : World) (hW : Below w.heap.size w W) => ccolsE_v (c := c) (ci := ci) (di := di) (hT.below hW) hB (hr.below hW) hn hm hbk hR N hN h80
  have hN0 := hN.pos;rw [← hv, ← hf] at hcols;rw [← hv, ← hf];have HhT := Lib.hid hT;clear hT;have HhB := Lib.hid hB;clear hB;have Hhr := Lib.hid hr;clear hr;have Hhbk := Lib.hid hbk;clear hbk;have HhR := Lib.hid hR;clear hR;have HhN := Lib.hid hN;clear hN;have Hhcols := Lib.hid hcols;clear hcols;have Hhf := Lib.hid hf;clear hf;have Hhv := Lib.hid hv;clear hv;have HhkN := Lib.hid hkN;clear hkN;have t1 : decide ((k : Int) < 0) = false := decide_eq_false (by omega)
  have t9 : ¬ (k : Int) < 0 := by omega
  have hE := ((Env.start w).blk 31 (qb7 F S A n c si Ai ni ci ti Bi mi di) (g := w.heap.size) rfl).blk 33 #[.int .i64 E, .int .i64 Y] (g := w.heap.size + 1) (by simp);have hE := hE.blk 29 qz4 (g := w.heap.size + 1 + 1) (by simp)
  obtain ⟨W0, hW0⟩ : ∃ W0, W0 = (((w.alloc (.cells (qb7 F S A n c si Ai ni ci ti Bi mi di) 31)).alloc (.cells #[.int .i64 E, .int .i64 Y] 33)).alloc (.cells qz4 29)) := ⟨_, rfl⟩
  rw [← hW0] at hE;have HW0 := Lib.hid hW0;clear hW0
  go_enter Tryz.func35, Tryz.ntmps35
  go_upto_region 1 with (fail)
  rw [← HW0.out];obtain ⟨k1, k2, k3, k4, k5, k6, k7⟩ := (hE.h2).c7;obtain ⟨k8, k9⟩ := (hE.here.1.2).c2;go_wp2_with fail
  refine (Hhcols.out _ hE.bel).mono ?_;clear k1 k2 k3 k4 k5 k6 k7 k8 k9
  rintro e w9 ⟨cv, h, rfl, hcv, hcq, hb1⟩
  replace hE := hE.step hb1
  rcases hcv with ⟨-, h0⟩ | ⟨g, cap, rfl, -, hCB⟩
  · omega
  clear hb1;have hgl : g < w9.heap.size := ColP.lt hCB
  have t4 : (k : Int) < (N : Int) := by have := HhkN.out; omega
  have t2 : decide ((N : Int) ≤ (k : Int)) = false := decide_eq_false (by omega)
  have t3 : ¬ (N : Int) ≤ (k : Int) := by omega
  replace hE := hE.fv (show FV w9 (dd v f k) (h k 0).s (h k 0).A (h k 0).n (h k 0).t (h k 0).B (h k 0).m from hcq k HhkN.out 0 (by decide) (.inl rfl));have q0 : w9.cell? ⟨g, k * 24, none⟩ = some (.bool (h k 0).s) := hCB.at2 (j := 0) (i := 0) HhkN.out (by decide) (by decide) (by omega) rfl;have q1 : w9.cell? ⟨g, k * 24 + 1, none⟩ = some (.slice (h k 0).A (h k 0).n (h k 0).c) := hCB.at2 (j := 0) (i := 1) HhkN.out (by decide) (by decide) (by omega) rfl;have q2 : w9.cell? ⟨g, k * 24 + 2, none⟩ = some (.bool (h k 0).t) := hCB.at2 (j := 0) (i := 2) HhkN.out (by decide) (by decide) (by omega) rfl;have q3 : w9.cell? ⟨g, k * 24 + 3, none⟩ = some (.slice (h k 0).B (h k 0).m (h k 0).d) := hCB.at2 (j := 0) (i := 3) HhkN.out (by decide) (by decide) (by omega) rfl
  have hRl : w.heap.size ≤ w.heap.size + 1 + 1 := by omega
  obtain ⟨WW, hWW, hB, hV, hBel⟩ := ret_frac hE hE.here.1.2 hRl hE.here.2 (h k 0).c (h k 0).d;obtain ⟨x0, x1, x2, x3⟩ := (hE.here.1.2).c4;obtain ⟨fz0, fz1, fz2, fz3⟩ := hE.here.1.2.f4;have HWW := Lib.hid hWW;clear hWW;go_wp2_with fail
  clear x0 x1 x2 x3;rw [← HWW.out];obtain ⟨y0, y1, y2, y3⟩ := hB.c4;refine bodyPost_ret (v := .tuple #[.agg #[.bool (h k 0).s, .slice (h k 0).A (h k 0).n (h k 0).c, .bool (h k 0).t, .slice (h k 0).B (h k 0).m (h k 0).d], .int .i64 0]) (by simp [results, Tryz.results35, go_sem, y0, y1, y2, y3]) rfl ?_;exact ⟨(h k 0).s, (h k 0).A, (h k 0).n, (h k 0).c, (h k 0).t, (h k 0).B, (h k 0).m, (h k 0).d, rfl, hV, hBel⟩
 ·
  rw [if_neg hkN]
  obtain ⟨f, hf⟩ : ∃ f, f = fr F S n r E Y := ⟨_, rfl⟩
  obtain ⟨v, hv⟩ : ∃ v, v = 1 / (1 + qOf si ni fi mi gi) := ⟨_, rfl⟩
  have hcols := fun (W : World) (hW : Below w.heap.size w W) => ccolsE_v (c := c) (ci := ci) (di := di) (hT.below hW) hB (hr.below hW) hn hm hbk hR N hN h80
  have hN0 := hN.pos;rw [← hv, ← hf] at hcols;have HhT := Lib.hid hT;clear hT;have HhB := Lib.hid hB;clear hB;have Hhr := Lib.hid hr;clear hr;have Hhbk := Lib.hid hbk;clear hbk;have HhR := Lib.hid hR;clear hR;have HhN := Lib.hid hN;clear hN;have Hhcols := Lib.hid hcols;clear hcols;have Hhf := Lib.hid hf;clear hf;have Hhv := Lib.hid hv;clear hv;have HhkN := Lib.hid hkN;clear hkN;have t1 : decide ((k : Int) < 0) = false := decide_eq_false (by omega)
  have t9 : ¬ (k : Int) < 0 := by omega
  have hE := ((Env.start w).blk 31 (qb7 F S A n c si Ai ni ci ti Bi mi di) (g := w.heap.size) rfl).blk 33 #[.int .i64 E, .int .i64 Y] (g := w.heap.size + 1) (by simp);have hE := hE.blk 29 qz4 (g := w.heap.size + 1 + 1) (by simp)
  obtain ⟨W0, hW0⟩ : ∃ W0, W0 = (((w.alloc (.cells (qb7 F S A n c si Ai ni ci ti Bi mi di) 31)).alloc (.cells #[.int .i64 E, .int .i64 Y] 33)).alloc (.cells qz4 29)) := ⟨_, rfl⟩
  rw [← hW0] at hE;have HW0 := Lib.hid hW0;clear hW0
  go_enter Tryz.func35, Tryz.ntmps35
  go_upto_region 1 with (fail)
  rw [← HW0.out];obtain ⟨k1, k2, k3, k4, k5, k6, k7⟩ := (hE.h2).c7;obtain ⟨k8, k9⟩ := (hE.here.1.2).c2;go_wp2_with fail
  refine (Hhcols.out _ hE.bel).mono ?_;clear k1 k2 k3 k4 k5 k6 k7 k8 k9
  rintro e w9 ⟨cv, h, rfl, hcv, hcq, hb1⟩
  replace hE := hE.step hb1
  rcases hcv with ⟨-, h0⟩ | ⟨g, cap, rfl, -, hCB⟩
  · omega
  clear hb1;have hgl : g < w9.heap.size := ColP.lt hCB;have t2 : decide ((N : Int) ≤ (k : Int)) = true := decide_eq_true (by have := HhkN.out; omega)
  have t3 : (N : Int) ≤ (k : Int) := by have := HhkN.out; omega
  go_wp2_with fail
  have hc := ffromInt_v 0 w9 (by decide) (by decide);rw [show (((0 : Int) : Rat)) = 0 from rfl] at hc;refine hE.fr (hc) ?_;clear hE;intro sz Az nz cz tz Bz mz dz w10 hE;clear hc
  have hRl : w.heap.size ≤ w.heap.size + 1 + 1 := by omega
  obtain ⟨WW, hWW, hB, hV, hBel⟩ := ret_frac hE hE.here.1.2 hRl hE.here.2 cz dz;obtain ⟨x0, x1, x2, x3⟩ := (hE.here.1.2).c4;obtain ⟨fz0, fz1, fz2, fz3⟩ := hE.here.1.2.f4;have HWW := Lib.hid hWW;clear hWW;go_wp2_with fail
  clear x0 x1 x2 x3;rw [← HWW.out];obtain ⟨y0, y1, y2, y3⟩ := hB.c4;refine bodyPost_ret (v := .tuple #[.agg (qf4 sz Az nz cz tz Bz mz dz), .int .i64 0]) (by simp [results, Tryz.results35, go_sem, y0, y1, y2, y3]) rfl ?_;exact ⟨sz, Az, nz, cz, tz, Bz, mz, dz, rfl, hV, hBel⟩
end
section
open Go.RowKit

end
section
open Go.RowKit

section
variable {r : Nat → RH} (h : ((r 0).h 0).q = Rat.divInt 1 10 ∧ ((r 0).h 1).q = Rat.divInt 1 5 ∧ ((r 1).h 0).q = Rat.divInt 1 8 ∧ ((r 1).h 1).q = Rat.divInt 1 2 ∧ ((r 2).h 0).q = Rat.divInt 1 4 ∧ ((r 2).h 1).q = Rat.divInt 1 1)
include h
theorem exB_0 : fr 60 1 3 r 60 0 0 = Rat.divInt 1 10 := by
 show rt 60 1 3 r 60 0 0 = _;unfold rt;rw [if_neg (by decide), if_pos (by decide)];exact h.1
theorem exB_1 : fr 60 1 3 r 60 0 1 = Rat.divInt 1 2 := by
 show rt 60 1 3 r 60 0 1 = _;unfold rt;rw [if_neg (by decide), if_neg (by decide)];exact h.2.2.2.1
theorem exB_2 : fr 60 1 3 r 60 0 2 = Rat.divInt 1 1 := by
 show rt 60 1 3 r 60 0 2 = _;unfold rt;rw [if_neg (by decide), if_neg (by decide)];exact h.2.2.2.2.2
end
def exf (k : Nat) : Rat := if k = 0 then Rat.divInt 1 10 else if k = 1 then Rat.divInt 1 2 else Rat.divInt 1 1
theorem exf_eq {r : Nat → RH} (h : ((r 0).h 0).q = Rat.divInt 1 10 ∧ ((r 0).h 1).q = Rat.divInt 1 5 ∧ ((r 1).h 0).q = Rat.divInt 1 8 ∧ ((r 1).h 1).q = Rat.divInt 1 2 ∧ ((r 2).h 0).q = Rat.divInt 1 4 ∧ ((r 2).h 1).q = Rat.divInt 1 1) : ∀ k, k < 3 → fr 60 1 3 r 60 0 k = exf k := fun k hk => by
 rcases (show k = 0 ∨ k = 1 ∨ k = 2 by omega) with rfl | rfl | rfl
 · exact exB_0 h
 · exact exB_1 h
 · exact exB_2 h
theorem intB_of {W : World} {q : Rat} {s t : Bool} {A B : Option Addr} {n m : Nat} (h : FV W q s A n t B m) (hi : Rti q) : intB s n (dgt b16 q.num.natAbs) t m (dgt b16 q.den) = true := by
 obtain ⟨l1, l2⟩ := h.ln hi.fl
 have hs : s = false := by rw [h.1.sgn]; exact decide_eq_false (by have := Rat.num_nonneg.2 hi.1; omega)
 unfold intB;rw [okF_of h (Nat.le_trans hi.fl (by decide)), hs, decide_eq_true l1, decide_eq_true l2];rfl
theorem dd_ext {v : Rat} {f g : Nat → Rat} (h : ∀ k, k < 3 → f k = g k) : ∀ k, k ≤ 3 → dd v f k = dd v g k := fun k hk => dd_congr fun i hi => h i (by omega)
theorem cc_ext {v : Rat} {f g : Nat → Rat} (h : ∀ k, k < 3 → f k = g k) : ∀ k, k < 3 → cc v f k = cc v g k := fun k hk => by
 unfold cc;rw [dd_ext h k (by omega), h k hk]
def exv : Rat := 1 / (1 + Rat.divInt 1 4)
theorem ex_cnt : Cnt exv exf 3 := by
 refine ⟨by decide +kernel, fun k hk => ?_⟩
 rcases (show k = 0 ∨ k = 1 ∨ k = 2 by omega) with rfl | rfl | rfl <;> decide +kernel
end
section
open Go.RowKit

def SmB (n : Nat) (r : Nat → RH) (N : Int) (ni mi : Nat) : Prop := TabS n r N 8 2 ∧ ni ≤ 2 ∧ mi ≤ 2
theorem largeB_any (F S N : Int) (A : Option Addr) (n c : Nat) (r : Nat → RH) (si ti : Bool) (Ai Bi : Option Addr) (ni mi ci di : Nat) (w : World) (hT : TabM w A n r) (h1 : 0 ≤ N) (h2 : N ≤ 1000000) :
  Calls Tryz.prog 101 #[.agg (qb7 F S A n c si Ai ni ci ti Bi mi di), .int .i64 N] w fun e w' => ∃ v, e = .returned (.bool v) ∧ (v = false ↔ SmB n r N ni mi) ∧ Below w.heap.size w w' := by
 by_cases hs : TabS n r N 8 2
 ·
  by_cases hn : ni ≤ 2
  ·
   have t1 : decide ((2 : Int) < (ni : Int)) = false := decide_eq_false (by omega)
   by_cases hm : mi ≤ 2
   ·
    have t2 : decide ((2 : Int) < (mi : Int)) = false := decide_eq_false (by omega);have HN : Hid (SmB n r N ni mi) := Lib.hid ⟨hs, hn, hm⟩;have hE := ((Env.start w).tab hT).blk 31 (qb7 F S A n c si Ai ni ci ti Bi mi di) (g := w.heap.size) rfl
    obtain ⟨W0, hW0⟩ : ∃ W0, W0 = (w.alloc (.cells (qb7 F S A n c si Ai ni ci ti Bi mi di) 31)) := ⟨_, rfl⟩
    rw [← hW0] at hE;have HW0 := Lib.hid hW0;clear hW0
    go_enter Tryz.func101, Tryz.ntmps101
    go_upto_region 1 with (fail)
    rw [← HW0.out];obtain ⟨k1, k2, k3, k4, k5, k6, k7⟩ := (hE.here.2).c7;go_wp2_with fail
    refine (large_iff F S N 8 2 A n c r _ (hE.here.1.2) h1 h2 (by decide) (by decide)).mono ?_;clear k1 k2 k3 k4 k5 k6 k7
    rintro e w9 ⟨v, rfl, hv, hb⟩
    obtain rfl : v = false := hv.2 hs;clear hv;replace hE := hE.step hb;clear hb;obtain ⟨k8, k9, k10, k11, k12, k13, k14⟩ := (hE.here.2).c7;go_wp2_with fail
    go_ret
    exact ⟨false, rfl, ⟨fun _ => HN.out, fun _ => rfl⟩, hE.bel⟩
   ·
    have t2 : decide ((2 : Int) < (mi : Int)) = true := decide_eq_true (by omega);have HN : Hid (¬ SmB n r N ni mi) := Lib.hid (fun h => hm h.2.2);have hE := ((Env.start w).tab hT).blk 31 (qb7 F S A n c si Ai ni ci ti Bi mi di) (g := w.heap.size) rfl
    obtain ⟨W0, hW0⟩ : ∃ W0, W0 = (w.alloc (.cells (qb7 F S A n c si Ai ni ci ti Bi mi di) 31)) := ⟨_, rfl⟩
    rw [← hW0] at hE;have HW0 := Lib.hid hW0;clear hW0
    go_enter Tryz.func101, Tryz.ntmps101
    go_upto_region 1 with (fail)
    rw [← HW0.out];obtain ⟨k1, k2, k3, k4, k5, k6, k7⟩ := (hE.here.2).c7;go_wp2_with fail
    refine (large_iff F S N 8 2 A n c r _ (hE.here.1.2) h1 h2 (by decide) (by decide)).mono ?_;clear k1 k2 k3 k4 k5 k6 k7
    rintro e w9 ⟨v, rfl, hv, hb⟩
    obtain rfl : v = false := hv.2 hs;clear hv;replace hE := hE.step hb;clear hb;obtain ⟨k8, k9, k10, k11, k12, k13, k14⟩ := (hE.here.2).c7;go_wp2_with fail
    go_ret
    exact ⟨true, rfl, no_tab HN.out, hE.bel⟩
  ·
   have t1 : decide ((2 : Int) < (ni : Int)) = true := decide_eq_true (by omega);have HN : Hid (¬ SmB n r N ni mi) := Lib.hid (fun h => hn h.2.1);have hE := ((Env.start w).tab hT).blk 31 (qb7 F S A n c si Ai ni ci ti Bi mi di) (g := w.heap.size) rfl
   obtain ⟨W0, hW0⟩ : ∃ W0, W0 = (w.alloc (.cells (qb7 F S A n c si Ai ni ci ti Bi mi di) 31)) := ⟨_, rfl⟩
   rw [← hW0] at hE;have HW0 := Lib.hid hW0;clear hW0
   go_enter Tryz.func101, Tryz.ntmps101
   go_upto_region 1 with (fail)
   rw [← HW0.out];obtain ⟨k1, k2, k3, k4, k5, k6, k7⟩ := (hE.here.2).c7;go_wp2_with fail
   refine (large_iff F S N 8 2 A n c r _ (hE.here.1.2) h1 h2 (by decide) (by decide)).mono ?_;clear k1 k2 k3 k4 k5 k6 k7
   rintro e w9 ⟨v, rfl, hv, hb⟩
   obtain rfl : v = false := hv.2 hs;clear hv;replace hE := hE.step hb;clear hb;obtain ⟨k8, k9, k10, k11, k12, k13, k14⟩ := (hE.here.2).c7;go_wp2_with fail
   go_ret
   exact ⟨true, rfl, no_tab HN.out, hE.bel⟩
 ·
  have HN : Hid (¬ SmB n r N ni mi) := Lib.hid (fun h => hs h.1);have hE := ((Env.start w).tab hT).blk 31 (qb7 F S A n c si Ai ni ci ti Bi mi di) (g := w.heap.size) rfl
  obtain ⟨W0, hW0⟩ : ∃ W0, W0 = (w.alloc (.cells (qb7 F S A n c si Ai ni ci ti Bi mi di) 31)) := ⟨_, rfl⟩
  rw [← hW0] at hE;have HW0 := Lib.hid hW0;clear hW0
  go_enter Tryz.func101, Tryz.ntmps101
  go_upto_region 1 with (fail)
  rw [← HW0.out];obtain ⟨k1, k2, k3, k4, k5, k6, k7⟩ := (hE.here.2).c7;go_wp2_with fail
  refine (large_iff F S N 8 2 A n c r _ (hE.here.1.2) h1 h2 (by decide) (by decide)).mono ?_;clear k1 k2 k3 k4 k5 k6 k7
  rintro e w9 ⟨v, rfl, hv, hb⟩
  obtain rfl : v = true := by cases v with | true => rfl | false => exact absurd (hv.1 rfl) hs
  clear hv;replace hE := hE.step hb;clear hb;go_wp2_with fail
  go_ret
  exact ⟨true, rfl, no_tab HN.out, hE.bel⟩
end
section
open Go.RowKit

theorem vplus_v {a b : Rat} {sa ta sb tb : Bool} {Aa Ba Ab Bb : Option Addr} {na ca ma da nb cb mb db : Nat} {w : World} (ha : FV w a sa Aa na ta Ba ma) (hb : FV w b sb Ab nb tb Bb mb) (la : fl a ≤ 256) (lb : fl b ≤ 256) (lr : fl (a + b) ≤ 256) :
  Calls Tryz.prog 102 #[.agg (qf4 sa Aa na ca ta Ba ma da), .agg (qf4 sb Ab nb cb tb Bb mb db)] w (FR (a + b) w) := by
 have hE := ((((Env.start w).fv ha).fv hb).blk 29 (qf4 sa Aa na ca ta Ba ma da) (g := w.heap.size) rfl).blk 29 (qf4 sb Ab nb cb tb Bb mb db) (g := w.heap.size + 1) (by simp);have hE := hE.blk 29 qz4 (g := w.heap.size + 1 + 1) (by simp)
 obtain ⟨W0, hW0⟩ : ∃ W0, W0 = (((w.alloc (.cells (qf4 sa Aa na ca ta Ba ma da) 29)).alloc (.cells (qf4 sb Ab nb cb tb Bb mb db) 29)).alloc (.cells qz4 29)) := ⟨_, rfl⟩
 rw [← hW0] at hE;have HW0 := Lib.hid hW0;clear hW0
 go_enter Tryz.func102, Tryz.ntmps102
 go_upto_region 1 with (fail)
 rw [← HW0.out];obtain ⟨k1, k2, k3, k4⟩ := (hE.h2).c4;obtain ⟨k5, k6, k7, k8⟩ := (hE.here.1.2).c4;go_wp2_with fail
 refine hE.fr (fadd_v (ca := ca) (da := da) (cb := cb) (db := db) hE.h4 hE.h3 la lb lr) ?_;clear hE k1 k2 k3 k4 k5 k6 k7 k8;intro sr Ar nr cr tr Br mr dr w9 hE
 go_upto_region 2 with (fail)
 obtain ⟨g10, hg10⟩ : ∃ g10, g10 = w9.heap.size := ⟨_, rfl⟩
 have hl10_2 : w.heap.size < g10 := by rw [hg10]; exact (hE.h3).lt
 have hl10_3 : w.heap.size + 1 < g10 := by rw [hg10]; exact (hE.h2).lt
 have hl10_4 : w.heap.size + 1 + 1 < g10 := by rw [hg10]; exact (hE.here.1.2).lt
 replace hE := hE.blk 29 (qf4 sr Ar nr cr tr Br mr dr) (g := g10) hg10.symm;generalize w9.alloc (.cells (qf4 sr Ar nr cr tr Br mr dr) 29) = W10 at hE ⊢;rw [← hg10];clear hg10;obtain ⟨k11, k12, k13, k14⟩ := (hE.here.2).c4
 have hRl : w.heap.size ≤ w.heap.size + 1 + 1 := by omega
 obtain ⟨WW, hWW, hB, hV, hBel⟩ := ret_frac hE hE.h2 hRl hE.here.1.2 cr dr;obtain ⟨x0, x1, x2, x3⟩ := (hE.h2).c4;obtain ⟨fz0, fz1, fz2, fz3⟩ := hE.h2.f4;have HWW := Lib.hid hWW;clear hWW;go_wp2_with fail
 clear k11 k12 k13 k14;rw [← HWW.out];obtain ⟨y0, y1, y2, y3⟩ := hB.c4;refine bodyPost_ret (v := .agg (qf4 sr Ar nr cr tr Br mr dr)) (by simp [results, Tryz.results102, go_sem, y0, y1, y2, y3]) rfl ?_;exact ⟨sr, Ar, nr, cr, tr, Br, mr, dr, rfl, hV, hBel⟩
theorem vminus_v {a b : Rat} {sa ta sb tb : Bool} {Aa Ba Ab Bb : Option Addr} {na ca ma da nb cb mb db : Nat} {w : World} (ha : FV w a sa Aa na ta Ba ma) (hb : FV w b sb Ab nb tb Bb mb) (la : fl a ≤ 256) (lb : fl b ≤ 256) (lr : fl (a - b) ≤ 256) :
  Calls Tryz.prog 65 #[.agg (qf4 sa Aa na ca ta Ba ma da), .agg (qf4 sb Ab nb cb tb Bb mb db)] w (FR (a - b) w) := by
 have hE := ((((Env.start w).fv ha).fv hb).blk 29 (qf4 sa Aa na ca ta Ba ma da) (g := w.heap.size) rfl).blk 29 (qf4 sb Ab nb cb tb Bb mb db) (g := w.heap.size + 1) (by simp);have hE := hE.blk 29 qz4 (g := w.heap.size + 1 + 1) (by simp)
 obtain ⟨W0, hW0⟩ : ∃ W0, W0 = (((w.alloc (.cells (qf4 sa Aa na ca ta Ba ma da) 29)).alloc (.cells (qf4 sb Ab nb cb tb Bb mb db) 29)).alloc (.cells qz4 29)) := ⟨_, rfl⟩
 rw [← hW0] at hE;have HW0 := Lib.hid hW0;clear hW0
 go_enter Tryz.func65, Tryz.ntmps65
 go_upto_region 1 with (fail)
 rw [← HW0.out];obtain ⟨k1, k2, k3, k4⟩ := (hE.h2).c4;obtain ⟨k5, k6, k7, k8⟩ := (hE.here.1.2).c4;go_wp2_with fail
 refine hE.fr (fsub_v (ca := ca) (da := da) (cb := cb) (db := db) hE.h4 hE.h3 la lb lr) ?_;clear hE k1 k2 k3 k4 k5 k6 k7 k8;intro sr Ar nr cr tr Br mr dr w9 hE
 go_upto_region 2 with (fail)
 obtain ⟨g10, hg10⟩ : ∃ g10, g10 = w9.heap.size := ⟨_, rfl⟩
 have hl10_2 : w.heap.size < g10 := by rw [hg10]; exact (hE.h3).lt
 have hl10_3 : w.heap.size + 1 < g10 := by rw [hg10]; exact (hE.h2).lt
 have hl10_4 : w.heap.size + 1 + 1 < g10 := by rw [hg10]; exact (hE.here.1.2).lt
 replace hE := hE.blk 29 (qf4 sr Ar nr cr tr Br mr dr) (g := g10) hg10.symm;generalize w9.alloc (.cells (qf4 sr Ar nr cr tr Br mr dr) 29) = W10 at hE ⊢;rw [← hg10];clear hg10;obtain ⟨k11, k12, k13, k14⟩ := (hE.here.2).c4
 have hRl : w.heap.size ≤ w.heap.size + 1 + 1 := by omega
 obtain ⟨WW, hWW, hB, hV, hBel⟩ := ret_frac hE hE.h2 hRl hE.here.1.2 cr dr;obtain ⟨x0, x1, x2, x3⟩ := (hE.h2).c4;obtain ⟨fz0, fz1, fz2, fz3⟩ := hE.h2.f4;have HWW := Lib.hid hWW;clear hWW;go_wp2_with fail
 clear k11 k12 k13 k14;rw [← HWW.out];obtain ⟨y0, y1, y2, y3⟩ := hB.c4;refine bodyPost_ret (v := .agg (qf4 sr Ar nr cr tr Br mr dr)) (by simp [results, Tryz.results65, go_sem, y0, y1, y2, y3]) rfl ?_;exact ⟨sr, Ar, nr, cr, tr, Br, mr, dr, rfl, hV, hBel⟩
theorem vtimes_v {a b : Rat} {sa ta sb tb : Bool} {Aa Ba Ab Bb : Option Addr} {na ca ma da nb cb mb db : Nat} {w : World} (ha : FV w a sa Aa na ta Ba ma) (hb : FV w b sb Ab nb tb Bb mb) (la : fl a ≤ 256) (lb : fl b ≤ 256) (lr : fl (a * b) ≤ 256) :
  Calls Tryz.prog 110 #[.agg (qf4 sa Aa na ca ta Ba ma da), .agg (qf4 sb Ab nb cb tb Bb mb db)] w (FR (a * b) w) := by
 have hE := ((((Env.start w).fv ha).fv hb).blk 29 (qf4 sa Aa na ca ta Ba ma da) (g := w.heap.size) rfl).blk 29 (qf4 sb Ab nb cb tb Bb mb db) (g := w.heap.size + 1) (by simp);have hE := hE.blk 29 qz4 (g := w.heap.size + 1 + 1) (by simp)
 obtain ⟨W0, hW0⟩ : ∃ W0, W0 = (((w.alloc (.cells (qf4 sa Aa na ca ta Ba ma da) 29)).alloc (.cells (qf4 sb Ab nb cb tb Bb mb db) 29)).alloc (.cells qz4 29)) := ⟨_, rfl⟩
 rw [← hW0] at hE;have HW0 := Lib.hid hW0;clear hW0
 go_enter Tryz.func110, Tryz.ntmps110
 go_upto_region 1 with (fail)
 rw [← HW0.out];obtain ⟨k1, k2, k3, k4⟩ := (hE.h2).c4;obtain ⟨k5, k6, k7, k8⟩ := (hE.here.1.2).c4;go_wp2_with fail
 refine hE.fr (fmul_v (ca := ca) (da := da) (cb := cb) (db := db) hE.h4 hE.h3 la lb lr) ?_;clear hE k1 k2 k3 k4 k5 k6 k7 k8;intro sr Ar nr cr tr Br mr dr w9 hE
 go_upto_region 2 with (fail)
 obtain ⟨g10, hg10⟩ : ∃ g10, g10 = w9.heap.size := ⟨_, rfl⟩
 have hl10_2 : w.heap.size < g10 := by rw [hg10]; exact (hE.h3).lt
 have hl10_3 : w.heap.size + 1 < g10 := by rw [hg10]; exact (hE.h2).lt
 have hl10_4 : w.heap.size + 1 + 1 < g10 := by rw [hg10]; exact (hE.here.1.2).lt
 replace hE := hE.blk 29 (qf4 sr Ar nr cr tr Br mr dr) (g := g10) hg10.symm;generalize w9.alloc (.cells (qf4 sr Ar nr cr tr Br mr dr) 29) = W10 at hE ⊢;rw [← hg10];clear hg10;obtain ⟨k11, k12, k13, k14⟩ := (hE.here.2).c4
 have hRl : w.heap.size ≤ w.heap.size + 1 + 1 := by omega
 obtain ⟨WW, hWW, hB, hV, hBel⟩ := ret_frac hE hE.h2 hRl hE.here.1.2 cr dr;obtain ⟨x0, x1, x2, x3⟩ := (hE.h2).c4;obtain ⟨fz0, fz1, fz2, fz3⟩ := hE.h2.f4;have HWW := Lib.hid hWW;clear hWW;go_wp2_with fail
 clear k11 k12 k13 k14;rw [← HWW.out];obtain ⟨y0, y1, y2, y3⟩ := hB.c4;refine bodyPost_ret (v := .agg (qf4 sr Ar nr cr tr Br mr dr)) (by simp [results, Tryz.results110, go_sem, y0, y1, y2, y3]) rfl ?_;exact ⟨sr, Ar, nr, cr, tr, Br, mr, dr, rfl, hV, hBel⟩
theorem vover_v {a b : Rat} {sa ta sb tb : Bool} {Aa Ba Ab Bb : Option Addr} {na ca ma da nb cb mb db : Nat} {w : World} (ha : FV w a sa Aa na ta Ba ma) (hb : FV w b sb Ab nb tb Bb mb) (la : fl a ≤ 256) (lb : fl b ≤ 256) (h0 : b.num ≠ 0) (lr : fl (a / b) ≤ 256) :
  Calls Tryz.prog 67 #[.agg (qf4 sa Aa na ca ta Ba ma da), .agg (qf4 sb Ab nb cb tb Bb mb db)] w (FR (a / b) w) := by
 have hE := ((((Env.start w).fv ha).fv hb).blk 29 (qf4 sa Aa na ca ta Ba ma da) (g := w.heap.size) rfl).blk 29 (qf4 sb Ab nb cb tb Bb mb db) (g := w.heap.size + 1) (by simp);have hE := hE.blk 29 qz4 (g := w.heap.size + 1 + 1) (by simp)
 obtain ⟨W0, hW0⟩ : ∃ W0, W0 = (((w.alloc (.cells (qf4 sa Aa na ca ta Ba ma da) 29)).alloc (.cells (qf4 sb Ab nb cb tb Bb mb db) 29)).alloc (.cells qz4 29)) := ⟨_, rfl⟩
 rw [← hW0] at hE;have HW0 := Lib.hid hW0;clear hW0
 go_enter Tryz.func67, Tryz.ntmps67
 go_upto_region 1 with (fail)
 rw [← HW0.out];obtain ⟨k1, k2, k3, k4⟩ := (hE.h2).c4;obtain ⟨k5, k6, k7, k8⟩ := (hE.here.1.2).c4;go_wp2_with fail
 refine hE.fr (fdiv_v (ca := ca) (da := da) (cb := cb) (db := db) hE.h4 hE.h3 la lb h0 lr) ?_;clear hE k1 k2 k3 k4 k5 k6 k7 k8;intro sr Ar nr cr tr Br mr dr w9 hE
 go_upto_region 2 with (fail)
 obtain ⟨g10, hg10⟩ : ∃ g10, g10 = w9.heap.size := ⟨_, rfl⟩
 have hl10_2 : w.heap.size < g10 := by rw [hg10]; exact (hE.h3).lt
 have hl10_3 : w.heap.size + 1 < g10 := by rw [hg10]; exact (hE.h2).lt
 have hl10_4 : w.heap.size + 1 + 1 < g10 := by rw [hg10]; exact (hE.here.1.2).lt
 replace hE := hE.blk 29 (qf4 sr Ar nr cr tr Br mr dr) (g := g10) hg10.symm;generalize w9.alloc (.cells (qf4 sr Ar nr cr tr Br mr dr) 29) = W10 at hE ⊢;rw [← hg10];clear hg10;obtain ⟨k11, k12, k13, k14⟩ := (hE.here.2).c4
 have hRl : w.heap.size ≤ w.heap.size + 1 + 1 := by omega
 obtain ⟨WW, hWW, hB, hV, hBel⟩ := ret_frac hE hE.h2 hRl hE.here.1.2 cr dr;obtain ⟨x0, x1, x2, x3⟩ := (hE.h2).c4;obtain ⟨fz0, fz1, fz2, fz3⟩ := hE.h2.f4;have HWW := Lib.hid hWW;clear hWW;go_wp2_with fail
 clear k11 k12 k13 k14;rw [← HWW.out];obtain ⟨y0, y1, y2, y3⟩ := hB.c4;refine bodyPost_ret (v := .agg (qf4 sr Ar nr cr tr Br mr dr)) (by simp [results, Tryz.results67, go_sem, y0, y1, y2, y3]) rfl ?_;exact ⟨sr, Ar, nr, cr, tr, Br, mr, dr, rfl, hV, hBel⟩
end
end Go.Proofs.YtclbiihcbfnjmaaGreat
