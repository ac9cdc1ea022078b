/-
  The walks of commute's sums and sumsOfSums.
-/
import Derived.Test.YtclbiihcbfnjmaaGreatK2
import Derived.Test.YtclbiihcbfnjmaaGreatK8
import Derived.Test.YtclbiihcbfnjmaaGreatK19
set_option linter.unusedSimpArgs false
set_option maxRecDepth 100000
set_option maxHeartbeats 8000000
namespace Go.Proofs.YtclbiihcbfnjmaaGreat
open Go.RowKit

theorem Blk.kept {u V : World} {R g : Nat} {t : TypeId} {cs : Array Value} (h : Blk t g cs u) (hk : Kept u R V) (hne : g ≠ R) : Blk t g cs V := (hk.block g h.lt (fun e => hne (Option.some.inj e))).trans h
theorem ColV.mono {b0 b1 : Nat} {v : Value} {n : Nat} {h : Nat → Nat → Q8} {W : World} (hv : ColV b0 v n h W) (hb : b1 ≤ b0) : ColV b1 v n h W := by
 rcases hv with e | ⟨g, cap, e, hg, hB⟩
 · exact .inl e
 · exact .inr ⟨g, cap, e, Nat.le_trans hb hg, hB⟩
theorem ColP.setc {W : World} {g n cap R : Nat} {P : Nat → Nat → Nat → Value} (h : ColP g n cap P W) (hR : g ≠ R) (a b c d : Value) : ColP g n cap P ((((W.setCell ⟨R, 0, none⟩ a).setCell ⟨R, 1, none⟩ b).setCell ⟨R, 2, none⟩ c).setCell ⟨R, 3, none⟩ d) :=
 (((h.far (p := ⟨R, 0, none⟩) hR a).far (p := ⟨R, 1, none⟩) hR b).far (p := ⟨R, 2, none⟩) hR c).far (p := ⟨R, 3, none⟩) hR d
theorem ColB.at2 {W : World} {g n cap o k j i : Nat} {h : Nat → Nat → Q8} {v : Value} (hB : ColB g n cap h W) (hk : k < n) (hj : j < 6) (hi : i < 4) (ho : o = k * 24 + (j * 4 + i)) (hv : (h k j).cell i = v) : W.cell? ⟨g, o, none⟩ = some v := by
 subst ho hv
 exact ColP.at_ hB hk hj hi
theorem At.to {W : World} {g o o' : Nat} {v : Value} (h : At g o v W) (e : o' = o) : At g o' v W := by subst e; exact h
theorem set4_eq (W : World) (g o k : Nat) (x : Q8) (e : k = o) : (((W.setCell ⟨g, o, none⟩ (.bool x.s)).setCell ⟨g, o + 1, none⟩ (.slice x.A x.n x.c)).setCell ⟨g, o + 2, none⟩ (.bool x.t)).setCell ⟨g, o + 3, none⟩ (.slice x.B x.m x.d) = set4 W g k x := by subst e; rfl
theorem Kept.setc {u W : World} {R o : Nat} (h : Kept u R W) (x : Q8) : Kept u R (Go.Proofs.YtclbiihcbfnjmaaGreat.set4 W R o x) := (((h.set (.inr rfl) _ _).set (.inr rfl) _ _).set (.inr rfl) _ _).set (.inr rfl) _ _

theorem csums_v {F S E Y : Int} {A : Option Addr} {n c : Nat} {si ti : Bool} {Ai Bi : Option Addr} {ni ci mi di : Nat} {v : Rat} {f : Nat → Rat} {N g cap Bp : Nat} {h : Nat → Nat → Q8} {w u : World} (hbu : Below w.heap.size w u) (hv : Dis v) (hf : Rts f N) (h80 : N ≤ 80) (hN0 : 0 < N) (hBw : w.heap.size ≤ Bp) (hgw : w.heap.size ≤ g) (hBp : Blk 133 Bp #[.int .i64 F, .int .i64 S, .slice A n c, .bool si, .slice Ai ni ci, .bool ti, .slice Bi mi di, .int .i64 E, .int .i64 Y, .slice (some ⟨g, 0, none⟩) N cap] u) (hC : ColB g N cap h u) (hQ : ColQ h N (fun _ j => j = 0 ∨ j = 3) (colq v f N) u) :
  Calls Tryz.prog 58 #[.pointer (some ⟨Bp, 0, none⟩)] u (fun e u' => (∃ x, e = .returned x) ∧ ∃ h', ColB g N cap h' u' ∧ ColQ h' N (fun _ j => j = 0 ∨ j = 3 ∨ j = 1 ∨ j = 4) (colq v f N) u' ∧ Kept u g u' ∧ Below w.heap.size w u') := by
 have hMp : 0 < N * 1 := by omega
 have hMl : N * 1 < b16 := Nat.lt_of_le_of_lt (show N * 1 ≤ 80 by omega) (by decide)
 have hb100 : 3 * N + 3 ≤ 255 := by omega
 have hl1 : ∀ k, k ≤ N → fl (sf (dd v f) N k) ≤ 256 := fun k hk => (nn_ql hv hf hk).l hMp hMl (by omega)
 have hl2 : ∀ k, k ≤ N → fl (sf (cc v f) N k) ≤ 256 := fun k hk => (mm_ql hv hf hk).l hMp hMl (by omega)
 have hd1 : ∀ k, k < N → fl ((dd v f) k) ≤ 256 := fun k hk => (dd_ql hv hf (Nat.le_of_lt hk)).l (by decide) (by decide) (by omega)
 have hd2 : ∀ k, k < N → fl ((cc v f) k) ≤ 256 := fun k hk => (cc_ql hv hf hk).l (by decide) (by decide) (by omega)
 have Hhl1 := Lib.hid hl1
 clear hl1
 have Hhl2 := Lib.hid hl2
 clear hl2
 have Hhd1 := Lib.hid hd1
 clear hd1
 have Hhd2 := Lib.hid hd2
 clear hd2
 have Hhv := Lib.hid hv
 clear hv
 have Hhf := Lib.hid hf
 clear hf
 have Hhb100 := Lib.hid hb100
 clear hb100
 have hgu : g < u.heap.size := ColP.lt hC
 have hgB : Bp ≠ g := hBp.ne_col hC (by decide)
 have hE := ((((Env.again hbu).blkI hBp).kept (Kept.refl u g)).colp hC).colq hQ
 clear hBp hC hQ
 have hws : w.heap.size ≤ u.heap.size := hbu.size
 go_enter Tryz.func58, Tryz.ntmps58
 go_upto_region 0 with (fail)
 go_wp2_with fail
 have hc := ffromInt_v 0 u (by decide) (by decide)
 rw [show (((0 : Int) : Rat)) = sf (dd v f) N N from (sf_end _ (Nat.le_refl _)).symm] at hc
 refine hE.fr (hc) ?_
 clear hE
 intro sx Ax nx cx tx Bx mx dx w1 hE
 clear hc
 go_wp2_with fail
 have hc := ffromInt_v 0 w1 (by decide) (by decide)
 rw [show (((0 : Int) : Rat)) = sf (cc v f) N N from (sf_end _ (Nat.le_refl _)).symm] at hc
 refine hE.fr (hc) ?_
 clear hE
 intro sy Ay ny cy ty By my dy w2 hE
 clear hc
 go_upto_region 1 with (fail)
 obtain ⟨g3, hg3⟩ : ∃ g3, g3 = w2.heap.size := ⟨_, rfl⟩
 have hl3_0 : Bp < g3 := by rw [hg3]; exact (hE.h5).lt
 have hu3 : u.heap.size ≤ g3 := by rw [hg3]; exact (hE.h4).size
 replace hE := hE.blk 29 #[.bool sx, .slice Ax nx cx, .bool tx, .slice Bx mx dx] (g := g3) hg3.symm
 have hsz : (w2.alloc (.cells #[.bool sx, .slice Ax nx cx, .bool tx, .slice Bx mx dx] 29)).heap.size = g3 + 1 := by rw [hg3, World.size_alloc]
 generalize w2.alloc (.cells #[.bool sx, .slice Ax nx cx, .bool tx, .slice Bx mx dx] 29) = W3 at hE hsz ⊢
 obtain ⟨g4, hg4⟩ : ∃ g4, g4 = g3 + 1 := ⟨_, rfl⟩
 have hl4_x : g3 < g4 := by omega
 replace hE := hE.blk 29 #[.bool sy, .slice Ay ny cy, .bool ty, .slice By my dy] (g := g4) (hsz.trans hg4.symm)
 generalize W3.alloc (.cells #[.bool sy, .slice Ay ny cy, .bool ty, .slice By my dy] 29) = W4 at hE ⊢
 rw [← hg3, ← hg4]
 clear hsz hg4 hg3
 obtain ⟨k5, k6, k7, k8, k9, k10, k11, k12, k13, k14⟩ := (hE.h7).c10
 go_wp2_with fail
 clear k5 k6 k7 k8 k9 k10 k11 k12 k13 k14
 go_loopw [4] (fun x wr => ∃ (z : Int) (k : Nat) (h : Nat → Nat → Q8) (sx : Bool) (Ax : Option Addr) (nx cx : Nat) (tx : Bool) (Bx : Option Addr) (mx dx : Nat) (sy : Bool) (Ay : Option Addr) (ny cy : Nat) (ty : Bool) (By : Option Addr) (my dy : Nat), x = .int .i64 z ∧ z + 1 = (k : Int) ∧ k ≤ N ∧ Env w (fun V => ((((((((True ∧ Blk 133 (Bp) #[.int .i64 F, .int .i64 S, .slice A n c, .bool si, .slice Ai ni ci, .bool ti, .slice Bi mi di, .int .i64 E, .int .i64 Y, .slice (some ⟨g, 0, none⟩) N cap] V) ∧ Kept u g V) ∧ ColB g N cap h V) ∧ ColQ h N (fun k' j => j = 0 ∨ j = 3 ∨ ((j = 1 ∨ j = 4) ∧ k ≤ k')) (colq v f N) V) ∧ FV V (sf (dd v f) N k) sx Ax nx tx Bx mx) ∧ FV V (sf (cc v f) N k) sy Ay ny ty By my) ∧ Blk 29 (g3) #[.bool sx, .slice Ax nx cx, .bool tx, .slice Bx mx dx] V) ∧ Blk 29 (g4) #[.bool sy, .slice Ay ny cy, .bool ty, .slice By my dy] V)) wr) (fun x _ => (intOf x + 1).toNat)
 case atStart =>
  exact ⟨(N : Int) - 1, N, h, _, _, _, _, _, _, _, _, _, _, _, _, _, _, _, _, rfl, by omega, Nat.le_refl _, (((((((((Env.again hE.bel).blkI (hE.h7)).kept (hE.h6)).colp (hE.h5)).colq (ColQ.sub (hE.h4) (fun k hk j _ hj => by (try dsimp only at hj ⊢); omega))).fv (hE.h3)).fv (hE.h2)).blkI (hE.here.1.2)).blkI (hE.here.2))⟩
 case round =>
  clear hE
  obtain ⟨z, k, h, sx, Ax, nx, cx, tx, Bx, mx, dx, sy, Ay, ny, cy, ty, By, my, dy, rfl, hz, hk, hE⟩ := hrel
  cases k with
  | zero =>
   obtain rfl : z = -1 := by omega
   go_wp2_with fail
   go_end0
   exact ⟨⟨_, rfl⟩, h, hE.h5, ColQ.sub (hE.h4) (fun k hk j _ hj => by (try dsimp only at hj ⊢); omega), hE.h6, hE.bel⟩
  | succ i =>
   obtain rfl : z = (i : Int) := by omega
   have hiN : i < N := by omega
   have t1 : decide ((0 : Int) ≤ (i : Int)) = true := decide_eq_true (by omega)
   have t2 : (0 : Int) ≤ (i : Int) := by omega
   have t3 : (i : Int) < (N : Int) := by omega
   obtain ⟨k15, k16, k17, k18, k19, k20, k21, k22, k23, k24⟩ := (hE.h7).c10
   go_upto_region 5 with (fail)
   clear k15 k16 k17 k18 k19 k20 k21 k22 k23 k24
   clear t1 t2 t3
   have hgw2 : g < wr.heap.size := ColP.lt hE.h5
   obtain ⟨sa, Aa, na, ca, ta, Ba, ma, da, hxa⟩ : ∃ s A n c t B m d, h i 0 = Q8.mk s A n c t B m d := ⟨_, _, _, _, _, _, _, _, rfl⟩
   have hfa : FV wr ((dd v f) i) sa Aa na ta Ba ma := by have := (hE.h4) i hiN 0 (by decide) (by simp); rw [hxa] at this; exact this
   have hca0 : At g (i * 24 + (0 * 4 + 0)) (.bool sa) wr := ⟨hgw2, by have := (hE.h5).at_ hiN (show 0 < 6 by decide) (show 0 < 4 by decide); rw [hxa] at this; exact this⟩
   have hca1 : At g (i * 24 + (0 * 4 + 1)) (.slice Aa na ca) wr := ⟨hgw2, by have := (hE.h5).at_ hiN (show 0 < 6 by decide) (show 1 < 4 by decide); rw [hxa] at this; exact this⟩
   have hca2 : At g (i * 24 + (0 * 4 + 2)) (.bool ta) wr := ⟨hgw2, by have := (hE.h5).at_ hiN (show 0 < 6 by decide) (show 2 < 4 by decide); rw [hxa] at this; exact this⟩
   have hca3 : At g (i * 24 + (0 * 4 + 3)) (.slice Ba ma da) wr := ⟨hgw2, by have := (hE.h5).at_ hiN (show 0 < 6 by decide) (show 3 < 4 by decide); rw [hxa] at this; exact this⟩
   replace hE := hE.fv hfa
   clear hfa
   replace hE := hE.atI (hca0.to (show i * 24 = i * 24 + (0 * 4 + 0) by omega))
   clear hca0
   replace hE := hE.atI (hca1.to (show i * 24 + 1 = i * 24 + (0 * 4 + 1) by omega))
   clear hca1
   replace hE := hE.atI (hca2.to (show i * 24 + 2 = i * 24 + (0 * 4 + 2) by omega))
   clear hca2
   replace hE := hE.atI (hca3.to (show i * 24 + 3 = i * 24 + (0 * 4 + 3) by omega))
   clear hca3
   clear hxa
   obtain ⟨sb, Ab, nb, cb, tb, Bb, mb, db, hxb⟩ : ∃ s A n c t B m d, h i 3 = Q8.mk s A n c t B m d := ⟨_, _, _, _, _, _, _, _, rfl⟩
   have hfb : FV wr ((cc v f) i) sb Ab nb tb Bb mb := by have := (hE.h9) i hiN 3 (by decide) (by simp); rw [hxb] at this; exact this
   have hcb0 : At g (i * 24 + (3 * 4 + 0)) (.bool sb) wr := ⟨hgw2, by have := (hE.h10).at_ hiN (show 3 < 6 by decide) (show 0 < 4 by decide); rw [hxb] at this; exact this⟩
   have hcb1 : At g (i * 24 + (3 * 4 + 1)) (.slice Ab nb cb) wr := ⟨hgw2, by have := (hE.h10).at_ hiN (show 3 < 6 by decide) (show 1 < 4 by decide); rw [hxb] at this; exact this⟩
   have hcb2 : At g (i * 24 + (3 * 4 + 2)) (.bool tb) wr := ⟨hgw2, by have := (hE.h10).at_ hiN (show 3 < 6 by decide) (show 2 < 4 by decide); rw [hxb] at this; exact this⟩
   have hcb3 : At g (i * 24 + (3 * 4 + 3)) (.slice Bb mb db) wr := ⟨hgw2, by have := (hE.h10).at_ hiN (show 3 < 6 by decide) (show 3 < 4 by decide); rw [hxb] at this; exact this⟩
   replace hE := hE.fv hfb
   clear hfb
   replace hE := hE.atI (hcb0.to (show i * 24 + 12 = i * 24 + (3 * 4 + 0) by omega))
   clear hcb0
   replace hE := hE.atI (hcb1.to (show i * 24 + 13 = i * 24 + (3 * 4 + 1) by omega))
   replace hE := hE.atI (hcb1.to (show i * 24 + 12 + 1 = i * 24 + (3 * 4 + 1) by omega))
   clear hcb1
   replace hE := hE.atI (hcb2.to (show i * 24 + 14 = i * 24 + (3 * 4 + 2) by omega))
   replace hE := hE.atI (hcb2.to (show i * 24 + 12 + 2 = i * 24 + (3 * 4 + 2) by omega))
   clear hcb2
   replace hE := hE.atI (hcb3.to (show i * 24 + 15 = i * 24 + (3 * 4 + 3) by omega))
   replace hE := hE.atI (hcb3.to (show i * 24 + 12 + 3 = i * 24 + (3 * 4 + 3) by omega))
   clear hcb3
   clear hxb
   have hgu2 : g < g3 := by omega
   have hgu3 : g < g4 := by omega
   go_cut [5] from 24 to 36 (fun p wx => ∃ sz Az nz cz tz Bz mz dz sv Av nv cv tv Bv mv dv, p = .pointer (some ⟨g, i * 24, none⟩) ∧ Env w (fun V => ((((((((True ∧ Blk 133 (Bp) #[.int .i64 F, .int .i64 S, .slice A n c, .bool si, .slice Ai ni ci, .bool ti, .slice Bi mi di, .int .i64 E, .int .i64 Y, .slice (some ⟨g, 0, none⟩) N cap] V) ∧ Kept u g V) ∧ ColB g N cap h V) ∧ ColQ h N (fun k' j => j = 0 ∨ j = 3 ∨ ((j = 1 ∨ j = 4) ∧ (i + 1) ≤ k')) (colq v f N) V) ∧ FV V (sf (dd v f) N i) sz Az nz tz Bz mz) ∧ FV V (sf (cc v f) N i) sv Av nv tv Bv mv) ∧ Blk 29 (g3) #[.bool sz, .slice Az nz cz, .bool tz, .slice Bz mz dz] V) ∧ Blk 29 (g4) #[.bool sv, .slice Av nv cv, .bool tv, .slice Bv mv dv] V)) wx)
   case first =>
    replace hE := hE.drew
    refine wp_region_held_drew (S := fun w' => w'.cell? ⟨g, i * 24, none⟩ = some (.bool sa) ∧ w'.cell? ⟨g, i * 24 + 1, none⟩ = some (.slice Aa na ca) ∧ w'.cell? ⟨g, i * 24 + 2, none⟩ = some (.bool ta) ∧ w'.cell? ⟨g, i * 24 + 3, none⟩ = some (.slice Ba ma da) ∧ w'.cell? ⟨g, i * 24 + 12, none⟩ = some (.bool sb) ∧ w'.cell? ⟨g, i * 24 + 13, none⟩ = some (.slice Ab nb cb) ∧ w'.cell? ⟨g, i * 24 + 12 + 1, none⟩ = some (.slice Ab nb cb) ∧ w'.cell? ⟨g, i * 24 + 14, none⟩ = some (.bool tb) ∧ w'.cell? ⟨g, i * 24 + 12 + 2, none⟩ = some (.bool tb) ∧ w'.cell? ⟨g, i * 24 + 15, none⟩ = some (.slice Bb mb db) ∧ w'.cell? ⟨g, i * 24 + 12 + 3, none⟩ = some (.slice Bb mb db)) (by kernel_rfl) (⟨(hE.h11).2, (hE.h10).2, (hE.h9).2, (hE.h8).2, (hE.h6).2, (hE.h5).2, (hE.h4).2, (hE.h3).2, (hE.h2).2, (hE.here.1.2).2, (hE.here.2).2⟩) (fun hHeld => ?_)
    refine tk 1 ?_
    try simp only [PL]
    refine tk 2 ?_
    try simp only [PL]
    refine tk 3 ?_
    try simp only [PL]
    refine tk 4 ?_
    try simp only [PL]
    refine tk 7 ?_
    try simp only [PL]
    refine tk 8 ?_
    try simp only [PL]
    refine tk 9 ?_
    try simp only [PL]
    refine tk 10 ?_
    try simp only [PL]
    refine wpAnyH_ready (rs := [0, 6]) (by kernel_rfl) (by simp) (AllReadyH.cons rfl (fun K hK => ?_) (AllReadyH.cons rfl (fun K hK => ?_) (AllReadyH.nil)))
    ·
     obtain ⟨k25, k26, k27, k28⟩ := (hE.h14).c4
     go_simp
     clear k25 k26 k27 k28
     refine hK.out _ _ (⟨(hE.h11).2, (hE.h10).2, (hE.h9).2, (hE.h8).2, (hE.h6).2, (hE.h5).2, (hE.h4).2, (hE.h3).2, (hE.h2).2, (hE.here.1.2).2, (hE.here.2).2⟩) (fun hHeld => ?_)
     clear hK K
     try simp only [PL]
     refine wpAnyH_ready (rs := [5, 6]) (by kernel_rfl) (by simp) (AllReadyH.cons rfl (fun K hK => ?_) (AllReadyH.cons rfl (fun K hK => ?_) (AllReadyH.nil)))
     ·
      go_simp
      have hc := cplus_v (ca := cx) (da := dx) (cb := ca) (db := da) hE.h16 hE.h12 (Hhl1.out (i + 1) hiN) (Hhd1.out i hiN) (by rw [← sf_step (dd v f) hiN]; exact Hhl1.out i (by omega))
      rw [← sf_step (dd v f) hiN] at hc
      refine hE.fr (hc) ?_
      clear hE
      intro sz Az nz cz tz Bz mz dz w29 hE
      clear hc
      go_wp2_with fail
      refine hK.out _ _ (⟨(hE.h12).2, (hE.h11).2, (hE.h10).2, (hE.h9).2, (hE.h7).2, (hE.h6).2, (hE.h5).2, (hE.h4).2, (hE.h3).2, (hE.h2).2, (hE.here.1.2).2⟩) (fun hHeld => ?_)
      clear hK K
      try simp only [PL]
      refine r1 6 (fun K hK => ?_)
      obtain ⟨k30, k31, k32, k33⟩ := (hE.h14).c4
      go_simp
      clear k30 k31 k32 k33
      refine hK.out _ _ (⟨(hE.h12).2, (hE.h11).2, (hE.h10).2, (hE.h9).2, (hE.h7).2, (hE.h6).2, (hE.h5).2, (hE.h4).2, (hE.h3).2, (hE.h2).2, (hE.here.1.2).2⟩) (fun hHeld => ?_)
      clear hK K
      try simp only [PL]
      refine r1 11 (fun K hK => ?_)
      go_simp
      have hc := cplus_v (ca := cy) (da := dy) (cb := cb) (db := db) hE.h16 hE.h8 (Hhl2.out (i + 1) hiN) (Hhd2.out i hiN) (by rw [← sf_step (cc v f) hiN]; exact Hhl2.out i (by omega))
      rw [← sf_step (cc v f) hiN] at hc
      refine hE.fr (hc) ?_
      clear hE
      intro sv Av nv cv tv Bv mv dv w34 hE
      clear hc
      go_wp2_with fail
      refine hK.out _ _ (⟨(hE.h13).2, (hE.h12).2, (hE.h11).2, (hE.h10).2, (hE.h8).2, (hE.h7).2, (hE.h6).2, (hE.h5).2, (hE.h4).2, (hE.h3).2, (hE.h2).2⟩) (fun hHeld => ?_)
      clear hK K
      try simp only [PL]
      refine r1 12 (fun K hK => ?_)
      have hgl35 : w.heap.size ≤ g3 := by omega
      obtain ⟨x35_0, x35_1, x35_2, x35_3⟩ := (hE.h16).c4
      obtain ⟨f35_0, f35_1, f35_2, f35_3⟩ := hE.h16.f4
      replace hE := ((((((((((((((((((((((((Env.again (bel4 hE.bel hgl35 (.bool sz) (.slice Az nz cz) (.bool tz) (.slice Bz mz dz))).blkI ((hE.h22).far4 (by omega) _ _ _ _)).kept ((hE.h21).set4 (by first | exact .inr rfl | exact .inl (by omega)) _ _ _ _)).colp ((hE.h20).setc (by omega) _ _ _ _)).colq ((hE.h19).sep4 (hE.h16) rfl _ _ _ _ rfl rfl rfl)).fv ((hE.h18).sep4 hE.h16 rfl _ _ _ _ rfl rfl rfl)).fv ((hE.h17).sep4 hE.h16 rfl _ _ _ _ rfl rfl rfl)).blkI ((hE.h16).s4 _ _ _ _)).blkI ((hE.h15).far4 (by omega) _ _ _ _)).fv ((hE.h14).sep4 hE.h16 rfl _ _ _ _ rfl rfl rfl)).atI ((hE.h13).far4 (by first | omega | exact At.apart (hE.h13) (hE.h16) rfl) _ _ _ _)).atI ((hE.h12).far4 (by first | omega | exact At.apart (hE.h12) (hE.h16) rfl) _ _ _ _)).atI ((hE.h11).far4 (by first | omega | exact At.apart (hE.h11) (hE.h16) rfl) _ _ _ _)).atI ((hE.h10).far4 (by first | omega | exact At.apart (hE.h10) (hE.h16) rfl) _ _ _ _)).fv ((hE.h9).sep4 hE.h16 rfl _ _ _ _ rfl rfl rfl)).atI ((hE.h8).far4 (by first | omega | exact At.apart (hE.h8) (hE.h16) rfl) _ _ _ _)).atI ((hE.h7).far4 (by first | omega | exact At.apart (hE.h7) (hE.h16) rfl) _ _ _ _)).atI ((hE.h6).far4 (by first | omega | exact At.apart (hE.h6) (hE.h16) rfl) _ _ _ _)).atI ((hE.h5).far4 (by first | omega | exact At.apart (hE.h5) (hE.h16) rfl) _ _ _ _)).atI ((hE.h4).far4 (by first | omega | exact At.apart (hE.h4) (hE.h16) rfl) _ _ _ _)).atI ((hE.h3).far4 (by first | omega | exact At.apart (hE.h3) (hE.h16) rfl) _ _ _ _)).atI ((hE.h2).far4 (by first | omega | exact At.apart (hE.h2) (hE.h16) rfl) _ _ _ _)).fv ((hE.here.1.2).sep4 hE.h16 rfl _ _ _ _ rfl rfl rfl)).fv ((hE.here.2).sep4 hE.h16 rfl _ _ _ _ rfl rfl rfl))
      go_simp
      clear x35_0 x35_1 x35_2 x35_3 f35_0 f35_1 f35_2 f35_3 hgl35
      generalize ((((w34.setCell ⟨g3, 0, none⟩ (.bool sz)).setCell ⟨g3, 1, none⟩ (.slice Az nz cz)).setCell ⟨g3, 2, none⟩ (.bool tz)).setCell ⟨g3, 3, none⟩ (.slice Bz mz dz)) = W35 at hE ⊢
      refine hK.out _ _ (⟨(hE.h13).2, (hE.h12).2, (hE.h11).2, (hE.h10).2, (hE.h8).2, (hE.h7).2, (hE.h6).2, (hE.h5).2, (hE.h4).2, (hE.h3).2, (hE.h2).2⟩) (fun hHeld => ?_)
      clear hK K
      try simp only [PL]
      refine r1 13 (fun K hK => ?_)
      have hgl36 : w.heap.size ≤ g4 := by omega
      obtain ⟨x36_0, x36_1, x36_2, x36_3⟩ := (hE.h15).c4
      obtain ⟨f36_0, f36_1, f36_2, f36_3⟩ := hE.h15.f4
      replace hE := ((((((((((((((((((((((((Env.again (bel4 hE.bel hgl36 (.bool sv) (.slice Av nv cv) (.bool tv) (.slice Bv mv dv))).blkI ((hE.h22).far4 (by omega) _ _ _ _)).kept ((hE.h21).set4 (by first | exact .inr rfl | exact .inl (by omega)) _ _ _ _)).colp ((hE.h20).setc (by omega) _ _ _ _)).colq ((hE.h19).sep4 (hE.h15) rfl _ _ _ _ rfl rfl rfl)).fv ((hE.h18).sep4 hE.h15 rfl _ _ _ _ rfl rfl rfl)).fv ((hE.h17).sep4 hE.h15 rfl _ _ _ _ rfl rfl rfl)).blkI ((hE.h16).far4 (by omega) _ _ _ _)).blkI ((hE.h15).s4 _ _ _ _)).fv ((hE.h14).sep4 hE.h15 rfl _ _ _ _ rfl rfl rfl)).atI ((hE.h13).far4 (by first | omega | exact At.apart (hE.h13) (hE.h15) rfl) _ _ _ _)).atI ((hE.h12).far4 (by first | omega | exact At.apart (hE.h12) (hE.h15) rfl) _ _ _ _)).atI ((hE.h11).far4 (by first | omega | exact At.apart (hE.h11) (hE.h15) rfl) _ _ _ _)).atI ((hE.h10).far4 (by first | omega | exact At.apart (hE.h10) (hE.h15) rfl) _ _ _ _)).fv ((hE.h9).sep4 hE.h15 rfl _ _ _ _ rfl rfl rfl)).atI ((hE.h8).far4 (by first | omega | exact At.apart (hE.h8) (hE.h15) rfl) _ _ _ _)).atI ((hE.h7).far4 (by first | omega | exact At.apart (hE.h7) (hE.h15) rfl) _ _ _ _)).atI ((hE.h6).far4 (by first | omega | exact At.apart (hE.h6) (hE.h15) rfl) _ _ _ _)).atI ((hE.h5).far4 (by first | omega | exact At.apart (hE.h5) (hE.h15) rfl) _ _ _ _)).atI ((hE.h4).far4 (by first | omega | exact At.apart (hE.h4) (hE.h15) rfl) _ _ _ _)).atI ((hE.h3).far4 (by first | omega | exact At.apart (hE.h3) (hE.h15) rfl) _ _ _ _)).atI ((hE.h2).far4 (by first | omega | exact At.apart (hE.h2) (hE.h15) rfl) _ _ _ _)).fv ((hE.here.1.2).sep4 hE.h15 rfl _ _ _ _ rfl rfl rfl)).fv ((hE.here.2).sep4 hE.h15 rfl _ _ _ _ rfl rfl rfl))
      go_simp
      clear x36_0 x36_1 x36_2 x36_3 f36_0 f36_1 f36_2 f36_3 hgl36
      generalize ((((W35.setCell ⟨g4, 0, none⟩ (.bool sv)).setCell ⟨g4, 1, none⟩ (.slice Av nv cv)).setCell ⟨g4, 2, none⟩ (.bool tv)).setCell ⟨g4, 3, none⟩ (.slice Bv mv dv)) = W36 at hE ⊢
      refine hK.out _ _ (⟨(hE.h13).2, (hE.h12).2, (hE.h11).2, (hE.h10).2, (hE.h8).2, (hE.h7).2, (hE.h6).2, (hE.h5).2, (hE.h4).2, (hE.h3).2, (hE.h2).2⟩) (fun hHeld => ?_)
      clear hK K
      try simp only [PL]
      refine wpAnyH_done (by kernel_rfl) ?_ _
      go_wp2_with fail
      go_meet
      exact ⟨sz, Az, nz, cz, tz, Bz, mz, dz, sv, Av, nv, cv, tv, Bv, mv, dv, rfl, (((((((((Env.again hE.bel).blkI (hE.h22)).kept (hE.h21)).colp (hE.h20)).colq (hE.h19)).fv (hE.here.1.2)).fv (hE.here.2)).blkI (hE.h16)).blkI (hE.h15))⟩
     ·
      obtain ⟨k37, k38, k39, k40⟩ := (hE.h13).c4
      go_simp
      clear k37 k38 k39 k40
      refine hK.out _ _ (⟨(hE.h11).2, (hE.h10).2, (hE.h9).2, (hE.h8).2, (hE.h6).2, (hE.h5).2, (hE.h4).2, (hE.h3).2, (hE.h2).2, (hE.here.1.2).2, (hE.here.2).2⟩) (fun hHeld => ?_)
      clear hK K
      try simp only [PL]
      refine r1 5 (fun K hK => ?_)
      go_simp
      have hc := cplus_v (ca := cx) (da := dx) (cb := ca) (db := da) hE.h16 hE.h12 (Hhl1.out (i + 1) hiN) (Hhd1.out i hiN) (by rw [← sf_step (dd v f) hiN]; exact Hhl1.out i (by omega))
      rw [← sf_step (dd v f) hiN] at hc
      refine hE.fr (hc) ?_
      clear hE
      intro sz Az nz cz tz Bz mz dz w41 hE
      clear hc
      go_wp2_with fail
      refine hK.out _ _ (⟨(hE.h12).2, (hE.h11).2, (hE.h10).2, (hE.h9).2, (hE.h7).2, (hE.h6).2, (hE.h5).2, (hE.h4).2, (hE.h3).2, (hE.h2).2, (hE.here.1.2).2⟩) (fun hHeld => ?_)
      clear hK K
      try simp only [PL]
      refine r1 11 (fun K hK => ?_)
      go_simp
      have hc := cplus_v (ca := cy) (da := dy) (cb := cb) (db := db) hE.h16 hE.h8 (Hhl2.out (i + 1) hiN) (Hhd2.out i hiN) (by rw [← sf_step (cc v f) hiN]; exact Hhl2.out i (by omega))
      rw [← sf_step (cc v f) hiN] at hc
      refine hE.fr (hc) ?_
      clear hE
      intro sv Av nv cv tv Bv mv dv w42 hE
      clear hc
      go_wp2_with fail
      refine hK.out _ _ (⟨(hE.h13).2, (hE.h12).2, (hE.h11).2, (hE.h10).2, (hE.h8).2, (hE.h7).2, (hE.h6).2, (hE.h5).2, (hE.h4).2, (hE.h3).2, (hE.h2).2⟩) (fun hHeld => ?_)
      clear hK K
      try simp only [PL]
      refine r1 12 (fun K hK => ?_)
      have hgl43 : w.heap.size ≤ g3 := by omega
      obtain ⟨x43_0, x43_1, x43_2, x43_3⟩ := (hE.h16).c4
      obtain ⟨f43_0, f43_1, f43_2, f43_3⟩ := hE.h16.f4
      replace hE := ((((((((((((((((((((((((Env.again (bel4 hE.bel hgl43 (.bool sz) (.slice Az nz cz) (.bool tz) (.slice Bz mz dz))).blkI ((hE.h22).far4 (by omega) _ _ _ _)).kept ((hE.h21).set4 (by first | exact .inr rfl | exact .inl (by omega)) _ _ _ _)).colp ((hE.h20).setc (by omega) _ _ _ _)).colq ((hE.h19).sep4 (hE.h16) rfl _ _ _ _ rfl rfl rfl)).fv ((hE.h18).sep4 hE.h16 rfl _ _ _ _ rfl rfl rfl)).fv ((hE.h17).sep4 hE.h16 rfl _ _ _ _ rfl rfl rfl)).blkI ((hE.h16).s4 _ _ _ _)).blkI ((hE.h15).far4 (by omega) _ _ _ _)).fv ((hE.h14).sep4 hE.h16 rfl _ _ _ _ rfl rfl rfl)).atI ((hE.h13).far4 (by first | omega | exact At.apart (hE.h13) (hE.h16) rfl) _ _ _ _)).atI ((hE.h12).far4 (by first | omega | exact At.apart (hE.h12) (hE.h16) rfl) _ _ _ _)).atI ((hE.h11).far4 (by first | omega | exact At.apart (hE.h11) (hE.h16) rfl) _ _ _ _)).atI ((hE.h10).far4 (by first | omega | exact At.apart (hE.h10) (hE.h16) rfl) _ _ _ _)).fv ((hE.h9).sep4 hE.h16 rfl _ _ _ _ rfl rfl rfl)).atI ((hE.h8).far4 (by first | omega | exact At.apart (hE.h8) (hE.h16) rfl) _ _ _ _)).atI ((hE.h7).far4 (by first | omega | exact At.apart (hE.h7) (hE.h16) rfl) _ _ _ _)).atI ((hE.h6).far4 (by first | omega | exact At.apart (hE.h6) (hE.h16) rfl) _ _ _ _)).atI ((hE.h5).far4 (by first | omega | exact At.apart (hE.h5) (hE.h16) rfl) _ _ _ _)).atI ((hE.h4).far4 (by first | omega | exact At.apart (hE.h4) (hE.h16) rfl) _ _ _ _)).atI ((hE.h3).far4 (by first | omega | exact At.apart (hE.h3) (hE.h16) rfl) _ _ _ _)).atI ((hE.h2).far4 (by first | omega | exact At.apart (hE.h2) (hE.h16) rfl) _ _ _ _)).fv ((hE.here.1.2).sep4 hE.h16 rfl _ _ _ _ rfl rfl rfl)).fv ((hE.here.2).sep4 hE.h16 rfl _ _ _ _ rfl rfl rfl))
      go_simp
      clear x43_0 x43_1 x43_2 x43_3 f43_0 f43_1 f43_2 f43_3 hgl43
      generalize ((((w42.setCell ⟨g3, 0, none⟩ (.bool sz)).setCell ⟨g3, 1, none⟩ (.slice Az nz cz)).setCell ⟨g3, 2, none⟩ (.bool tz)).setCell ⟨g3, 3, none⟩ (.slice Bz mz dz)) = W43 at hE ⊢
      refine hK.out _ _ (⟨(hE.h13).2, (hE.h12).2, (hE.h11).2, (hE.h10).2, (hE.h8).2, (hE.h7).2, (hE.h6).2, (hE.h5).2, (hE.h4).2, (hE.h3).2, (hE.h2).2⟩) (fun hHeld => ?_)
      clear hK K
      try simp only [PL]
      refine r1 13 (fun K hK => ?_)
      have hgl44 : w.heap.size ≤ g4 := by omega
      obtain ⟨x44_0, x44_1, x44_2, x44_3⟩ := (hE.h15).c4
      obtain ⟨f44_0, f44_1, f44_2, f44_3⟩ := hE.h15.f4
      replace hE := ((((((((((((((((((((((((Env.again (bel4 hE.bel hgl44 (.bool sv) (.slice Av nv cv) (.bool tv) (.slice Bv mv dv))).blkI ((hE.h22).far4 (by omega) _ _ _ _)).kept ((hE.h21).set4 (by first | exact .inr rfl | exact .inl (by omega)) _ _ _ _)).colp ((hE.h20).setc (by omega) _ _ _ _)).colq ((hE.h19).sep4 (hE.h15) rfl _ _ _ _ rfl rfl rfl)).fv ((hE.h18).sep4 hE.h15 rfl _ _ _ _ rfl rfl rfl)).fv ((hE.h17).sep4 hE.h15 rfl _ _ _ _ rfl rfl rfl)).blkI ((hE.h16).far4 (by omega) _ _ _ _)).blkI ((hE.h15).s4 _ _ _ _)).fv ((hE.h14).sep4 hE.h15 rfl _ _ _ _ rfl rfl rfl)).atI ((hE.h13).far4 (by first | omega | exact At.apart (hE.h13) (hE.h15) rfl) _ _ _ _)).atI ((hE.h12).far4 (by first | omega | exact At.apart (hE.h12) (hE.h15) rfl) _ _ _ _)).atI ((hE.h11).far4 (by first | omega | exact At.apart (hE.h11) (hE.h15) rfl) _ _ _ _)).atI ((hE.h10).far4 (by first | omega | exact At.apart (hE.h10) (hE.h15) rfl) _ _ _ _)).fv ((hE.h9).sep4 hE.h15 rfl _ _ _ _ rfl rfl rfl)).atI ((hE.h8).far4 (by first | omega | exact At.apart (hE.h8) (hE.h15) rfl) _ _ _ _)).atI ((hE.h7).far4 (by first | omega | exact At.apart (hE.h7) (hE.h15) rfl) _ _ _ _)).atI ((hE.h6).far4 (by first | omega | exact At.apart (hE.h6) (hE.h15) rfl) _ _ _ _)).atI ((hE.h5).far4 (by first | omega | exact At.apart (hE.h5) (hE.h15) rfl) _ _ _ _)).atI ((hE.h4).far4 (by first | omega | exact At.apart (hE.h4) (hE.h15) rfl) _ _ _ _)).atI ((hE.h3).far4 (by first | omega | exact At.apart (hE.h3) (hE.h15) rfl) _ _ _ _)).atI ((hE.h2).far4 (by first | omega | exact At.apart (hE.h2) (hE.h15) rfl) _ _ _ _)).fv ((hE.here.1.2).sep4 hE.h15 rfl _ _ _ _ rfl rfl rfl)).fv ((hE.here.2).sep4 hE.h15 rfl _ _ _ _ rfl rfl rfl))
      go_simp
      clear x44_0 x44_1 x44_2 x44_3 f44_0 f44_1 f44_2 f44_3 hgl44
      generalize ((((W43.setCell ⟨g4, 0, none⟩ (.bool sv)).setCell ⟨g4, 1, none⟩ (.slice Av nv cv)).setCell ⟨g4, 2, none⟩ (.bool tv)).setCell ⟨g4, 3, none⟩ (.slice Bv mv dv)) = W44 at hE ⊢
      refine hK.out _ _ (⟨(hE.h13).2, (hE.h12).2, (hE.h11).2, (hE.h10).2, (hE.h8).2, (hE.h7).2, (hE.h6).2, (hE.h5).2, (hE.h4).2, (hE.h3).2, (hE.h2).2⟩) (fun hHeld => ?_)
      clear hK K
      try simp only [PL]
      refine wpAnyH_done (by kernel_rfl) ?_ _
      go_wp2_with fail
      go_meet
      exact ⟨sz, Az, nz, cz, tz, Bz, mz, dz, sv, Av, nv, cv, tv, Bv, mv, dv, rfl, (((((((((Env.again hE.bel).blkI (hE.h22)).kept (hE.h21)).colp (hE.h20)).colq (hE.h19)).fv (hE.here.1.2)).fv (hE.here.2)).blkI (hE.h16)).blkI (hE.h15))⟩
    ·
     obtain ⟨k45, k46, k47, k48⟩ := (hE.h13).c4
     go_simp
     clear k45 k46 k47 k48
     refine hK.out _ _ (⟨(hE.h11).2, (hE.h10).2, (hE.h9).2, (hE.h8).2, (hE.h6).2, (hE.h5).2, (hE.h4).2, (hE.h3).2, (hE.h2).2, (hE.here.1.2).2, (hE.here.2).2⟩) (fun hHeld => ?_)
     clear hK K
     try simp only [PL]
     refine r1 0 (fun K hK => ?_)
     obtain ⟨k49, k50, k51, k52⟩ := (hE.h14).c4
     go_simp
     clear k49 k50 k51 k52
     refine hK.out _ _ (⟨(hE.h11).2, (hE.h10).2, (hE.h9).2, (hE.h8).2, (hE.h6).2, (hE.h5).2, (hE.h4).2, (hE.h3).2, (hE.h2).2, (hE.here.1.2).2, (hE.here.2).2⟩) (fun hHeld => ?_)
     clear hK K
     try simp only [PL]
     refine r1 5 (fun K hK => ?_)
     go_simp
     have hc := cplus_v (ca := cx) (da := dx) (cb := ca) (db := da) hE.h16 hE.h12 (Hhl1.out (i + 1) hiN) (Hhd1.out i hiN) (by rw [← sf_step (dd v f) hiN]; exact Hhl1.out i (by omega))
     rw [← sf_step (dd v f) hiN] at hc
     refine hE.fr (hc) ?_
     clear hE
     intro sz Az nz cz tz Bz mz dz w53 hE
     clear hc
     go_wp2_with fail
     refine hK.out _ _ (⟨(hE.h12).2, (hE.h11).2, (hE.h10).2, (hE.h9).2, (hE.h7).2, (hE.h6).2, (hE.h5).2, (hE.h4).2, (hE.h3).2, (hE.h2).2, (hE.here.1.2).2⟩) (fun hHeld => ?_)
     clear hK K
     try simp only [PL]
     refine r1 11 (fun K hK => ?_)
     go_simp
     have hc := cplus_v (ca := cy) (da := dy) (cb := cb) (db := db) hE.h16 hE.h8 (Hhl2.out (i + 1) hiN) (Hhd2.out i hiN) (by rw [← sf_step (cc v f) hiN]; exact Hhl2.out i (by omega))
     rw [← sf_step (cc v f) hiN] at hc
     refine hE.fr (hc) ?_
     clear hE
     intro sv Av nv cv tv Bv mv dv w54 hE
     clear hc
     go_wp2_with fail
     refine hK.out _ _ (⟨(hE.h13).2, (hE.h12).2, (hE.h11).2, (hE.h10).2, (hE.h8).2, (hE.h7).2, (hE.h6).2, (hE.h5).2, (hE.h4).2, (hE.h3).2, (hE.h2).2⟩) (fun hHeld => ?_)
     clear hK K
     try simp only [PL]
     refine r1 12 (fun K hK => ?_)
     have hgl55 : w.heap.size ≤ g3 := by omega
     obtain ⟨x55_0, x55_1, x55_2, x55_3⟩ := (hE.h16).c4
     obtain ⟨f55_0, f55_1, f55_2, f55_3⟩ := hE.h16.f4
     replace hE := ((((((((((((((((((((((((Env.again (bel4 hE.bel hgl55 (.bool sz) (.slice Az nz cz) (.bool tz) (.slice Bz mz dz))).blkI ((hE.h22).far4 (by omega) _ _ _ _)).kept ((hE.h21).set4 (by first | exact .inr rfl | exact .inl (by omega)) _ _ _ _)).colp ((hE.h20).setc (by omega) _ _ _ _)).colq ((hE.h19).sep4 (hE.h16) rfl _ _ _ _ rfl rfl rfl)).fv ((hE.h18).sep4 hE.h16 rfl _ _ _ _ rfl rfl rfl)).fv ((hE.h17).sep4 hE.h16 rfl _ _ _ _ rfl rfl rfl)).blkI ((hE.h16).s4 _ _ _ _)).blkI ((hE.h15).far4 (by omega) _ _ _ _)).fv ((hE.h14).sep4 hE.h16 rfl _ _ _ _ rfl rfl rfl)).atI ((hE.h13).far4 (by first | omega | exact At.apart (hE.h13) (hE.h16) rfl) _ _ _ _)).atI ((hE.h12).far4 (by first | omega | exact At.apart (hE.h12) (hE.h16) rfl) _ _ _ _)).atI ((hE.h11).far4 (by first | omega | exact At.apart (hE.h11) (hE.h16) rfl) _ _ _ _)).atI ((hE.h10).far4 (by first | omega | exact At.apart (hE.h10) (hE.h16) rfl) _ _ _ _)).fv ((hE.h9).sep4 hE.h16 rfl _ _ _ _ rfl rfl rfl)).atI ((hE.h8).far4 (by first | omega | exact At.apart (hE.h8) (hE.h16) rfl) _ _ _ _)).atI ((hE.h7).far4 (by first | omega | exact At.apart (hE.h7) (hE.h16) rfl) _ _ _ _)).atI ((hE.h6).far4 (by first | omega | exact At.apart (hE.h6) (hE.h16) rfl) _ _ _ _)).atI ((hE.h5).far4 (by first | omega | exact At.apart (hE.h5) (hE.h16) rfl) _ _ _ _)).atI ((hE.h4).far4 (by first | omega | exact At.apart (hE.h4) (hE.h16) rfl) _ _ _ _)).atI ((hE.h3).far4 (by first | omega | exact At.apart (hE.h3) (hE.h16) rfl) _ _ _ _)).atI ((hE.h2).far4 (by first | omega | exact At.apart (hE.h2) (hE.h16) rfl) _ _ _ _)).fv ((hE.here.1.2).sep4 hE.h16 rfl _ _ _ _ rfl rfl rfl)).fv ((hE.here.2).sep4 hE.h16 rfl _ _ _ _ rfl rfl rfl))
     go_simp
     clear x55_0 x55_1 x55_2 x55_3 f55_0 f55_1 f55_2 f55_3 hgl55
     generalize ((((w54.setCell ⟨g3, 0, none⟩ (.bool sz)).setCell ⟨g3, 1, none⟩ (.slice Az nz cz)).setCell ⟨g3, 2, none⟩ (.bool tz)).setCell ⟨g3, 3, none⟩ (.slice Bz mz dz)) = W55 at hE ⊢
     refine hK.out _ _ (⟨(hE.h13).2, (hE.h12).2, (hE.h11).2, (hE.h10).2, (hE.h8).2, (hE.h7).2, (hE.h6).2, (hE.h5).2, (hE.h4).2, (hE.h3).2, (hE.h2).2⟩) (fun hHeld => ?_)
     clear hK K
     try simp only [PL]
     refine r1 13 (fun K hK => ?_)
     have hgl56 : w.heap.size ≤ g4 := by omega
     obtain ⟨x56_0, x56_1, x56_2, x56_3⟩ := (hE.h15).c4
     obtain ⟨f56_0, f56_1, f56_2, f56_3⟩ := hE.h15.f4
     replace hE := ((((((((((((((((((((((((Env.again (bel4 hE.bel hgl56 (.bool sv) (.slice Av nv cv) (.bool tv) (.slice Bv mv dv))).blkI ((hE.h22).far4 (by omega) _ _ _ _)).kept ((hE.h21).set4 (by first | exact .inr rfl | exact .inl (by omega)) _ _ _ _)).colp ((hE.h20).setc (by omega) _ _ _ _)).colq ((hE.h19).sep4 (hE.h15) rfl _ _ _ _ rfl rfl rfl)).fv ((hE.h18).sep4 hE.h15 rfl _ _ _ _ rfl rfl rfl)).fv ((hE.h17).sep4 hE.h15 rfl _ _ _ _ rfl rfl rfl)).blkI ((hE.h16).far4 (by omega) _ _ _ _)).blkI ((hE.h15).s4 _ _ _ _)).fv ((hE.h14).sep4 hE.h15 rfl _ _ _ _ rfl rfl rfl)).atI ((hE.h13).far4 (by first | omega | exact At.apart (hE.h13) (hE.h15) rfl) _ _ _ _)).atI ((hE.h12).far4 (by first | omega | exact At.apart (hE.h12) (hE.h15) rfl) _ _ _ _)).atI ((hE.h11).far4 (by first | omega | exact At.apart (hE.h11) (hE.h15) rfl) _ _ _ _)).atI ((hE.h10).far4 (by first | omega | exact At.apart (hE.h10) (hE.h15) rfl) _ _ _ _)).fv ((hE.h9).sep4 hE.h15 rfl _ _ _ _ rfl rfl rfl)).atI ((hE.h8).far4 (by first | omega | exact At.apart (hE.h8) (hE.h15) rfl) _ _ _ _)).atI ((hE.h7).far4 (by first | omega | exact At.apart (hE.h7) (hE.h15) rfl) _ _ _ _)).atI ((hE.h6).far4 (by first | omega | exact At.apart (hE.h6) (hE.h15) rfl) _ _ _ _)).atI ((hE.h5).far4 (by first | omega | exact At.apart (hE.h5) (hE.h15) rfl) _ _ _ _)).atI ((hE.h4).far4 (by first | omega | exact At.apart (hE.h4) (hE.h15) rfl) _ _ _ _)).atI ((hE.h3).far4 (by first | omega | exact At.apart (hE.h3) (hE.h15) rfl) _ _ _ _)).atI ((hE.h2).far4 (by first | omega | exact At.apart (hE.h2) (hE.h15) rfl) _ _ _ _)).fv ((hE.here.1.2).sep4 hE.h15 rfl _ _ _ _ rfl rfl rfl)).fv ((hE.here.2).sep4 hE.h15 rfl _ _ _ _ rfl rfl rfl))
     go_simp
     clear x56_0 x56_1 x56_2 x56_3 f56_0 f56_1 f56_2 f56_3 hgl56
     generalize ((((W55.setCell ⟨g4, 0, none⟩ (.bool sv)).setCell ⟨g4, 1, none⟩ (.slice Av nv cv)).setCell ⟨g4, 2, none⟩ (.bool tv)).setCell ⟨g4, 3, none⟩ (.slice Bv mv dv)) = W56 at hE ⊢
     refine hK.out _ _ (⟨(hE.h13).2, (hE.h12).2, (hE.h11).2, (hE.h10).2, (hE.h8).2, (hE.h7).2, (hE.h6).2, (hE.h5).2, (hE.h4).2, (hE.h3).2, (hE.h2).2⟩) (fun hHeld => ?_)
     clear hK K
     try simp only [PL]
     refine wpAnyH_done (by kernel_rfl) ?_ _
     go_wp2_with fail
     go_meet
     exact ⟨sz, Az, nz, cz, tz, Bz, mz, dz, sv, Av, nv, cv, tv, Bv, mv, dv, rfl, (((((((((Env.again hE.bel).blkI (hE.h22)).kept (hE.h21)).colp (hE.h20)).colq (hE.h19)).fv (hE.here.1.2)).fv (hE.here.2)).blkI (hE.h16)).blkI (hE.h15))⟩
   case rest =>
   clear hE
   obtain ⟨sz, Az, nz, cz, tz, Bz, mz, dz, sv, Av, nv, cv, tv, Bv, mv, dv, rfl, hE⟩ := hcut
   generalize wc = wk5 at hE ⊢
   have o1 : IntKind.i64.wrap ((i : Int) - 1) = (i : Int) - 1 := by rw [IntKind.wrap_i64]; omega
   go_upto_region 6 with (fail)
   replace hE := hE.drew
   refine wp_region_held_drew (S := fun w' => w'.cell? ⟨g3, 0, none⟩ = some (.bool sz) ∧ w'.cell? ⟨g3, 1, none⟩ = some (.slice Az nz cz) ∧ w'.cell? ⟨g3, 2, none⟩ = some (.bool tz) ∧ w'.cell? ⟨g3, 3, none⟩ = some (.slice Bz mz dz) ∧ w'.cell? ⟨g4, 0, none⟩ = some (.bool sv) ∧ w'.cell? ⟨g4, 1, none⟩ = some (.slice Av nv cv) ∧ w'.cell? ⟨g4, 2, none⟩ = some (.bool tv) ∧ w'.cell? ⟨g4, 3, none⟩ = some (.slice Bv mv dv)) (by kernel_rfl) (hE.here.1.2.j4 hE.here.2.c4) (fun hHeld => ?_)
   generalize wk5.drew = wd at *
   refine tk 0 ?_
   try simp only [PL]
   refine tk 1 ?_
   try simp only [PL]
   refine tk 2 ?_
   try simp only [PL]
   refine tk 3 ?_
   try simp only [PL]
   refine tk 4 ?_
   try simp only [PL]
   refine tk 5 ?_
   try simp only [PL]
   refine r1 6 (fun K hK => ?_)
   have hC57 : ColB g N cap h wd := hE.h5
   have hgg57 : w.heap.size ≤ g := hgw
   have x57_0_0 := hC57.at2 (o := i * 24 + 4) (j := 1) (i := 0) hiN (by decide) (by decide) (by omega) rfl
   have f57_0_0 := hC57.frozen (i * 24 + 4)
   have x57_1_0 := hC57.at2 (o := i * 24 + 5) (j := 1) (i := 1) hiN (by decide) (by decide) (by omega) rfl
   have f57_1_0 := hC57.frozen (i * 24 + 5)
   have x57_1_1 := hC57.at2 (o := i * 24 + 4 + 1) (j := 1) (i := 1) hiN (by decide) (by decide) (by omega) rfl
   have f57_1_1 := hC57.frozen (i * 24 + 4 + 1)
   have x57_2_0 := hC57.at2 (o := i * 24 + 6) (j := 1) (i := 2) hiN (by decide) (by decide) (by omega) rfl
   have f57_2_0 := hC57.frozen (i * 24 + 6)
   have x57_2_1 := hC57.at2 (o := i * 24 + 4 + 2) (j := 1) (i := 2) hiN (by decide) (by decide) (by omega) rfl
   have f57_2_1 := hC57.frozen (i * 24 + 4 + 2)
   have x57_3_0 := hC57.at2 (o := i * 24 + 7) (j := 1) (i := 3) hiN (by decide) (by decide) (by omega) rfl
   have f57_3_0 := hC57.frozen (i * 24 + 7)
   have x57_3_1 := hC57.at2 (o := i * 24 + 4 + 3) (j := 1) (i := 3) hiN (by decide) (by decide) (by omega) rfl
   have f57_3_1 := hC57.frozen (i * 24 + 4 + 3)
   replace hE := (((((((((Env.again (Go.Proofs.YtclbiihcbfnjmaaGreat.Below.set4 hE.bel hgg57 (i * 24 + 1 * 4) ⟨sz, Az, nz, cz, tz, Bz, mz, dz⟩)).blkI ((hE.h7).set4 (by omega) _ _)).kept ((hE.h6).setc _)).colp (hC57.set hiN (show 1 < 6 by decide) ⟨sz, Az, nz, cz, tz, Bz, mz, dz⟩)).colq (ColQ.set (x := ⟨sz, Az, nz, cz, tz, Bz, mz, dz⟩) (k := i) (j := 1) (hE.h4.to fun hf => hf.set4 hC57 hiN (show 1 < 6 by decide) ⟨sz, Az, nz, cz, tz, Bz, mz, dz⟩) (show Q8.fv ⟨sz, Az, nz, cz, tz, Bz, mz, dz⟩ _ (colq v f N i 1) from (hE.h3).set4 hC57 hiN (show 1 < 6 by decide) ⟨sz, Az, nz, cz, tz, Bz, mz, dz⟩) (fun k' _ j' _ hj => by (try dsimp only at hj ⊢); omega))).fv ((hE.h3).set4 hC57 hiN (show 1 < 6 by decide) ⟨sz, Az, nz, cz, tz, Bz, mz, dz⟩)).fv ((hE.h2).set4 hC57 hiN (show 1 < 6 by decide) ⟨sz, Az, nz, cz, tz, Bz, mz, dz⟩)).blkI ((hE.here.1.2).set4 (by omega) _ _)).blkI ((hE.here.2).set4 (by omega) _ _))
   go_simp
   have hs57 : (((wd.setCell ⟨g, i * 24 + 4, none⟩ (.bool sz)).setCell ⟨g, i * 24 + 4 + 1, none⟩ (.slice Az nz cz)).setCell ⟨g, i * 24 + 4 + 2, none⟩ (.bool tz)).setCell ⟨g, i * 24 + 4 + 3, none⟩ (.slice Bz mz dz) = set4 wd g (i * 24 + 1 * 4) ⟨sz, Az, nz, cz, tz, Bz, mz, dz⟩ := set4_eq _ _ _ _ ⟨sz, Az, nz, cz, tz, Bz, mz, dz⟩ (by omega)
   rw [hs57]
   clear hs57 hC57 x57_0_0 f57_0_0 x57_1_0 f57_1_0 x57_1_1 f57_1_1 x57_2_0 f57_2_0 x57_2_1 f57_2_1 x57_3_0 f57_3_0 x57_3_1 f57_3_1
   generalize set4 wd g (i * 24 + 1 * 4) ⟨sz, Az, nz, cz, tz, Bz, mz, dz⟩ = V57 at hE ⊢
   refine hK.out _ _ (hE.here.1.2.j4 hE.here.2.c4) (fun hHeld => ?_)
   clear hK K
   try simp only [PL]
   refine tk 7 ?_
   try simp only [PL]
   refine tk 8 ?_
   try simp only [PL]
   refine r1 9 (fun K hK => ?_)
   have hC58 : ColB g N cap (upd h i 1 ⟨sz, Az, nz, cz, tz, Bz, mz, dz⟩) V57 := hE.h5
   have hgg58 : w.heap.size ≤ g := hgw
   have x58_0_0 := hC58.at2 (o := i * 24 + 16) (j := 4) (i := 0) hiN (by decide) (by decide) (by omega) rfl
   have f58_0_0 := hC58.frozen (i * 24 + 16)
   have x58_1_0 := hC58.at2 (o := i * 24 + 17) (j := 4) (i := 1) hiN (by decide) (by decide) (by omega) rfl
   have f58_1_0 := hC58.frozen (i * 24 + 17)
   have x58_1_1 := hC58.at2 (o := i * 24 + 16 + 1) (j := 4) (i := 1) hiN (by decide) (by decide) (by omega) rfl
   have f58_1_1 := hC58.frozen (i * 24 + 16 + 1)
   have x58_2_0 := hC58.at2 (o := i * 24 + 18) (j := 4) (i := 2) hiN (by decide) (by decide) (by omega) rfl
   have f58_2_0 := hC58.frozen (i * 24 + 18)
   have x58_2_1 := hC58.at2 (o := i * 24 + 16 + 2) (j := 4) (i := 2) hiN (by decide) (by decide) (by omega) rfl
   have f58_2_1 := hC58.frozen (i * 24 + 16 + 2)
   have x58_3_0 := hC58.at2 (o := i * 24 + 19) (j := 4) (i := 3) hiN (by decide) (by decide) (by omega) rfl
   have f58_3_0 := hC58.frozen (i * 24 + 19)
   have x58_3_1 := hC58.at2 (o := i * 24 + 16 + 3) (j := 4) (i := 3) hiN (by decide) (by decide) (by omega) rfl
   have f58_3_1 := hC58.frozen (i * 24 + 16 + 3)
   replace hE := (((((((((Env.again (Go.Proofs.YtclbiihcbfnjmaaGreat.Below.set4 hE.bel hgg58 (i * 24 + 4 * 4) ⟨sv, Av, nv, cv, tv, Bv, mv, dv⟩)).blkI ((hE.h7).set4 (by omega) _ _)).kept ((hE.h6).setc _)).colp (hC58.set hiN (show 4 < 6 by decide) ⟨sv, Av, nv, cv, tv, Bv, mv, dv⟩)).colq (ColQ.set (x := ⟨sv, Av, nv, cv, tv, Bv, mv, dv⟩) (k := i) (j := 4) (hE.h4.to fun hf => hf.set4 hC58 hiN (show 4 < 6 by decide) ⟨sv, Av, nv, cv, tv, Bv, mv, dv⟩) (show Q8.fv ⟨sv, Av, nv, cv, tv, Bv, mv, dv⟩ _ (colq v f N i 4) from (hE.h2).set4 hC58 hiN (show 4 < 6 by decide) ⟨sv, Av, nv, cv, tv, Bv, mv, dv⟩) (fun k' _ j' _ hj => by (try dsimp only at hj ⊢); omega))).fv ((hE.h3).set4 hC58 hiN (show 4 < 6 by decide) ⟨sv, Av, nv, cv, tv, Bv, mv, dv⟩)).fv ((hE.h2).set4 hC58 hiN (show 4 < 6 by decide) ⟨sv, Av, nv, cv, tv, Bv, mv, dv⟩)).blkI ((hE.here.1.2).set4 (by omega) _ _)).blkI ((hE.here.2).set4 (by omega) _ _))
   go_simp
   have hs58 : (((V57.setCell ⟨g, i * 24 + 16, none⟩ (.bool sv)).setCell ⟨g, i * 24 + 16 + 1, none⟩ (.slice Av nv cv)).setCell ⟨g, i * 24 + 16 + 2, none⟩ (.bool tv)).setCell ⟨g, i * 24 + 16 + 3, none⟩ (.slice Bv mv dv) = set4 V57 g (i * 24 + 4 * 4) ⟨sv, Av, nv, cv, tv, Bv, mv, dv⟩ := set4_eq _ _ _ _ ⟨sv, Av, nv, cv, tv, Bv, mv, dv⟩ (by omega)
   rw [hs58]
   clear hs58 hC58 x58_0_0 f58_0_0 x58_1_0 f58_1_0 x58_1_1 f58_1_1 x58_2_0 f58_2_0 x58_2_1 f58_2_1 x58_3_0 f58_3_0 x58_3_1 f58_3_1
   generalize set4 V57 g (i * 24 + 4 * 4) ⟨sv, Av, nv, cv, tv, Bv, mv, dv⟩ = V58 at hE ⊢
   refine hK.out _ _ (hE.here.1.2.j4 hE.here.2.c4) (fun hHeld => ?_)
   clear hK K
   try simp only [PL]
   refine wpAnyH_done (by kernel_rfl) ?_ _
   go_wp2_with fail
   go_roundw
   case rel =>
    exact ⟨(i : Int) - 1, i, _, sz, Az, nz, cz, tz, Bz, mz, dz, sv, Av, nv, cv, tv, Bv, mv, dv, rfl, by omega, by omega, (((((((((Env.again hE.bel).blkI (hE.h7)).kept (hE.h6)).colp (hE.h5)).colq (ColQ.sub (J' := fun k' j => j = 0 ∨ j = 3 ∨ ((j = 1 ∨ j = 4) ∧ i ≤ k')) (hE.h4) (fun k' _ j' _ hj => by (try dsimp only at hj ⊢); omega))).fv (hE.h3)).fv (hE.h2)).blkI (hE.here.1.2)).blkI (hE.here.2))⟩
   case measure => simp [intOf]

theorem csumsS_v {F S E Y : Int} {A : Option Addr} {n c : Nat} {si ti : Bool} {Ai Bi : Option Addr} {ni ci mi di : Nat} {v : Rat} {f : Nat → Rat} {N g cap Bp : Nat} {h : Nat → Nat → Q8} {w u : World} (hbu : Below w.heap.size w u) (hv : Dis v) (hf : Rts f N) (h80 : N ≤ 80) (hN0 : 0 < N) (hBw : w.heap.size ≤ Bp) (hgw : w.heap.size ≤ g) (hBp : Blk 133 Bp #[.int .i64 F, .int .i64 S, .slice A n c, .bool si, .slice Ai ni ci, .bool ti, .slice Bi mi di, .int .i64 E, .int .i64 Y, .slice (some ⟨g, 0, none⟩) N cap] u) (hC : ColB g N cap h u) (hQ : ColQ h N (fun _ j => j = 0 ∨ j = 3 ∨ j = 1 ∨ j = 4) (colq v f N) u) :
  Calls Tryz.prog 59 #[.pointer (some ⟨Bp, 0, none⟩)] u (fun e u' => (∃ x, e = .returned x) ∧ ∃ h', ColB g N cap h' u' ∧ ColQ h' N (fun _ _ => True) (colq v f N) u' ∧ Kept u g u' ∧ Below w.heap.size w u') := by
 have hMp : 0 < N * (N * 1) := Nat.mul_pos hN0 (by omega)
 have hMl : N * (N * 1) < b16 := Nat.lt_of_le_of_lt (Nat.mul_le_mul h80 (show N * 1 ≤ 80 by omega)) (by decide)
 have hb100 : 3 * N + 3 ≤ 255 := by omega
 have hl1 : ∀ k, k ≤ N → fl (sf (sf (dd v f) N) N k) ≤ 256 := fun k hk => (ss_ql hv hf hk).l hMp hMl (by omega)
 have hl2 : ∀ k, k ≤ N → fl (sf (sf (cc v f) N) N k) ≤ 256 := fun k hk => (rr_ql hv hf hk).l hMp hMl (by omega)
 have hd1 : ∀ k, k < N → fl ((sf (dd v f) N) k) ≤ 256 := fun k hk => (nn_ql hv hf (Nat.le_of_lt hk)).l (by omega) (Nat.lt_of_le_of_lt (show N * 1 ≤ 80 by omega) (by decide)) (by omega)
 have hd2 : ∀ k, k < N → fl ((sf (cc v f) N) k) ≤ 256 := fun k hk => (mm_ql hv hf (Nat.le_of_lt hk)).l (by omega) (Nat.lt_of_le_of_lt (show N * 1 ≤ 80 by omega) (by decide)) (by omega)
 have Hhl1 := Lib.hid hl1
 clear hl1
 have Hhl2 := Lib.hid hl2
 clear hl2
 have Hhd1 := Lib.hid hd1
 clear hd1
 have Hhd2 := Lib.hid hd2
 clear hd2
 have Hhv := Lib.hid hv
 clear hv
 have Hhf := Lib.hid hf
 clear hf
 have Hhb100 := Lib.hid hb100
 clear hb100
 have hgu : g < u.heap.size := ColP.lt hC
 have hgB : Bp ≠ g := hBp.ne_col hC (by decide)
 have hE := ((((Env.again hbu).blkI hBp).kept (Kept.refl u g)).colp hC).colq hQ
 clear hBp hC hQ
 have hws : w.heap.size ≤ u.heap.size := hbu.size
 go_enter Tryz.func59, Tryz.ntmps59
 go_upto_region 0 with (fail)
 go_wp2_with fail
 have hc := ffromInt_v 0 u (by decide) (by decide)
 rw [show (((0 : Int) : Rat)) = sf (sf (dd v f) N) N N from (sf_end _ (Nat.le_refl _)).symm] at hc
 refine hE.fr (hc) ?_
 clear hE
 intro sx Ax nx cx tx Bx mx dx w1 hE
 clear hc
 go_wp2_with fail
 have hc := ffromInt_v 0 w1 (by decide) (by decide)
 rw [show (((0 : Int) : Rat)) = sf (sf (cc v f) N) N N from (sf_end _ (Nat.le_refl _)).symm] at hc
 refine hE.fr (hc) ?_
 clear hE
 intro sy Ay ny cy ty By my dy w2 hE
 clear hc
 go_upto_region 1 with (fail)
 obtain ⟨g3, hg3⟩ : ∃ g3, g3 = w2.heap.size := ⟨_, rfl⟩
 have hl3_0 : Bp < g3 := by rw [hg3]; exact (hE.h5).lt
 have hu3 : u.heap.size ≤ g3 := by rw [hg3]; exact (hE.h4).size
 replace hE := hE.blk 29 #[.bool sx, .slice Ax nx cx, .bool tx, .slice Bx mx dx] (g := g3) hg3.symm
 have hsz : (w2.alloc (.cells #[.bool sx, .slice Ax nx cx, .bool tx, .slice Bx mx dx] 29)).heap.size = g3 + 1 := by rw [hg3, World.size_alloc]
 generalize w2.alloc (.cells #[.bool sx, .slice Ax nx cx, .bool tx, .slice Bx mx dx] 29) = W3 at hE hsz ⊢
 obtain ⟨g4, hg4⟩ : ∃ g4, g4 = g3 + 1 := ⟨_, rfl⟩
 have hl4_x : g3 < g4 := by omega
 replace hE := hE.blk 29 #[.bool sy, .slice Ay ny cy, .bool ty, .slice By my dy] (g := g4) (hsz.trans hg4.symm)
 generalize W3.alloc (.cells #[.bool sy, .slice Ay ny cy, .bool ty, .slice By my dy] 29) = W4 at hE ⊢
 rw [← hg3, ← hg4]
 clear hsz hg4 hg3
 obtain ⟨k5, k6, k7, k8, k9, k10, k11, k12, k13, k14⟩ := (hE.h7).c10
 go_wp2_with fail
 clear k5 k6 k7 k8 k9 k10 k11 k12 k13 k14
 go_loopw [4] (fun x wr => ∃ (z : Int) (k : Nat) (h : Nat → Nat → Q8) (sx : Bool) (Ax : Option Addr) (nx cx : Nat) (tx : Bool) (Bx : Option Addr) (mx dx : Nat) (sy : Bool) (Ay : Option Addr) (ny cy : Nat) (ty : Bool) (By : Option Addr) (my dy : Nat), x = .int .i64 z ∧ z + 1 = (k : Int) ∧ k ≤ N ∧ Env w (fun V => ((((((((True ∧ Blk 133 (Bp) #[.int .i64 F, .int .i64 S, .slice A n c, .bool si, .slice Ai ni ci, .bool ti, .slice Bi mi di, .int .i64 E, .int .i64 Y, .slice (some ⟨g, 0, none⟩) N cap] V) ∧ Kept u g V) ∧ ColB g N cap h V) ∧ ColQ h N (fun k' j => (j = 0 ∨ j = 3 ∨ j = 1 ∨ j = 4) ∨ ((j = 2 ∨ j = 5) ∧ k ≤ k')) (colq v f N) V) ∧ FV V (sf (sf (dd v f) N) N k) sx Ax nx tx Bx mx) ∧ FV V (sf (sf (cc v f) N) N k) sy Ay ny ty By my) ∧ Blk 29 (g3) #[.bool sx, .slice Ax nx cx, .bool tx, .slice Bx mx dx] V) ∧ Blk 29 (g4) #[.bool sy, .slice Ay ny cy, .bool ty, .slice By my dy] V)) wr) (fun x _ => (intOf x + 1).toNat)
 case atStart =>
  exact ⟨(N : Int) - 1, N, h, _, _, _, _, _, _, _, _, _, _, _, _, _, _, _, _, rfl, by omega, Nat.le_refl _, (((((((((Env.again hE.bel).blkI (hE.h7)).kept (hE.h6)).colp (hE.h5)).colq (ColQ.sub (hE.h4) (fun k hk j _ hj => by (try dsimp only at hj ⊢); omega))).fv (hE.h3)).fv (hE.h2)).blkI (hE.here.1.2)).blkI (hE.here.2))⟩
 case round =>
  clear hE
  obtain ⟨z, k, h, sx, Ax, nx, cx, tx, Bx, mx, dx, sy, Ay, ny, cy, ty, By, my, dy, rfl, hz, hk, hE⟩ := hrel
  cases k with
  | zero =>
   obtain rfl : z = -1 := by omega
   go_wp2_with fail
   go_end0
   exact ⟨⟨_, rfl⟩, h, hE.h5, ColQ.sub (hE.h4) (fun k hk j _ hj => by (try dsimp only at hj ⊢); omega), hE.h6, hE.bel⟩
  | succ i =>
   obtain rfl : z = (i : Int) := by omega
   have hiN : i < N := by omega
   have t1 : decide ((0 : Int) ≤ (i : Int)) = true := decide_eq_true (by omega)
   have t2 : (0 : Int) ≤ (i : Int) := by omega
   have t3 : (i : Int) < (N : Int) := by omega
   obtain ⟨k15, k16, k17, k18, k19, k20, k21, k22, k23, k24⟩ := (hE.h7).c10
   go_upto_region 5 with (fail)
   clear k15 k16 k17 k18 k19 k20 k21 k22 k23 k24
   clear t1 t2 t3
   have hgw2 : g < wr.heap.size := ColP.lt hE.h5
   obtain ⟨sa, Aa, na, ca, ta, Ba, ma, da, hxa⟩ : ∃ s A n c t B m d, h i 1 = Q8.mk s A n c t B m d := ⟨_, _, _, _, _, _, _, _, rfl⟩
   have hfa : FV wr ((sf (dd v f) N) i) sa Aa na ta Ba ma := by have := (hE.h4) i hiN 1 (by decide) (by simp); rw [hxa] at this; exact this
   have hca0 : At g (i * 24 + (1 * 4 + 0)) (.bool sa) wr := ⟨hgw2, by have := (hE.h5).at_ hiN (show 1 < 6 by decide) (show 0 < 4 by decide); rw [hxa] at this; exact this⟩
   have hca1 : At g (i * 24 + (1 * 4 + 1)) (.slice Aa na ca) wr := ⟨hgw2, by have := (hE.h5).at_ hiN (show 1 < 6 by decide) (show 1 < 4 by decide); rw [hxa] at this; exact this⟩
   have hca2 : At g (i * 24 + (1 * 4 + 2)) (.bool ta) wr := ⟨hgw2, by have := (hE.h5).at_ hiN (show 1 < 6 by decide) (show 2 < 4 by decide); rw [hxa] at this; exact this⟩
   have hca3 : At g (i * 24 + (1 * 4 + 3)) (.slice Ba ma da) wr := ⟨hgw2, by have := (hE.h5).at_ hiN (show 1 < 6 by decide) (show 3 < 4 by decide); rw [hxa] at this; exact this⟩
   replace hE := hE.fv hfa
   clear hfa
   replace hE := hE.atI (hca0.to (show i * 24 + 4 = i * 24 + (1 * 4 + 0) by omega))
   clear hca0
   replace hE := hE.atI (hca1.to (show i * 24 + 5 = i * 24 + (1 * 4 + 1) by omega))
   replace hE := hE.atI (hca1.to (show i * 24 + 4 + 1 = i * 24 + (1 * 4 + 1) by omega))
   clear hca1
   replace hE := hE.atI (hca2.to (show i * 24 + 6 = i * 24 + (1 * 4 + 2) by omega))
   replace hE := hE.atI (hca2.to (show i * 24 + 4 + 2 = i * 24 + (1 * 4 + 2) by omega))
   clear hca2
   replace hE := hE.atI (hca3.to (show i * 24 + 7 = i * 24 + (1 * 4 + 3) by omega))
   replace hE := hE.atI (hca3.to (show i * 24 + 4 + 3 = i * 24 + (1 * 4 + 3) by omega))
   clear hca3
   clear hxa
   obtain ⟨sb, Ab, nb, cb, tb, Bb, mb, db, hxb⟩ : ∃ s A n c t B m d, h i 4 = Q8.mk s A n c t B m d := ⟨_, _, _, _, _, _, _, _, rfl⟩
   have hfb : FV wr ((sf (cc v f) N) i) sb Ab nb tb Bb mb := by have := (hE.h12) i hiN 4 (by decide) (by simp); rw [hxb] at this; exact this
   have hcb0 : At g (i * 24 + (4 * 4 + 0)) (.bool sb) wr := ⟨hgw2, by have := (hE.h13).at_ hiN (show 4 < 6 by decide) (show 0 < 4 by decide); rw [hxb] at this; exact this⟩
   have hcb1 : At g (i * 24 + (4 * 4 + 1)) (.slice Ab nb cb) wr := ⟨hgw2, by have := (hE.h13).at_ hiN (show 4 < 6 by decide) (show 1 < 4 by decide); rw [hxb] at this; exact this⟩
   have hcb2 : At g (i * 24 + (4 * 4 + 2)) (.bool tb) wr := ⟨hgw2, by have := (hE.h13).at_ hiN (show 4 < 6 by decide) (show 2 < 4 by decide); rw [hxb] at this; exact this⟩
   have hcb3 : At g (i * 24 + (4 * 4 + 3)) (.slice Bb mb db) wr := ⟨hgw2, by have := (hE.h13).at_ hiN (show 4 < 6 by decide) (show 3 < 4 by decide); rw [hxb] at this; exact this⟩
   replace hE := hE.fv hfb
   clear hfb
   replace hE := hE.atI (hcb0.to (show i * 24 + 16 = i * 24 + (4 * 4 + 0) by omega))
   clear hcb0
   replace hE := hE.atI (hcb1.to (show i * 24 + 17 = i * 24 + (4 * 4 + 1) by omega))
   replace hE := hE.atI (hcb1.to (show i * 24 + 16 + 1 = i * 24 + (4 * 4 + 1) by omega))
   clear hcb1
   replace hE := hE.atI (hcb2.to (show i * 24 + 18 = i * 24 + (4 * 4 + 2) by omega))
   replace hE := hE.atI (hcb2.to (show i * 24 + 16 + 2 = i * 24 + (4 * 4 + 2) by omega))
   clear hcb2
   replace hE := hE.atI (hcb3.to (show i * 24 + 19 = i * 24 + (4 * 4 + 3) by omega))
   replace hE := hE.atI (hcb3.to (show i * 24 + 16 + 3 = i * 24 + (4 * 4 + 3) by omega))
   clear hcb3
   clear hxb
   have hgu2 : g < g3 := by omega
   have hgu3 : g < g4 := by omega
   go_cut [5] from 24 to 36 (fun p wx => ∃ sz Az nz cz tz Bz mz dz sv Av nv cv tv Bv mv dv, p = .pointer (some ⟨g, i * 24, none⟩) ∧ Env w (fun V => ((((((((True ∧ Blk 133 (Bp) #[.int .i64 F, .int .i64 S, .slice A n c, .bool si, .slice Ai ni ci, .bool ti, .slice Bi mi di, .int .i64 E, .int .i64 Y, .slice (some ⟨g, 0, none⟩) N cap] V) ∧ Kept u g V) ∧ ColB g N cap h V) ∧ ColQ h N (fun k' j => (j = 0 ∨ j = 3 ∨ j = 1 ∨ j = 4) ∨ ((j = 2 ∨ j = 5) ∧ (i + 1) ≤ k')) (colq v f N) V) ∧ FV V (sf (sf (dd v f) N) N i) sz Az nz tz Bz mz) ∧ FV V (sf (sf (cc v f) N) N i) sv Av nv tv Bv mv) ∧ Blk 29 (g3) #[.bool sz, .slice Az nz cz, .bool tz, .slice Bz mz dz] V) ∧ Blk 29 (g4) #[.bool sv, .slice Av nv cv, .bool tv, .slice Bv mv dv] V)) wx)
   case first =>
    replace hE := hE.drew
    refine wp_region_held_drew (S := fun w' => w'.cell? ⟨g, i * 24 + 4, none⟩ = some (.bool sa) ∧ w'.cell? ⟨g, i * 24 + 5, none⟩ = some (.slice Aa na ca) ∧ w'.cell? ⟨g, i * 24 + 4 + 1, none⟩ = some (.slice Aa na ca) ∧ w'.cell? ⟨g, i * 24 + 6, none⟩ = some (.bool ta) ∧ w'.cell? ⟨g, i * 24 + 4 + 2, none⟩ = some (.bool ta) ∧ w'.cell? ⟨g, i * 24 + 7, none⟩ = some (.slice Ba ma da) ∧ w'.cell? ⟨g, i * 24 + 4 + 3, none⟩ = some (.slice Ba ma da) ∧ w'.cell? ⟨g, i * 24 + 16, none⟩ = some (.bool sb) ∧ w'.cell? ⟨g, i * 24 + 17, none⟩ = some (.slice Ab nb cb) ∧ w'.cell? ⟨g, i * 24 + 16 + 1, none⟩ = some (.slice Ab nb cb) ∧ w'.cell? ⟨g, i * 24 + 18, none⟩ = some (.bool tb) ∧ w'.cell? ⟨g, i * 24 + 16 + 2, none⟩ = some (.bool tb) ∧ w'.cell? ⟨g, i * 24 + 19, none⟩ = some (.slice Bb mb db) ∧ w'.cell? ⟨g, i * 24 + 16 + 3, none⟩ = some (.slice Bb mb db)) (by kernel_rfl) (⟨(hE.h14).2, (hE.h13).2, (hE.h12).2, (hE.h11).2, (hE.h10).2, (hE.h9).2, (hE.h8).2, (hE.h6).2, (hE.h5).2, (hE.h4).2, (hE.h3).2, (hE.h2).2, (hE.here.1.2).2, (hE.here.2).2⟩) (fun hHeld => ?_)
    refine tk 1 ?_
    try simp only [PL]
    refine tk 2 ?_
    try simp only [PL]
    refine tk 3 ?_
    try simp only [PL]
    refine tk 4 ?_
    try simp only [PL]
    refine tk 7 ?_
    try simp only [PL]
    refine tk 8 ?_
    try simp only [PL]
    refine tk 9 ?_
    try simp only [PL]
    refine tk 10 ?_
    try simp only [PL]
    refine wpAnyH_ready (rs := [0, 6]) (by kernel_rfl) (by simp) (AllReadyH.cons rfl (fun K hK => ?_) (AllReadyH.cons rfl (fun K hK => ?_) (AllReadyH.nil)))
    ·
     obtain ⟨k25, k26, k27, k28⟩ := (hE.h17).c4
     go_simp
     clear k25 k26 k27 k28
     refine hK.out _ _ (⟨(hE.h14).2, (hE.h13).2, (hE.h12).2, (hE.h11).2, (hE.h10).2, (hE.h9).2, (hE.h8).2, (hE.h6).2, (hE.h5).2, (hE.h4).2, (hE.h3).2, (hE.h2).2, (hE.here.1.2).2, (hE.here.2).2⟩) (fun hHeld => ?_)
     clear hK K
     try simp only [PL]
     refine wpAnyH_ready (rs := [5, 6]) (by kernel_rfl) (by simp) (AllReadyH.cons rfl (fun K hK => ?_) (AllReadyH.cons rfl (fun K hK => ?_) (AllReadyH.nil)))
     ·
      go_simp
      have hc := cplus_v (ca := cx) (da := dx) (cb := ca) (db := da) hE.h19 hE.h15 (Hhl1.out (i + 1) hiN) (Hhd1.out i hiN) (by rw [← sf_step (sf (dd v f) N) hiN]; exact Hhl1.out i (by omega))
      rw [← sf_step (sf (dd v f) N) hiN] at hc
      refine hE.fr (hc) ?_
      clear hE
      intro sz Az nz cz tz Bz mz dz w29 hE
      clear hc
      go_wp2_with fail
      refine hK.out _ _ (⟨(hE.h15).2, (hE.h14).2, (hE.h13).2, (hE.h12).2, (hE.h11).2, (hE.h10).2, (hE.h9).2, (hE.h7).2, (hE.h6).2, (hE.h5).2, (hE.h4).2, (hE.h3).2, (hE.h2).2, (hE.here.1.2).2⟩) (fun hHeld => ?_)
      clear hK K
      try simp only [PL]
      refine r1 6 (fun K hK => ?_)
      obtain ⟨k30, k31, k32, k33⟩ := (hE.h17).c4
      go_simp
      clear k30 k31 k32 k33
      refine hK.out _ _ (⟨(hE.h15).2, (hE.h14).2, (hE.h13).2, (hE.h12).2, (hE.h11).2, (hE.h10).2, (hE.h9).2, (hE.h7).2, (hE.h6).2, (hE.h5).2, (hE.h4).2, (hE.h3).2, (hE.h2).2, (hE.here.1.2).2⟩) (fun hHeld => ?_)
      clear hK K
      try simp only [PL]
      refine r1 11 (fun K hK => ?_)
      go_simp
      have hc := cplus_v (ca := cy) (da := dy) (cb := cb) (db := db) hE.h19 hE.h8 (Hhl2.out (i + 1) hiN) (Hhd2.out i hiN) (by rw [← sf_step (sf (cc v f) N) hiN]; exact Hhl2.out i (by omega))
      rw [← sf_step (sf (cc v f) N) hiN] at hc
      refine hE.fr (hc) ?_
      clear hE
      intro sv Av nv cv tv Bv mv dv w34 hE
      clear hc
      go_wp2_with fail
      refine hK.out _ _ (⟨(hE.h16).2, (hE.h15).2, (hE.h14).2, (hE.h13).2, (hE.h12).2, (hE.h11).2, (hE.h10).2, (hE.h8).2, (hE.h7).2, (hE.h6).2, (hE.h5).2, (hE.h4).2, (hE.h3).2, (hE.h2).2⟩) (fun hHeld => ?_)
      clear hK K
      try simp only [PL]
      refine r1 12 (fun K hK => ?_)
      have hgl35 : w.heap.size ≤ g3 := by omega
      obtain ⟨x35_0, x35_1, x35_2, x35_3⟩ := (hE.h19).c4
      obtain ⟨f35_0, f35_1, f35_2, f35_3⟩ := hE.h19.f4
      replace hE := (((((((((((((((((((((((((((Env.again (bel4 hE.bel hgl35 (.bool sz) (.slice Az nz cz) (.bool tz) (.slice Bz mz dz))).blkI ((hE.h25).far4 (by omega) _ _ _ _)).kept ((hE.h24).set4 (by first | exact .inr rfl | exact .inl (by omega)) _ _ _ _)).colp ((hE.h23).setc (by omega) _ _ _ _)).colq ((hE.h22).sep4 (hE.h19) rfl _ _ _ _ rfl rfl rfl)).fv ((hE.h21).sep4 hE.h19 rfl _ _ _ _ rfl rfl rfl)).fv ((hE.h20).sep4 hE.h19 rfl _ _ _ _ rfl rfl rfl)).blkI ((hE.h19).s4 _ _ _ _)).blkI ((hE.h18).far4 (by omega) _ _ _ _)).fv ((hE.h17).sep4 hE.h19 rfl _ _ _ _ rfl rfl rfl)).atI ((hE.h16).far4 (by first | omega | exact At.apart (hE.h16) (hE.h19) rfl) _ _ _ _)).atI ((hE.h15).far4 (by first | omega | exact At.apart (hE.h15) (hE.h19) rfl) _ _ _ _)).atI ((hE.h14).far4 (by first | omega | exact At.apart (hE.h14) (hE.h19) rfl) _ _ _ _)).atI ((hE.h13).far4 (by first | omega | exact At.apart (hE.h13) (hE.h19) rfl) _ _ _ _)).atI ((hE.h12).far4 (by first | omega | exact At.apart (hE.h12) (hE.h19) rfl) _ _ _ _)).atI ((hE.h11).far4 (by first | omega | exact At.apart (hE.h11) (hE.h19) rfl) _ _ _ _)).atI ((hE.h10).far4 (by first | omega | exact At.apart (hE.h10) (hE.h19) rfl) _ _ _ _)).fv ((hE.h9).sep4 hE.h19 rfl _ _ _ _ rfl rfl rfl)).atI ((hE.h8).far4 (by first | omega | exact At.apart (hE.h8) (hE.h19) rfl) _ _ _ _)).atI ((hE.h7).far4 (by first | omega | exact At.apart (hE.h7) (hE.h19) rfl) _ _ _ _)).atI ((hE.h6).far4 (by first | omega | exact At.apart (hE.h6) (hE.h19) rfl) _ _ _ _)).atI ((hE.h5).far4 (by first | omega | exact At.apart (hE.h5) (hE.h19) rfl) _ _ _ _)).atI ((hE.h4).far4 (by first | omega | exact At.apart (hE.h4) (hE.h19) rfl) _ _ _ _)).atI ((hE.h3).far4 (by first | omega | exact At.apart (hE.h3) (hE.h19) rfl) _ _ _ _)).atI ((hE.h2).far4 (by first | omega | exact At.apart (hE.h2) (hE.h19) rfl) _ _ _ _)).fv ((hE.here.1.2).sep4 hE.h19 rfl _ _ _ _ rfl rfl rfl)).fv ((hE.here.2).sep4 hE.h19 rfl _ _ _ _ rfl rfl rfl))
      go_simp
      clear x35_0 x35_1 x35_2 x35_3 f35_0 f35_1 f35_2 f35_3 hgl35
      generalize ((((w34.setCell ⟨g3, 0, none⟩ (.bool sz)).setCell ⟨g3, 1, none⟩ (.slice Az nz cz)).setCell ⟨g3, 2, none⟩ (.bool tz)).setCell ⟨g3, 3, none⟩ (.slice Bz mz dz)) = W35 at hE ⊢
      refine hK.out _ _ (⟨(hE.h16).2, (hE.h15).2, (hE.h14).2, (hE.h13).2, (hE.h12).2, (hE.h11).2, (hE.h10).2, (hE.h8).2, (hE.h7).2, (hE.h6).2, (hE.h5).2, (hE.h4).2, (hE.h3).2, (hE.h2).2⟩) (fun hHeld => ?_)
      clear hK K
      try simp only [PL]
      refine r1 13 (fun K hK => ?_)
      have hgl36 : w.heap.size ≤ g4 := by omega
      obtain ⟨x36_0, x36_1, x36_2, x36_3⟩ := (hE.h18).c4
      obtain ⟨f36_0, f36_1, f36_2, f36_3⟩ := hE.h18.f4
      replace hE := (((((((((((((((((((((((((((Env.again (bel4 hE.bel hgl36 (.bool sv) (.slice Av nv cv) (.bool tv) (.slice Bv mv dv))).blkI ((hE.h25).far4 (by omega) _ _ _ _)).kept ((hE.h24).set4 (by first | exact .inr rfl | exact .inl (by omega)) _ _ _ _)).colp ((hE.h23).setc (by omega) _ _ _ _)).colq ((hE.h22).sep4 (hE.h18) rfl _ _ _ _ rfl rfl rfl)).fv ((hE.h21).sep4 hE.h18 rfl _ _ _ _ rfl rfl rfl)).fv ((hE.h20).sep4 hE.h18 rfl _ _ _ _ rfl rfl rfl)).blkI ((hE.h19).far4 (by omega) _ _ _ _)).blkI ((hE.h18).s4 _ _ _ _)).fv ((hE.h17).sep4 hE.h18 rfl _ _ _ _ rfl rfl rfl)).atI ((hE.h16).far4 (by first | omega | exact At.apart (hE.h16) (hE.h18) rfl) _ _ _ _)).atI ((hE.h15).far4 (by first | omega | exact At.apart (hE.h15) (hE.h18) rfl) _ _ _ _)).atI ((hE.h14).far4 (by first | omega | exact At.apart (hE.h14) (hE.h18) rfl) _ _ _ _)).atI ((hE.h13).far4 (by first | omega | exact At.apart (hE.h13) (hE.h18) rfl) _ _ _ _)).atI ((hE.h12).far4 (by first | omega | exact At.apart (hE.h12) (hE.h18) rfl) _ _ _ _)).atI ((hE.h11).far4 (by first | omega | exact At.apart (hE.h11) (hE.h18) rfl) _ _ _ _)).atI ((hE.h10).far4 (by first | omega | exact At.apart (hE.h10) (hE.h18) rfl) _ _ _ _)).fv ((hE.h9).sep4 hE.h18 rfl _ _ _ _ rfl rfl rfl)).atI ((hE.h8).far4 (by first | omega | exact At.apart (hE.h8) (hE.h18) rfl) _ _ _ _)).atI ((hE.h7).far4 (by first | omega | exact At.apart (hE.h7) (hE.h18) rfl) _ _ _ _)).atI ((hE.h6).far4 (by first | omega | exact At.apart (hE.h6) (hE.h18) rfl) _ _ _ _)).atI ((hE.h5).far4 (by first | omega | exact At.apart (hE.h5) (hE.h18) rfl) _ _ _ _)).atI ((hE.h4).far4 (by first | omega | exact At.apart (hE.h4) (hE.h18) rfl) _ _ _ _)).atI ((hE.h3).far4 (by first | omega | exact At.apart (hE.h3) (hE.h18) rfl) _ _ _ _)).atI ((hE.h2).far4 (by first | omega | exact At.apart (hE.h2) (hE.h18) rfl) _ _ _ _)).fv ((hE.here.1.2).sep4 hE.h18 rfl _ _ _ _ rfl rfl rfl)).fv ((hE.here.2).sep4 hE.h18 rfl _ _ _ _ rfl rfl rfl))
      go_simp
      clear x36_0 x36_1 x36_2 x36_3 f36_0 f36_1 f36_2 f36_3 hgl36
      generalize ((((W35.setCell ⟨g4, 0, none⟩ (.bool sv)).setCell ⟨g4, 1, none⟩ (.slice Av nv cv)).setCell ⟨g4, 2, none⟩ (.bool tv)).setCell ⟨g4, 3, none⟩ (.slice Bv mv dv)) = W36 at hE ⊢
      refine hK.out _ _ (⟨(hE.h16).2, (hE.h15).2, (hE.h14).2, (hE.h13).2, (hE.h12).2, (hE.h11).2, (hE.h10).2, (hE.h8).2, (hE.h7).2, (hE.h6).2, (hE.h5).2, (hE.h4).2, (hE.h3).2, (hE.h2).2⟩) (fun hHeld => ?_)
      clear hK K
      try simp only [PL]
      refine wpAnyH_done (by kernel_rfl) ?_ _
      go_wp2_with fail
      go_meet
      exact ⟨sz, Az, nz, cz, tz, Bz, mz, dz, sv, Av, nv, cv, tv, Bv, mv, dv, rfl, (((((((((Env.again hE.bel).blkI (hE.h25)).kept (hE.h24)).colp (hE.h23)).colq (hE.h22)).fv (hE.here.1.2)).fv (hE.here.2)).blkI (hE.h19)).blkI (hE.h18))⟩
     ·
      obtain ⟨k37, k38, k39, k40⟩ := (hE.h16).c4
      go_simp
      clear k37 k38 k39 k40
      refine hK.out _ _ (⟨(hE.h14).2, (hE.h13).2, (hE.h12).2, (hE.h11).2, (hE.h10).2, (hE.h9).2, (hE.h8).2, (hE.h6).2, (hE.h5).2, (hE.h4).2, (hE.h3).2, (hE.h2).2, (hE.here.1.2).2, (hE.here.2).2⟩) (fun hHeld => ?_)
      clear hK K
      try simp only [PL]
      refine r1 5 (fun K hK => ?_)
      go_simp
      have hc := cplus_v (ca := cx) (da := dx) (cb := ca) (db := da) hE.h19 hE.h15 (Hhl1.out (i + 1) hiN) (Hhd1.out i hiN) (by rw [← sf_step (sf (dd v f) N) hiN]; exact Hhl1.out i (by omega))
      rw [← sf_step (sf (dd v f) N) hiN] at hc
      refine hE.fr (hc) ?_
      clear hE
      intro sz Az nz cz tz Bz mz dz w41 hE
      clear hc
      go_wp2_with fail
      refine hK.out _ _ (⟨(hE.h15).2, (hE.h14).2, (hE.h13).2, (hE.h12).2, (hE.h11).2, (hE.h10).2, (hE.h9).2, (hE.h7).2, (hE.h6).2, (hE.h5).2, (hE.h4).2, (hE.h3).2, (hE.h2).2, (hE.here.1.2).2⟩) (fun hHeld => ?_)
      clear hK K
      try simp only [PL]
      refine r1 11 (fun K hK => ?_)
      go_simp
      have hc := cplus_v (ca := cy) (da := dy) (cb := cb) (db := db) hE.h19 hE.h8 (Hhl2.out (i + 1) hiN) (Hhd2.out i hiN) (by rw [← sf_step (sf (cc v f) N) hiN]; exact Hhl2.out i (by omega))
      rw [← sf_step (sf (cc v f) N) hiN] at hc
      refine hE.fr (hc) ?_
      clear hE
      intro sv Av nv cv tv Bv mv dv w42 hE
      clear hc
      go_wp2_with fail
      refine hK.out _ _ (⟨(hE.h16).2, (hE.h15).2, (hE.h14).2, (hE.h13).2, (hE.h12).2, (hE.h11).2, (hE.h10).2, (hE.h8).2, (hE.h7).2, (hE.h6).2, (hE.h5).2, (hE.h4).2, (hE.h3).2, (hE.h2).2⟩) (fun hHeld => ?_)
      clear hK K
      try simp only [PL]
      refine r1 12 (fun K hK => ?_)
      have hgl43 : w.heap.size ≤ g3 := by omega
      obtain ⟨x43_0, x43_1, x43_2, x43_3⟩ := (hE.h19).c4
      obtain ⟨f43_0, f43_1, f43_2, f43_3⟩ := hE.h19.f4
      replace hE := (((((((((((((((((((((((((((Env.again (bel4 hE.bel hgl43 (.bool sz) (.slice Az nz cz) (.bool tz) (.slice Bz mz dz))).blkI ((hE.h25).far4 (by omega) _ _ _ _)).kept ((hE.h24).set4 (by first | exact .inr rfl | exact .inl (by omega)) _ _ _ _)).colp ((hE.h23).setc (by omega) _ _ _ _)).colq ((hE.h22).sep4 (hE.h19) rfl _ _ _ _ rfl rfl rfl)).fv ((hE.h21).sep4 hE.h19 rfl _ _ _ _ rfl rfl rfl)).fv ((hE.h20).sep4 hE.h19 rfl _ _ _ _ rfl rfl rfl)).blkI ((hE.h19).s4 _ _ _ _)).blkI ((hE.h18).far4 (by omega) _ _ _ _)).fv ((hE.h17).sep4 hE.h19 rfl _ _ _ _ rfl rfl rfl)).atI ((hE.h16).far4 (by first | omega | exact At.apart (hE.h16) (hE.h19) rfl) _ _ _ _)).atI ((hE.h15).far4 (by first | omega | exact At.apart (hE.h15) (hE.h19) rfl) _ _ _ _)).atI ((hE.h14).far4 (by first | omega | exact At.apart (hE.h14) (hE.h19) rfl) _ _ _ _)).atI ((hE.h13).far4 (by first | omega | exact At.apart (hE.h13) (hE.h19) rfl) _ _ _ _)).atI ((hE.h12).far4 (by first | omega | exact At.apart (hE.h12) (hE.h19) rfl) _ _ _ _)).atI ((hE.h11).far4 (by first | omega | exact At.apart (hE.h11) (hE.h19) rfl) _ _ _ _)).atI ((hE.h10).far4 (by first | omega | exact At.apart (hE.h10) (hE.h19) rfl) _ _ _ _)).fv ((hE.h9).sep4 hE.h19 rfl _ _ _ _ rfl rfl rfl)).atI ((hE.h8).far4 (by first | omega | exact At.apart (hE.h8) (hE.h19) rfl) _ _ _ _)).atI ((hE.h7).far4 (by first | omega | exact At.apart (hE.h7) (hE.h19) rfl) _ _ _ _)).atI ((hE.h6).far4 (by first | omega | exact At.apart (hE.h6) (hE.h19) rfl) _ _ _ _)).atI ((hE.h5).far4 (by first | omega | exact At.apart (hE.h5) (hE.h19) rfl) _ _ _ _)).atI ((hE.h4).far4 (by first | omega | exact At.apart (hE.h4) (hE.h19) rfl) _ _ _ _)).atI ((hE.h3).far4 (by first | omega | exact At.apart (hE.h3) (hE.h19) rfl) _ _ _ _)).atI ((hE.h2).far4 (by first | omega | exact At.apart (hE.h2) (hE.h19) rfl) _ _ _ _)).fv ((hE.here.1.2).sep4 hE.h19 rfl _ _ _ _ rfl rfl rfl)).fv ((hE.here.2).sep4 hE.h19 rfl _ _ _ _ rfl rfl rfl))
      go_simp
      clear x43_0 x43_1 x43_2 x43_3 f43_0 f43_1 f43_2 f43_3 hgl43
      generalize ((((w42.setCell ⟨g3, 0, none⟩ (.bool sz)).setCell ⟨g3, 1, none⟩ (.slice Az nz cz)).setCell ⟨g3, 2, none⟩ (.bool tz)).setCell ⟨g3, 3, none⟩ (.slice Bz mz dz)) = W43 at hE ⊢
      refine hK.out _ _ (⟨(hE.h16).2, (hE.h15).2, (hE.h14).2, (hE.h13).2, (hE.h12).2, (hE.h11).2, (hE.h10).2, (hE.h8).2, (hE.h7).2, (hE.h6).2, (hE.h5).2, (hE.h4).2, (hE.h3).2, (hE.h2).2⟩) (fun hHeld => ?_)
      clear hK K
      try simp only [PL]
      refine r1 13 (fun K hK => ?_)
      have hgl44 : w.heap.size ≤ g4 := by omega
      obtain ⟨x44_0, x44_1, x44_2, x44_3⟩ := (hE.h18).c4
      obtain ⟨f44_0, f44_1, f44_2, f44_3⟩ := hE.h18.f4
      replace hE := (((((((((((((((((((((((((((Env.again (bel4 hE.bel hgl44 (.bool sv) (.slice Av nv cv) (.bool tv) (.slice Bv mv dv))).blkI ((hE.h25).far4 (by omega) _ _ _ _)).kept ((hE.h24).set4 (by first | exact .inr rfl | exact .inl (by omega)) _ _ _ _)).colp ((hE.h23).setc (by omega) _ _ _ _)).colq ((hE.h22).sep4 (hE.h18) rfl _ _ _ _ rfl rfl rfl)).fv ((hE.h21).sep4 hE.h18 rfl _ _ _ _ rfl rfl rfl)).fv ((hE.h20).sep4 hE.h18 rfl _ _ _ _ rfl rfl rfl)).blkI ((hE.h19).far4 (by omega) _ _ _ _)).blkI ((hE.h18).s4 _ _ _ _)).fv ((hE.h17).sep4 hE.h18 rfl _ _ _ _ rfl rfl rfl)).atI ((hE.h16).far4 (by first | omega | exact At.apart (hE.h16) (hE.h18) rfl) _ _ _ _)).atI ((hE.h15).far4 (by first | omega | exact At.apart (hE.h15) (hE.h18) rfl) _ _ _ _)).atI ((hE.h14).far4 (by first | omega | exact At.apart (hE.h14) (hE.h18) rfl) _ _ _ _)).atI ((hE.h13).far4 (by first | omega | exact At.apart (hE.h13) (hE.h18) rfl) _ _ _ _)).atI ((hE.h12).far4 (by first | omega | exact At.apart (hE.h12) (hE.h18) rfl) _ _ _ _)).atI ((hE.h11).far4 (by first | omega | exact At.apart (hE.h11) (hE.h18) rfl) _ _ _ _)).atI ((hE.h10).far4 (by first | omega | exact At.apart (hE.h10) (hE.h18) rfl) _ _ _ _)).fv ((hE.h9).sep4 hE.h18 rfl _ _ _ _ rfl rfl rfl)).atI ((hE.h8).far4 (by first | omega | exact At.apart (hE.h8) (hE.h18) rfl) _ _ _ _)).atI ((hE.h7).far4 (by first | omega | exact At.apart (hE.h7) (hE.h18) rfl) _ _ _ _)).atI ((hE.h6).far4 (by first | omega | exact At.apart (hE.h6) (hE.h18) rfl) _ _ _ _)).atI ((hE.h5).far4 (by first | omega | exact At.apart (hE.h5) (hE.h18) rfl) _ _ _ _)).atI ((hE.h4).far4 (by first | omega | exact At.apart (hE.h4) (hE.h18) rfl) _ _ _ _)).atI ((hE.h3).far4 (by first | omega | exact At.apart (hE.h3) (hE.h18) rfl) _ _ _ _)).atI ((hE.h2).far4 (by first | omega | exact At.apart (hE.h2) (hE.h18) rfl) _ _ _ _)).fv ((hE.here.1.2).sep4 hE.h18 rfl _ _ _ _ rfl rfl rfl)).fv ((hE.here.2).sep4 hE.h18 rfl _ _ _ _ rfl rfl rfl))
      go_simp
      clear x44_0 x44_1 x44_2 x44_3 f44_0 f44_1 f44_2 f44_3 hgl44
      generalize ((((W43.setCell ⟨g4, 0, none⟩ (.bool sv)).setCell ⟨g4, 1, none⟩ (.slice Av nv cv)).setCell ⟨g4, 2, none⟩ (.bool tv)).setCell ⟨g4, 3, none⟩ (.slice Bv mv dv)) = W44 at hE ⊢
      refine hK.out _ _ (⟨(hE.h16).2, (hE.h15).2, (hE.h14).2, (hE.h13).2, (hE.h12).2, (hE.h11).2, (hE.h10).2, (hE.h8).2, (hE.h7).2, (hE.h6).2, (hE.h5).2, (hE.h4).2, (hE.h3).2, (hE.h2).2⟩) (fun hHeld => ?_)
      clear hK K
      try simp only [PL]
      refine wpAnyH_done (by kernel_rfl) ?_ _
      go_wp2_with fail
      go_meet
      exact ⟨sz, Az, nz, cz, tz, Bz, mz, dz, sv, Av, nv, cv, tv, Bv, mv, dv, rfl, (((((((((Env.again hE.bel).blkI (hE.h25)).kept (hE.h24)).colp (hE.h23)).colq (hE.h22)).fv (hE.here.1.2)).fv (hE.here.2)).blkI (hE.h19)).blkI (hE.h18))⟩
    ·
     obtain ⟨k45, k46, k47, k48⟩ := (hE.h16).c4
     go_simp
     clear k45 k46 k47 k48
     refine hK.out _ _ (⟨(hE.h14).2, (hE.h13).2, (hE.h12).2, (hE.h11).2, (hE.h10).2, (hE.h9).2, (hE.h8).2, (hE.h6).2, (hE.h5).2, (hE.h4).2, (hE.h3).2, (hE.h2).2, (hE.here.1.2).2, (hE.here.2).2⟩) (fun hHeld => ?_)
     clear hK K
     try simp only [PL]
     refine r1 0 (fun K hK => ?_)
     obtain ⟨k49, k50, k51, k52⟩ := (hE.h17).c4
     go_simp
     clear k49 k50 k51 k52
     refine hK.out _ _ (⟨(hE.h14).2, (hE.h13).2, (hE.h12).2, (hE.h11).2, (hE.h10).2, (hE.h9).2, (hE.h8).2, (hE.h6).2, (hE.h5).2, (hE.h4).2, (hE.h3).2, (hE.h2).2, (hE.here.1.2).2, (hE.here.2).2⟩) (fun hHeld => ?_)
     clear hK K
     try simp only [PL]
     refine r1 5 (fun K hK => ?_)
     go_simp
     have hc := cplus_v (ca := cx) (da := dx) (cb := ca) (db := da) hE.h19 hE.h15 (Hhl1.out (i + 1) hiN) (Hhd1.out i hiN) (by rw [← sf_step (sf (dd v f) N) hiN]; exact Hhl1.out i (by omega))
     rw [← sf_step (sf (dd v f) N) hiN] at hc
     refine hE.fr (hc) ?_
     clear hE
     intro sz Az nz cz tz Bz mz dz w53 hE
     clear hc
     go_wp2_with fail
     refine hK.out _ _ (⟨(hE.h15).2, (hE.h14).2, (hE.h13).2, (hE.h12).2, (hE.h11).2, (hE.h10).2, (hE.h9).2, (hE.h7).2, (hE.h6).2, (hE.h5).2, (hE.h4).2, (hE.h3).2, (hE.h2).2, (hE.here.1.2).2⟩) (fun hHeld => ?_)
     clear hK K
     try simp only [PL]
     refine r1 11 (fun K hK => ?_)
     go_simp
     have hc := cplus_v (ca := cy) (da := dy) (cb := cb) (db := db) hE.h19 hE.h8 (Hhl2.out (i + 1) hiN) (Hhd2.out i hiN) (by rw [← sf_step (sf (cc v f) N) hiN]; exact Hhl2.out i (by omega))
     rw [← sf_step (sf (cc v f) N) hiN] at hc
     refine hE.fr (hc) ?_
     clear hE
     intro sv Av nv cv tv Bv mv dv w54 hE
     clear hc
     go_wp2_with fail
     refine hK.out _ _ (⟨(hE.h16).2, (hE.h15).2, (hE.h14).2, (hE.h13).2, (hE.h12).2, (hE.h11).2, (hE.h10).2, (hE.h8).2, (hE.h7).2, (hE.h6).2, (hE.h5).2, (hE.h4).2, (hE.h3).2, (hE.h2).2⟩) (fun hHeld => ?_)
     clear hK K
     try simp only [PL]
     refine r1 12 (fun K hK => ?_)
     have hgl55 : w.heap.size ≤ g3 := by omega
     obtain ⟨x55_0, x55_1, x55_2, x55_3⟩ := (hE.h19).c4
     obtain ⟨f55_0, f55_1, f55_2, f55_3⟩ := hE.h19.f4
     replace hE := (((((((((((((((((((((((((((Env.again (bel4 hE.bel hgl55 (.bool sz) (.slice Az nz cz) (.bool tz) (.slice Bz mz dz))).blkI ((hE.h25).far4 (by omega) _ _ _ _)).kept ((hE.h24).set4 (by first | exact .inr rfl | exact .inl (by omega)) _ _ _ _)).colp ((hE.h23).setc (by omega) _ _ _ _)).colq ((hE.h22).sep4 (hE.h19) rfl _ _ _ _ rfl rfl rfl)).fv ((hE.h21).sep4 hE.h19 rfl _ _ _ _ rfl rfl rfl)).fv ((hE.h20).sep4 hE.h19 rfl _ _ _ _ rfl rfl rfl)).blkI ((hE.h19).s4 _ _ _ _)).blkI ((hE.h18).far4 (by omega) _ _ _ _)).fv ((hE.h17).sep4 hE.h19 rfl _ _ _ _ rfl rfl rfl)).atI ((hE.h16).far4 (by first | omega | exact At.apart (hE.h16) (hE.h19) rfl) _ _ _ _)).atI ((hE.h15).far4 (by first | omega | exact At.apart (hE.h15) (hE.h19) rfl) _ _ _ _)).atI ((hE.h14).far4 (by first | omega | exact At.apart (hE.h14) (hE.h19) rfl) _ _ _ _)).atI ((hE.h13).far4 (by first | omega | exact At.apart (hE.h13) (hE.h19) rfl) _ _ _ _)).atI ((hE.h12).far4 (by first | omega | exact At.apart (hE.h12) (hE.h19) rfl) _ _ _ _)).atI ((hE.h11).far4 (by first | omega | exact At.apart (hE.h11) (hE.h19) rfl) _ _ _ _)).atI ((hE.h10).far4 (by first | omega | exact At.apart (hE.h10) (hE.h19) rfl) _ _ _ _)).fv ((hE.h9).sep4 hE.h19 rfl _ _ _ _ rfl rfl rfl)).atI ((hE.h8).far4 (by first | omega | exact At.apart (hE.h8) (hE.h19) rfl) _ _ _ _)).atI ((hE.h7).far4 (by first | omega | exact At.apart (hE.h7) (hE.h19) rfl) _ _ _ _)).atI ((hE.h6).far4 (by first | omega | exact At.apart (hE.h6) (hE.h19) rfl) _ _ _ _)).atI ((hE.h5).far4 (by first | omega | exact At.apart (hE.h5) (hE.h19) rfl) _ _ _ _)).atI ((hE.h4).far4 (by first | omega | exact At.apart (hE.h4) (hE.h19) rfl) _ _ _ _)).atI ((hE.h3).far4 (by first | omega | exact At.apart (hE.h3) (hE.h19) rfl) _ _ _ _)).atI ((hE.h2).far4 (by first | omega | exact At.apart (hE.h2) (hE.h19) rfl) _ _ _ _)).fv ((hE.here.1.2).sep4 hE.h19 rfl _ _ _ _ rfl rfl rfl)).fv ((hE.here.2).sep4 hE.h19 rfl _ _ _ _ rfl rfl rfl))
     go_simp
     clear x55_0 x55_1 x55_2 x55_3 f55_0 f55_1 f55_2 f55_3 hgl55
     generalize ((((w54.setCell ⟨g3, 0, none⟩ (.bool sz)).setCell ⟨g3, 1, none⟩ (.slice Az nz cz)).setCell ⟨g3, 2, none⟩ (.bool tz)).setCell ⟨g3, 3, none⟩ (.slice Bz mz dz)) = W55 at hE ⊢
     refine hK.out _ _ (⟨(hE.h16).2, (hE.h15).2, (hE.h14).2, (hE.h13).2, (hE.h12).2, (hE.h11).2, (hE.h10).2, (hE.h8).2, (hE.h7).2, (hE.h6).2, (hE.h5).2, (hE.h4).2, (hE.h3).2, (hE.h2).2⟩) (fun hHeld => ?_)
     clear hK K
     try simp only [PL]
     refine r1 13 (fun K hK => ?_)
     have hgl56 : w.heap.size ≤ g4 := by omega
     obtain ⟨x56_0, x56_1, x56_2, x56_3⟩ := (hE.h18).c4
     obtain ⟨f56_0, f56_1, f56_2, f56_3⟩ := hE.h18.f4
     replace hE := (((((((((((((((((((((((((((Env.again (bel4 hE.bel hgl56 (.bool sv) (.slice Av nv cv) (.bool tv) (.slice Bv mv dv))).blkI ((hE.h25).far4 (by omega) _ _ _ _)).kept ((hE.h24).set4 (by first | exact .inr rfl | exact .inl (by omega)) _ _ _ _)).colp ((hE.h23).setc (by omega) _ _ _ _)).colq ((hE.h22).sep4 (hE.h18) rfl _ _ _ _ rfl rfl rfl)).fv ((hE.h21).sep4 hE.h18 rfl _ _ _ _ rfl rfl rfl)).fv ((hE.h20).sep4 hE.h18 rfl _ _ _ _ rfl rfl rfl)).blkI ((hE.h19).far4 (by omega) _ _ _ _)).blkI ((hE.h18).s4 _ _ _ _)).fv ((hE.h17).sep4 hE.h18 rfl _ _ _ _ rfl rfl rfl)).atI ((hE.h16).far4 (by first | omega | exact At.apart (hE.h16) (hE.h18) rfl) _ _ _ _)).atI ((hE.h15).far4 (by first | omega | exact At.apart (hE.h15) (hE.h18) rfl) _ _ _ _)).atI ((hE.h14).far4 (by first | omega | exact At.apart (hE.h14) (hE.h18) rfl) _ _ _ _)).atI ((hE.h13).far4 (by first | omega | exact At.apart (hE.h13) (hE.h18) rfl) _ _ _ _)).atI ((hE.h12).far4 (by first | omega | exact At.apart (hE.h12) (hE.h18) rfl) _ _ _ _)).atI ((hE.h11).far4 (by first | omega | exact At.apart (hE.h11) (hE.h18) rfl) _ _ _ _)).atI ((hE.h10).far4 (by first | omega | exact At.apart (hE.h10) (hE.h18) rfl) _ _ _ _)).fv ((hE.h9).sep4 hE.h18 rfl _ _ _ _ rfl rfl rfl)).atI ((hE.h8).far4 (by first | omega | exact At.apart (hE.h8) (hE.h18) rfl) _ _ _ _)).atI ((hE.h7).far4 (by first | omega | exact At.apart (hE.h7) (hE.h18) rfl) _ _ _ _)).atI ((hE.h6).far4 (by first | omega | exact At.apart (hE.h6) (hE.h18) rfl) _ _ _ _)).atI ((hE.h5).far4 (by first | omega | exact At.apart (hE.h5) (hE.h18) rfl) _ _ _ _)).atI ((hE.h4).far4 (by first | omega | exact At.apart (hE.h4) (hE.h18) rfl) _ _ _ _)).atI ((hE.h3).far4 (by first | omega | exact At.apart (hE.h3) (hE.h18) rfl) _ _ _ _)).atI ((hE.h2).far4 (by first | omega | exact At.apart (hE.h2) (hE.h18) rfl) _ _ _ _)).fv ((hE.here.1.2).sep4 hE.h18 rfl _ _ _ _ rfl rfl rfl)).fv ((hE.here.2).sep4 hE.h18 rfl _ _ _ _ rfl rfl rfl))
     go_simp
     clear x56_0 x56_1 x56_2 x56_3 f56_0 f56_1 f56_2 f56_3 hgl56
     generalize ((((W55.setCell ⟨g4, 0, none⟩ (.bool sv)).setCell ⟨g4, 1, none⟩ (.slice Av nv cv)).setCell ⟨g4, 2, none⟩ (.bool tv)).setCell ⟨g4, 3, none⟩ (.slice Bv mv dv)) = W56 at hE ⊢
     refine hK.out _ _ (⟨(hE.h16).2, (hE.h15).2, (hE.h14).2, (hE.h13).2, (hE.h12).2, (hE.h11).2, (hE.h10).2, (hE.h8).2, (hE.h7).2, (hE.h6).2, (hE.h5).2, (hE.h4).2, (hE.h3).2, (hE.h2).2⟩) (fun hHeld => ?_)
     clear hK K
     try simp only [PL]
     refine wpAnyH_done (by kernel_rfl) ?_ _
     go_wp2_with fail
     go_meet
     exact ⟨sz, Az, nz, cz, tz, Bz, mz, dz, sv, Av, nv, cv, tv, Bv, mv, dv, rfl, (((((((((Env.again hE.bel).blkI (hE.h25)).kept (hE.h24)).colp (hE.h23)).colq (hE.h22)).fv (hE.here.1.2)).fv (hE.here.2)).blkI (hE.h19)).blkI (hE.h18))⟩
   case rest =>
   clear hE
   obtain ⟨sz, Az, nz, cz, tz, Bz, mz, dz, sv, Av, nv, cv, tv, Bv, mv, dv, rfl, hE⟩ := hcut
   generalize wc = wk5 at hE ⊢
   have o1 : IntKind.i64.wrap ((i : Int) - 1) = (i : Int) - 1 := by rw [IntKind.wrap_i64]; omega
   go_upto_region 6 with (fail)
   replace hE := hE.drew
   refine wp_region_held_drew (S := fun w' => w'.cell? ⟨g3, 0, none⟩ = some (.bool sz) ∧ w'.cell? ⟨g3, 1, none⟩ = some (.slice Az nz cz) ∧ w'.cell? ⟨g3, 2, none⟩ = some (.bool tz) ∧ w'.cell? ⟨g3, 3, none⟩ = some (.slice Bz mz dz) ∧ w'.cell? ⟨g4, 0, none⟩ = some (.bool sv) ∧ w'.cell? ⟨g4, 1, none⟩ = some (.slice Av nv cv) ∧ w'.cell? ⟨g4, 2, none⟩ = some (.bool tv) ∧ w'.cell? ⟨g4, 3, none⟩ = some (.slice Bv mv dv)) (by kernel_rfl) (hE.here.1.2.j4 hE.here.2.c4) (fun hHeld => ?_)
   generalize wk5.drew = wd at *
   refine tk 0 ?_
   try simp only [PL]
   refine tk 1 ?_
   try simp only [PL]
   refine tk 2 ?_
   try simp only [PL]
   refine tk 3 ?_
   try simp only [PL]
   refine tk 4 ?_
   try simp only [PL]
   refine tk 5 ?_
   try simp only [PL]
   refine r1 6 (fun K hK => ?_)
   have hC57 : ColB g N cap h wd := hE.h5
   have hgg57 : w.heap.size ≤ g := hgw
   have x57_0_0 := hC57.at2 (o := i * 24 + 8) (j := 2) (i := 0) hiN (by decide) (by decide) (by omega) rfl
   have f57_0_0 := hC57.frozen (i * 24 + 8)
   have x57_1_0 := hC57.at2 (o := i * 24 + 9) (j := 2) (i := 1) hiN (by decide) (by decide) (by omega) rfl
   have f57_1_0 := hC57.frozen (i * 24 + 9)
   have x57_1_1 := hC57.at2 (o := i * 24 + 8 + 1) (j := 2) (i := 1) hiN (by decide) (by decide) (by omega) rfl
   have f57_1_1 := hC57.frozen (i * 24 + 8 + 1)
   have x57_2_0 := hC57.at2 (o := i * 24 + 10) (j := 2) (i := 2) hiN (by decide) (by decide) (by omega) rfl
   have f57_2_0 := hC57.frozen (i * 24 + 10)
   have x57_2_1 := hC57.at2 (o := i * 24 + 8 + 2) (j := 2) (i := 2) hiN (by decide) (by decide) (by omega) rfl
   have f57_2_1 := hC57.frozen (i * 24 + 8 + 2)
   have x57_3_0 := hC57.at2 (o := i * 24 + 11) (j := 2) (i := 3) hiN (by decide) (by decide) (by omega) rfl
   have f57_3_0 := hC57.frozen (i * 24 + 11)
   have x57_3_1 := hC57.at2 (o := i * 24 + 8 + 3) (j := 2) (i := 3) hiN (by decide) (by decide) (by omega) rfl
   have f57_3_1 := hC57.frozen (i * 24 + 8 + 3)
   replace hE := (((((((((Env.again (Go.Proofs.YtclbiihcbfnjmaaGreat.Below.set4 hE.bel hgg57 (i * 24 + 2 * 4) ⟨sz, Az, nz, cz, tz, Bz, mz, dz⟩)).blkI ((hE.h7).set4 (by omega) _ _)).kept ((hE.h6).setc _)).colp (hC57.set hiN (show 2 < 6 by decide) ⟨sz, Az, nz, cz, tz, Bz, mz, dz⟩)).colq (ColQ.set (x := ⟨sz, Az, nz, cz, tz, Bz, mz, dz⟩) (k := i) (j := 2) (hE.h4.to fun hf => hf.set4 hC57 hiN (show 2 < 6 by decide) ⟨sz, Az, nz, cz, tz, Bz, mz, dz⟩) (show Q8.fv ⟨sz, Az, nz, cz, tz, Bz, mz, dz⟩ _ (colq v f N i 2) from (hE.h3).set4 hC57 hiN (show 2 < 6 by decide) ⟨sz, Az, nz, cz, tz, Bz, mz, dz⟩) (fun k' _ j' _ hj => by (try dsimp only at hj ⊢); omega))).fv ((hE.h3).set4 hC57 hiN (show 2 < 6 by decide) ⟨sz, Az, nz, cz, tz, Bz, mz, dz⟩)).fv ((hE.h2).set4 hC57 hiN (show 2 < 6 by decide) ⟨sz, Az, nz, cz, tz, Bz, mz, dz⟩)).blkI ((hE.here.1.2).set4 (by omega) _ _)).blkI ((hE.here.2).set4 (by omega) _ _))
   go_simp
   have hs57 : (((wd.setCell ⟨g, i * 24 + 8, none⟩ (.bool sz)).setCell ⟨g, i * 24 + 8 + 1, none⟩ (.slice Az nz cz)).setCell ⟨g, i * 24 + 8 + 2, none⟩ (.bool tz)).setCell ⟨g, i * 24 + 8 + 3, none⟩ (.slice Bz mz dz) = set4 wd g (i * 24 + 2 * 4) ⟨sz, Az, nz, cz, tz, Bz, mz, dz⟩ := set4_eq _ _ _ _ ⟨sz, Az, nz, cz, tz, Bz, mz, dz⟩ (by omega)
   rw [hs57]
   clear hs57 hC57 x57_0_0 f57_0_0 x57_1_0 f57_1_0 x57_1_1 f57_1_1 x57_2_0 f57_2_0 x57_2_1 f57_2_1 x57_3_0 f57_3_0 x57_3_1 f57_3_1
   generalize set4 wd g (i * 24 + 2 * 4) ⟨sz, Az, nz, cz, tz, Bz, mz, dz⟩ = V57 at hE ⊢
   refine hK.out _ _ (hE.here.1.2.j4 hE.here.2.c4) (fun hHeld => ?_)
   clear hK K
   try simp only [PL]
   refine tk 7 ?_
   try simp only [PL]
   refine tk 8 ?_
   try simp only [PL]
   refine r1 9 (fun K hK => ?_)
   have hC58 : ColB g N cap (upd h i 2 ⟨sz, Az, nz, cz, tz, Bz, mz, dz⟩) V57 := hE.h5
   have hgg58 : w.heap.size ≤ g := hgw
   have x58_0_0 := hC58.at2 (o := i * 24 + 20) (j := 5) (i := 0) hiN (by decide) (by decide) (by omega) rfl
   have f58_0_0 := hC58.frozen (i * 24 + 20)
   have x58_1_0 := hC58.at2 (o := i * 24 + 21) (j := 5) (i := 1) hiN (by decide) (by decide) (by omega) rfl
   have f58_1_0 := hC58.frozen (i * 24 + 21)
   have x58_1_1 := hC58.at2 (o := i * 24 + 20 + 1) (j := 5) (i := 1) hiN (by decide) (by decide) (by omega) rfl
   have f58_1_1 := hC58.frozen (i * 24 + 20 + 1)
   have x58_2_0 := hC58.at2 (o := i * 24 + 22) (j := 5) (i := 2) hiN (by decide) (by decide) (by omega) rfl
   have f58_2_0 := hC58.frozen (i * 24 + 22)
   have x58_2_1 := hC58.at2 (o := i * 24 + 20 + 2) (j := 5) (i := 2) hiN (by decide) (by decide) (by omega) rfl
   have f58_2_1 := hC58.frozen (i * 24 + 20 + 2)
   have x58_3_0 := hC58.at2 (o := i * 24 + 23) (j := 5) (i := 3) hiN (by decide) (by decide) (by omega) rfl
   have f58_3_0 := hC58.frozen (i * 24 + 23)
   have x58_3_1 := hC58.at2 (o := i * 24 + 20 + 3) (j := 5) (i := 3) hiN (by decide) (by decide) (by omega) rfl
   have f58_3_1 := hC58.frozen (i * 24 + 20 + 3)
   replace hE := (((((((((Env.again (Go.Proofs.YtclbiihcbfnjmaaGreat.Below.set4 hE.bel hgg58 (i * 24 + 5 * 4) ⟨sv, Av, nv, cv, tv, Bv, mv, dv⟩)).blkI ((hE.h7).set4 (by omega) _ _)).kept ((hE.h6).setc _)).colp (hC58.set hiN (show 5 < 6 by decide) ⟨sv, Av, nv, cv, tv, Bv, mv, dv⟩)).colq (ColQ.set (x := ⟨sv, Av, nv, cv, tv, Bv, mv, dv⟩) (k := i) (j := 5) (hE.h4.to fun hf => hf.set4 hC58 hiN (show 5 < 6 by decide) ⟨sv, Av, nv, cv, tv, Bv, mv, dv⟩) (show Q8.fv ⟨sv, Av, nv, cv, tv, Bv, mv, dv⟩ _ (colq v f N i 5) from (hE.h2).set4 hC58 hiN (show 5 < 6 by decide) ⟨sv, Av, nv, cv, tv, Bv, mv, dv⟩) (fun k' _ j' _ hj => by (try dsimp only at hj ⊢); omega))).fv ((hE.h3).set4 hC58 hiN (show 5 < 6 by decide) ⟨sv, Av, nv, cv, tv, Bv, mv, dv⟩)).fv ((hE.h2).set4 hC58 hiN (show 5 < 6 by decide) ⟨sv, Av, nv, cv, tv, Bv, mv, dv⟩)).blkI ((hE.here.1.2).set4 (by omega) _ _)).blkI ((hE.here.2).set4 (by omega) _ _))
   go_simp
   have hs58 : (((V57.setCell ⟨g, i * 24 + 20, none⟩ (.bool sv)).setCell ⟨g, i * 24 + 20 + 1, none⟩ (.slice Av nv cv)).setCell ⟨g, i * 24 + 20 + 2, none⟩ (.bool tv)).setCell ⟨g, i * 24 + 20 + 3, none⟩ (.slice Bv mv dv) = set4 V57 g (i * 24 + 5 * 4) ⟨sv, Av, nv, cv, tv, Bv, mv, dv⟩ := set4_eq _ _ _ _ ⟨sv, Av, nv, cv, tv, Bv, mv, dv⟩ (by omega)
   rw [hs58]
   clear hs58 hC58 x58_0_0 f58_0_0 x58_1_0 f58_1_0 x58_1_1 f58_1_1 x58_2_0 f58_2_0 x58_2_1 f58_2_1 x58_3_0 f58_3_0 x58_3_1 f58_3_1
   generalize set4 V57 g (i * 24 + 5 * 4) ⟨sv, Av, nv, cv, tv, Bv, mv, dv⟩ = V58 at hE ⊢
   refine hK.out _ _ (hE.here.1.2.j4 hE.here.2.c4) (fun hHeld => ?_)
   clear hK K
   try simp only [PL]
   refine wpAnyH_done (by kernel_rfl) ?_ _
   go_wp2_with fail
   go_roundw
   case rel =>
    exact ⟨(i : Int) - 1, i, _, sz, Az, nz, cz, tz, Bz, mz, dz, sv, Av, nv, cv, tv, Bv, mv, dv, rfl, by omega, by omega, (((((((((Env.again hE.bel).blkI (hE.h7)).kept (hE.h6)).colp (hE.h5)).colq (ColQ.sub (J' := fun k' j => (j = 0 ∨ j = 3 ∨ j = 1 ∨ j = 4) ∨ ((j = 2 ∨ j = 5) ∧ i ≤ k')) (hE.h4) (fun k' _ j' _ hj => by (try dsimp only at hj ⊢); omega))).fv (hE.h3)).fv (hE.h2)).blkI (hE.here.1.2)).blkI (hE.here.2))⟩
   case measure => simp [intOf]
end Go.Proofs.YtclbiihcbfnjmaaGreat
