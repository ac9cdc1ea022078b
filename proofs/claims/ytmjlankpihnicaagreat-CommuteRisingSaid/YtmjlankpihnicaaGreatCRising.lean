/-
  The walk of CommuteRising.
-/
import Derived.Test.YtmjlankpihnicaaGreatC11
namespace Go.Proofs.YtmjlankpihnicaaGreat
open Go.RowKit

theorem rem41 {x : Int} (h0 : 0 ≤ x) : Int.tmod x 41 = x % 41 := Int.tmod_eq_emod_of_nonneg h0
/-- What a rising annuity from k on is worth. -/
def rsum (v : Rat) (f : Nat → Rat) (b N k : Nat) : Rat := ps (rs (dd v f) (k : Int)) (k : Int) (b : Int) N
theorem rsum_next (v : Rat) (f : Nat → Rat) {b k : Nat} (N : Nat) (h : k < b) : rsum v f b N k = ps (dd v f) (k : Int) (b : Int) N + rsum v f b N (k + 1) := ps_next (dd v f) k (b : Int) (by omega) N
theorem rsum_end (v : Rat) (f : Nat → Rat) {b k : Nat} (N : Nat) (h : b ≤ k) : rsum v f b N k = 0 := ps_none _ (by omega) N
section
variable {v : Rat} {f : Nat → Rat} {N : Nat} (hv : Dis v) (hf : Rts f N) (h21 : N ≤ 21)
include hv hf h21
theorem rsum_ql (b k : Nat) : Ql 6400 (3 * N) (rsum v f b N k) := ps_len hv hf (by omega) (M := 80) (by decide) (k : Int) (b : Int) (fun j hj h => rsA hv hf (by omega) hj k h) N (Nat.le_refl _)
theorem rsum_fl (b k : Nat) : fl (rsum v f b N k) ≤ 256 := (rsum_ql hv hf h21 b k).l (by decide) (by decide) (by omega)
theorem rdif_fl (b k j : Nat) : fl (rsum v f b N k - rsum v f b N j) ≤ 256 := ((rsum_ql hv hf h21 b k).sub (rsum_ql hv hf h21 b j)).l (by decide) (by decide) (by omega)
theorem psd_fl (b k : Nat) : fl (ps (dd v f) (k : Int) (b : Int) N) ≤ 256 := (ps_len hv hf (by omega) (M := 1) (by decide) (k : Int) (b : Int) (fun j hj h => ddA hv hf hj (k : Int) h) N (Nat.le_refl _)).l (by decide) (by decide) (by omega)
end
set_option linter.unusedSimpArgs false in
set_option maxRecDepth 100000 in
set_option maxHeartbeats 8000000 in
theorem crising_walk (F S E Y : Int) (A : Option Addr) (n c : Nat) (r : Nat → RH) (si ti : Bool) (Ai Bi : Option Addr) (ni mi ci di : Nat) (fi gi : Nat → Nat) (w : World) (hT : TabM w A n r) (hr : FRd w Ai ni fi Bi mi gi) (x : Int) (x0 : 0 ≤ x) (_ : x ≤ 255) (y : Int) (y0 : 0 ≤ y) (_ : y ≤ 255) :
    Calls Tryz.prog 8 #[.agg #[.int .i64 F, .int .i64 S, .slice A n c, .bool si, .slice Ai ni ci, .bool ti, .slice Bi mi di], .agg #[.int .i64 E, .int .i64 Y], .int .u8 x, .int .u8 y] w fun e w' => e = .returned (.bool true) ∧ Below w.heap.size w w' := by
  by_cases hU : UsB F S n r E Y si ni fi ti mi gi
  · skip
    obtain ⟨hB, hn, hm, hbk, hR, N, h21, hN⟩ := hU.get (1 / (1 + qOf si ni fi mi gi))
    obtain ⟨hqv, hi⟩ := intB_rti hr hbk.2
    have hdis := hi.dis
    have hrts := rt_rates hT hR N
    have hAnn := fun (a b : Nat) (ha : a ≤ 9223372036854775807) (hb : b ≤ 9223372036854775807) (W : World) (hW : Below w.heap.size w W) => cAnn_v (c := c) (ci := ci) (di := di) (hT.below hW) hB (hr.below hW) hn hm hbk hR N hN (by omega) a b ha hb
    have hRis := fun (a b : Nat) (ha : a ≤ 9223372036854775807) (hb : b ≤ 9223372036854775807) (W : World) (hW : Below w.heap.size w W) => cRis_v (c := c) (ci := ci) (di := di) (hT.below hW) hB (hr.below hW) hn hm hbk hR N hN (by omega) a b ha hb
    obtain ⟨v, hv⟩ : ∃ v, v = 1 / (1 + qOf si ni fi mi gi) := ⟨_, rfl⟩
    obtain ⟨f, hf⟩ : ∃ f, f = fr F S n r E Y := ⟨_, rfl⟩
    have hrf : Rts f N := by rw [hf]; exact hrts
    simp only [← hv, ← hf] at hAnn hRis hdis hN
    obtain ⟨a, ha⟩ : ∃ a : Nat, x % 41 = (a : Int) := ⟨(x % 41).toNat, by omega⟩
    obtain ⟨b, hb⟩ : ∃ b : Nat, y % 41 = (b : Int) := ⟨(y % 41).toNat, by omega⟩
    have ha41 : a ≤ 41 := by omega
    have hb41 : b ≤ 41 := by omega
    have r1x : Int.tmod x 41 = (a : Int) := (rem41 x0).trans ha
    have r1y : Int.tmod y 41 = (b : Int) := (rem41 y0).trans hb
    have Hx := Lib.hid r1x
    have Hy := Lib.hid r1y
    clear hv hrts hqv hi ha hb r1x r1y
    have HhT := Lib.hid hT
    clear hT
    have Hhr := Lib.hid hr
    clear hr
    have HhU := Lib.hid hU
    clear hU
    have Hhf := Lib.hid hf
    clear hf
    have HhB := Lib.hid hB
    clear hB
    have Hhbk := Lib.hid hbk
    clear hbk
    have HhR := Lib.hid hR
    clear hR
    have HhN := Lib.hid hN
    clear hN
    have Hhdis := Lib.hid hdis
    clear hdis
    have Hhrf := Lib.hid hrf
    clear hrf
    have HhAnn := Lib.hid hAnn
    clear hAnn
    have HhRis := Lib.hid hRis
    clear hRis
    have hE := ((Env.start w).blk 31 #[.int .i64 F, .int .i64 S, .slice A n c, .bool si, .slice Ai ni ci, .bool ti, .slice Bi mi di] (g := w.heap.size) rfl).blk 33 #[.int .i64 E, .int .i64 Y] (g := w.heap.size + 1) (by simp)
    obtain ⟨W0, hW0⟩ : ∃ W0, W0 = ((w.alloc (.cells #[.int .i64 F, .int .i64 S, .slice A n c, .bool si, .slice Ai ni ci, .bool ti, .slice Bi mi di] 31)).alloc (.cells #[.int .i64 E, .int .i64 Y] 33)) := ⟨_, rfl⟩
    rw [← hW0] at hE
    have HW0 := Lib.hid hW0
    clear hW0
    go_enter Tryz.func8, Tryz.ntmps8
    go_upto_region 1 with (fail)
    rw [← HW0.out]
    go_wp2_with fail
    refine (awakeB_t _).mono ?_
    rintro e w1 ⟨rfl, hb⟩
    replace hE := hE.step hb
    clear hb
    obtain ⟨k2, k3, k4, k5, k6, k7, k8⟩ := (hE.here.1.2).c7
    obtain ⟨k9, k10⟩ := (hE.here.2).c2
    go_wp2_with fail
    refine (usableB_t (HhT.out.below hE.bel) (Hhr.out.below hE.bel) HhU.out).mono ?_
    clear k2 k3 k4 k5 k6 k7 k8 k9 k10
    rintro e w11 ⟨rfl, hb⟩
    replace hE := hE.step hb
    clear hb
    have q1 := Hx.out
    have q2 := Hy.out
    go_wp2_with fail
    clear q1 q2
    have hc := ffromInt_v 0 w11 (by decide) (by decide)
    rw [show (((0 : Int) : Rat)) = rsum v f b N a - rsum v f b N a from by rw [Rat.sub_self]; rfl] at hc
    refine (hc).mono ?_
    rintro e w12 ⟨sz, Az, nz, cz, tz, Bz, mz, dz, rfl, hz, hb⟩
    replace hE := hE.step hb
    clear hb
    replace hE := hE.fv hz
    clear hz
    clear hc
    go_upto_region 7 with (fail)
    obtain ⟨g13, hg13⟩ : ∃ g13, g13 = w12.heap.size := ⟨_, rfl⟩
    have hl13_0 : w.heap.size < g13 := by rw [hg13]; exact (hE.here.1.1.2).lt
    have hl13_1 : w.heap.size + 1 < g13 := by rw [hg13]; exact (hE.here.1.2).lt
    replace hE := hE.blk 29 #[.bool sz, .slice Az nz cz, .bool tz, .slice Bz mz dz] (g := g13) hg13.symm
    generalize w12.alloc (.cells #[.bool sz, .slice Az nz cz, .bool tz, .slice Bz mz dz] 29) = W13 at hE ⊢
    rw [← hg13]
    clear hg13
    have hsum := fun k j => rdif_fl Hhdis.out Hhrf.out h21 b k j
    have hps := fun k => psd_fl Hhdis.out Hhrf.out h21 b k
    have hrl := fun k => rsum_fl Hhdis.out Hhrf.out h21 b k
    have Hhsum := Lib.hid hsum
    clear hsum
    have Hhps := Lib.hid hps
    clear hps
    have Hhrl := Lib.hid hrl
    clear hrl
    go_wp2_with fail
    go_loopw [12] (fun p wr => ∃ (k : Nat) (sz : Bool) (Az : Option Addr) (nz cz : Nat) (tz : Bool) (Bz : Option Addr) (mz dz : Nat), p = .int .i64 (k : Int) ∧ a ≤ k ∧ (k ≤ b ∨ k = a) ∧ Env w (fun V => ((((True ∧ Blk 31 (w.heap.size) #[.int .i64 F, .int .i64 S, .slice A n c, .bool si, .slice Ai ni ci, .bool ti, .slice Bi mi di] V) ∧ Blk 33 (w.heap.size + 1) #[.int .i64 E, .int .i64 Y] V) ∧ FV V (rsum v f b N a - rsum v f b N k) sz Az nz tz Bz mz) ∧ Blk 29 (g13) #[.bool sz, .slice Az nz cz, .bool tz, .slice Bz mz dz] V)) wr) (fun p _ => b - (intOf p).toNat)
    case atStart => exact ⟨a, _, _, _, _, _, _, _, _, rfl, Nat.le_refl _, .inr rfl, (((((Env.again hE.bel).blkI (hE.here.1.1.1.2)).blkI (hE.here.1.1.2)).fv (hE.here.1.2)).blkI (hE.here.2))⟩
    case round =>
      clear hE
      obtain ⟨k, sz, Az, nz, cz, tz, Bz, mz, dz, rfl, hak, hkb, hE⟩ := hrel
      by_cases hk : k < b
      · have t1 : decide ((k : Int) < (b : Int)) = true := decide_eq_true (by omega)
        have t2 : (k : Int) < (b : Int) := by omega
        obtain ⟨k14, k15, k16, k17, k18, k19, k20⟩ := (hE.here.1.1.1.2).c7
        obtain ⟨k21, k22⟩ := (hE.here.1.1.2).c2
        go_wp2_with fail
        have hc := HhAnn.out k b (by omega) (by omega) _ hE.bel
        refine (hc).mono ?_
        clear k14 k15 k16 k17 k18 k19 k20 k21 k22
        rintro e w23 ⟨sy, Ay, ny, cy, ty, By, my, dy, rfl, hy, hb⟩
        replace hE := hE.step hb
        clear hb
        replace hE := hE.fv hy
        clear hy
        clear hc
        go_upto_region 11 with (fail)
        obtain ⟨g24, hg24⟩ : ∃ g24, g24 = w23.heap.size := ⟨_, rfl⟩
        have hl24_0 : w.heap.size < g24 := by rw [hg24]; exact (hE.here.1.1.1.1.2).lt
        have hl24_1 : w.heap.size + 1 < g24 := by rw [hg24]; exact (hE.here.1.1.1.2).lt
        have hl24_3 : g13 < g24 := by rw [hg24]; exact (hE.here.1.2).lt
        replace hE := hE.blk 29 #[.bool sy, .slice Ay ny cy, .bool ty, .slice By my dy] (g := g24) hg24.symm
        generalize w23.alloc (.cells #[.bool sy, .slice Ay ny cy, .bool ty, .slice By my dy] 29) = W24 at hE ⊢
        rw [← hg24]
        clear hg24
        obtain ⟨k25, k26, k27, k28⟩ := (hE.here.1.1.2).c4
        obtain ⟨k29, k30, k31, k32⟩ := (hE.here.2).c4
        go_wp2_with fail
        have heq : rsum v f b N a - rsum v f b N k + ps (dd v f) (k : Int) (b : Int) N = rsum v f b N a - rsum v f b N (k + 1) := by rw [rsum_next v f N hk]; grind
        have hc := cw_sum (ca := cz) (da := dz) (cb := cy) (db := dy) (hE.here.1.1.1.2) (hE.here.1.2) (Hhsum.out a k) (Hhps.out k) (by rw [heq]; exact Hhsum.out a (k + 1))
        rw [heq] at hc
        clear heq
        refine (hc).mono ?_
        clear k25 k26 k27 k28 k29 k30 k31 k32
        rintro e w33 ⟨sx, Ax, nx, cx, tx, Bx, mx, dx, rfl, hx, hb⟩
        replace hE := hE.step hb
        clear hb
        replace hE := hE.fv hx
        clear hx
        clear hc
        have hgl34 : w.heap.size ≤ g13 := by omega
        obtain ⟨x34_0, x34_1, x34_2, x34_3⟩ := (hE.here.1.1.1.2).c4
        obtain ⟨f34_0, f34_1, f34_2, f34_3⟩ := hE.here.1.1.1.2.f4
        replace hE := ((((((((Env.again (bel4 hE.bel hgl34 (.bool sx) (.slice Ax nx cx) (.bool tx) (.slice Bx mx dx))).blkI ((hE.here.1.1.1.1.1.1.2).far4 (R := g13) (by omega) (.bool sx) (.slice Ax nx cx) (.bool tx) (.slice Bx mx dx))).blkI ((hE.here.1.1.1.1.1.2).far4 (R := g13) (by omega) (.bool sx) (.slice Ax nx cx) (.bool tx) (.slice Bx mx dx))).fv ((hE.here.1.1.1.1.2).sep4 hE.here.1.1.1.2 rfl (.bool sx) (.slice Ax nx cx) (.bool tx) (.slice Bx mx dx) rfl rfl rfl)).blkI ((hE.here.1.1.1.2).s4 (.bool sx) (.slice Ax nx cx) (.bool tx) (.slice Bx mx dx))).fv ((hE.here.1.1.2).sep4 hE.here.1.1.1.2 rfl (.bool sx) (.slice Ax nx cx) (.bool tx) (.slice Bx mx dx) rfl rfl rfl)).blkI ((hE.here.1.2).far4 (R := g13) (by omega) (.bool sx) (.slice Ax nx cx) (.bool tx) (.slice Bx mx dx))).fv ((hE.here.2).sep4 hE.here.1.1.1.2 rfl (.bool sx) (.slice Ax nx cx) (.bool tx) (.slice Bx mx dx) rfl rfl rfl))
        go_upto_region 9 with (fail)
        clear x34_0 x34_1 x34_2 x34_3 f34_0 f34_1 f34_2 f34_3 hgl34
        generalize ((((w33.setCell ⟨g13, 0, none⟩ (.bool sx)).setCell ⟨g13, 1, none⟩ (.slice Ax nx cx)).setCell ⟨g13, 2, none⟩ (.bool tx)).setCell ⟨g13, 3, none⟩ (.slice Bx mx dx)) = W34 at hE ⊢
        have o1 : IntKind.i64.wrap ((k : Int) + 1) = (k : Int) + 1 := by rw [IntKind.wrap_i64]; omega
        go_wp2_with fail
        go_roundw
        case rel => exact ⟨k + 1, _, _, _, _, _, _, _, _, by simp, by omega, .inl (by omega), (((((Env.again hE.bel).blkI (hE.here.1.1.1.1.1.1.2)).blkI (hE.here.1.1.1.1.1.2)).fv (hE.here.2)).blkI (hE.here.1.1.1.2))⟩
        case measure => simp [intOf]; omega
      · have t1 : decide ((k : Int) < (b : Int)) = false := decide_eq_false (by omega)
        have t2 : ¬ (k : Int) < (b : Int) := by omega
        obtain ⟨k35, k36, k37, k38, k39, k40, k41⟩ := (hE.here.1.1.1.2).c7
        obtain ⟨k42, k43⟩ := (hE.here.1.1.2).c2
        go_wp2_with fail
        have hc := HhRis.out a b (by omega) (by omega) _ hE.bel
        change Calls _ _ _ _ (FOK (rsum v f b N a) _) at hc
        refine (hc).mono ?_
        clear k35 k36 k37 k38 k39 k40 k41 k42 k43
        rintro e w44 ⟨sy, Ay, ny, cy, ty, By, my, dy, rfl, hy, hb⟩
        replace hE := hE.step hb
        clear hb
        replace hE := hE.fv hy
        clear hy
        clear hc
        go_upto_region 15 with (fail)
        obtain ⟨g45, hg45⟩ : ∃ g45, g45 = w44.heap.size := ⟨_, rfl⟩
        have hl45_0 : w.heap.size < g45 := by rw [hg45]; exact (hE.here.1.1.1.1.2).lt
        have hl45_1 : w.heap.size + 1 < g45 := by rw [hg45]; exact (hE.here.1.1.1.2).lt
        have hl45_3 : g13 < g45 := by rw [hg45]; exact (hE.here.1.2).lt
        replace hE := hE.blk 29 #[.bool sy, .slice Ay ny cy, .bool ty, .slice By my dy] (g := g45) hg45.symm
        generalize w44.alloc (.cells #[.bool sy, .slice Ay ny cy, .bool ty, .slice By my dy] 29) = W45 at hE ⊢
        rw [← hg45]
        clear hg45
        obtain ⟨k46, k47, k48, k49⟩ := (hE.here.1.1.2).c4
        obtain ⟨k50, k51, k52, k53⟩ := (hE.here.2).c4
        go_wp2_with fail
        refine (cw_equal (v := true) (ca := cy) (da := dy) (cb := cz) (db := dz) (hE.here.1.2) (hE.here.1.1.1.2) (Hhrl.out a) (Hhsum.out a k) (decide_eq_true (by rw [rsum_end v f N (show b ≤ k by omega)]; grind))).mono ?_
        clear k46 k47 k48 k49 k50 k51 k52 k53
        rintro e w54 ⟨rfl, hb⟩
        replace hE := hE.step hb
        clear hb
        go_wp2_with fail
        go_ret
        exact ⟨rfl, hE.bel⟩
  · skip
    have HhT := Lib.hid hT
    clear hT
    have Hhr := Lib.hid hr
    clear hr
    have HhU := Lib.hid hU
    clear hU
    have hE := ((Env.start w).blk 31 #[.int .i64 F, .int .i64 S, .slice A n c, .bool si, .slice Ai ni ci, .bool ti, .slice Bi mi di] (g := w.heap.size) rfl).blk 33 #[.int .i64 E, .int .i64 Y] (g := w.heap.size + 1) (by simp)
    obtain ⟨W0, hW0⟩ : ∃ W0, W0 = ((w.alloc (.cells #[.int .i64 F, .int .i64 S, .slice A n c, .bool si, .slice Ai ni ci, .bool ti, .slice Bi mi di] 31)).alloc (.cells #[.int .i64 E, .int .i64 Y] 33)) := ⟨_, rfl⟩
    rw [← hW0] at hE
    have HW0 := Lib.hid hW0
    clear hW0
    go_enter Tryz.func8, Tryz.ntmps8
    go_upto_region 1 with (fail)
    rw [← HW0.out]
    go_wp2_with fail
    refine (awakeB_t _).mono ?_
    rintro e w1 ⟨rfl, hb⟩
    replace hE := hE.step hb
    clear hb
    obtain ⟨k2, k3, k4, k5, k6, k7, k8⟩ := (hE.here.1.2).c7
    obtain ⟨k9, k10⟩ := (hE.here.2).c2
    go_wp2_with fail
    refine (usableB_f (HhT.out.below hE.bel) (Hhr.out.below hE.bel) HhU.out).mono ?_
    clear k2 k3 k4 k5 k6 k7 k8 k9 k10
    rintro e w11 ⟨rfl, hb⟩
    replace hE := hE.step hb
    clear hb
    go_wp2_with fail
    go_ret
    exact ⟨rfl, hE.bel⟩
end Go.Proofs.YtmjlankpihnicaaGreat
