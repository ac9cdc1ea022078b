/-
  The walks of Annuity, Assurance, Rising and Endowment.
-/
import Derived.Test.YtmjlankpihnicaaGreatHk
import Derived.Test.YtmjlankpihnicaaGreatC7
namespace Go.Proofs.YtmjlankpihnicaaGreat
open Go.RowKit

set_option linter.unusedSimpArgs false in
set_option maxRecDepth 100000 in
set_option maxHeartbeats 4000000 in
theorem cAnn_v {F S E Y : Int} {A : Option Addr} {n c : Nat} {r : Nat → RH} {si ti : Bool} {Ai Bi : Option Addr} {ni ci mi di : Nat} {fi gi : Nat → Nat} {w : World} (hT : TabM w A n r) (hB : TabB n r) (hr : FRd w Ai ni fi Bi mi gi) (hn : ni ≤ 1000000) (hm : mi ≤ 1000000) (hbk : BOK F S n r si ni fi ti mi gi) (hR : RightP F S n r E Y) (N : Nat) (hN : Cnt (1 / (1 + qOf si ni fi mi gi)) (fr F S n r E Y) N) (h80 : N ≤ 80) (a b : Nat) (ha : a ≤ 9223372036854775807) (hb : b ≤ 9223372036854775807) :
    Calls Tryz.prog 26 #[.agg #[.int .i64 F, .int .i64 S, .slice A n c, .bool si, .slice Ai ni ci, .bool ti, .slice Bi mi di], .agg #[.int .i64 E, .int .i64 Y], .int .i64 (a : Int), .int .i64 (b : Int)] w (FOK (ps (dd (1 / (1 + qOf si ni fi mi gi)) (fr F S n r E Y)) (a : Int) (b : Int) N) w) := by
  obtain ⟨Z, hZ⟩ : ∃ z, z = ps (dd (1 / (1 + qOf si ni fi mi gi)) (fr F S n r E Y)) (a : Int) (b : Int) N := ⟨_, rfl⟩
  rw [← hZ]
  have HhT := Lib.hid hT
  clear hT
  have HhB := Lib.hid hB
  clear hB
  have Hhr := Lib.hid hr
  clear hr
  have Hhbk := Lib.hid hbk
  clear hbk
  have HhR := Lib.hid hR
  clear hR
  have HhN := Lib.hid hN
  clear hN
  have HhZ := Lib.hid hZ
  clear hZ
  have hE := ((Env.start w).blk 31 #[.int .i64 F, .int .i64 S, .slice A n c, .bool si, .slice Ai ni ci, .bool ti, .slice Bi mi di] (g := w.heap.size) rfl).blk 33 #[.int .i64 E, .int .i64 Y] (g := w.heap.size + 1) (by simp)
  have hE := hE.blk 29 #[.bool false, .slice none 0 0, .bool false, .slice none 0 0] (g := w.heap.size + 1 + 1) (by simp)
  obtain ⟨W0, hW0⟩ : ∃ W0, W0 = (((w.alloc (.cells #[.int .i64 F, .int .i64 S, .slice A n c, .bool si, .slice Ai ni ci, .bool ti, .slice Bi mi di] 31)).alloc (.cells #[.int .i64 E, .int .i64 Y] 33)).alloc (.cells #[.bool false, .slice none 0 0, .bool false, .slice none 0 0] 29)) := ⟨_, rfl⟩
  rw [← hW0] at hE
  have HW0 := Lib.hid hW0
  clear hW0
  go_enter Tryz.func26, Tryz.ntmps26
  go_upto_region 1 with (fail)
  rw [← HW0.out]
  obtain ⟨k1, k2, k3, k4, k5, k6, k7⟩ := (hE.h2).c7
  obtain ⟨k8, k9⟩ := (hE.here.1.2).c2
  go_wp2_with fail
  have hc := cpresA_v (c := c) (ci := ci) (di := di) (HhT.out.below hE.bel) HhB.out (Hhr.out.below hE.bel) hn hm Hhbk.out HhR.out N HhN.out h80 a b ha hb
  rw [← HhZ.out] at hc
  refine hE.fr (hc) ?_
  clear hE k1 k2 k3 k4 k5 k6 k7 k8 k9
  intro sz Az nz cz tz Bz mz dz w10 hE
  clear hc
  have hRl : w.heap.size ≤ w.heap.size + 1 + 1 := by omega
  obtain ⟨WW, hWW, hB, hV, hBel⟩ := ret_frac hE hE.here.1.2 hRl hE.here.2 cz dz
  obtain ⟨x0, x1, x2, x3⟩ := (hE.here.1.2).c4
  obtain ⟨fz0, fz1, fz2, fz3⟩ := hE.here.1.2.f4
  have HWW := Lib.hid hWW
  clear hWW
  go_wp2_with fail
  clear x0 x1 x2 x3
  rw [← HWW.out]
  obtain ⟨y0, y1, y2, y3⟩ := hB.c4
  refine bodyPost_ret (v := .tuple #[.agg #[.bool sz, .slice Az nz cz, .bool tz, .slice Bz mz dz], .int .i64 0]) (by simp [results, Tryz.results26, go_sem, y0, y1, y2, y3]) rfl ?_
  exact ⟨sz, Az, nz, cz, tz, Bz, mz, dz, rfl, hV, hBel⟩
set_option linter.unusedSimpArgs false in
set_option maxRecDepth 100000 in
set_option maxHeartbeats 4000000 in
theorem cAss_v {F S E Y : Int} {A : Option Addr} {n c : Nat} {r : Nat → RH} {si ti : Bool} {Ai Bi : Option Addr} {ni ci mi di : Nat} {fi gi : Nat → Nat} {w : World} (hT : TabM w A n r) (hB : TabB n r) (hr : FRd w Ai ni fi Bi mi gi) (hn : ni ≤ 1000000) (hm : mi ≤ 1000000) (hbk : BOK F S n r si ni fi ti mi gi) (hR : RightP F S n r E Y) (N : Nat) (hN : Cnt (1 / (1 + qOf si ni fi mi gi)) (fr F S n r E Y) N) (h80 : N ≤ 80) (a b : Nat) (ha : a ≤ 9223372036854775807) (hb : b ≤ 9223372036854775807) :
    Calls Tryz.prog 27 #[.agg #[.int .i64 F, .int .i64 S, .slice A n c, .bool si, .slice Ai ni ci, .bool ti, .slice Bi mi di], .agg #[.int .i64 E, .int .i64 Y], .int .i64 (a : Int), .int .i64 (b : Int)] w (FOK (ps (cc (1 / (1 + qOf si ni fi mi gi)) (fr F S n r E Y)) (a : Int) (b : Int) N) w) := by
  obtain ⟨Z, hZ⟩ : ∃ z, z = ps (cc (1 / (1 + qOf si ni fi mi gi)) (fr F S n r E Y)) (a : Int) (b : Int) N := ⟨_, rfl⟩
  rw [← hZ]
  have HhT := Lib.hid hT
  clear hT
  have HhB := Lib.hid hB
  clear hB
  have Hhr := Lib.hid hr
  clear hr
  have Hhbk := Lib.hid hbk
  clear hbk
  have HhR := Lib.hid hR
  clear hR
  have HhN := Lib.hid hN
  clear hN
  have HhZ := Lib.hid hZ
  clear hZ
  have hE := ((Env.start w).blk 31 #[.int .i64 F, .int .i64 S, .slice A n c, .bool si, .slice Ai ni ci, .bool ti, .slice Bi mi di] (g := w.heap.size) rfl).blk 33 #[.int .i64 E, .int .i64 Y] (g := w.heap.size + 1) (by simp)
  have hE := hE.blk 29 #[.bool false, .slice none 0 0, .bool false, .slice none 0 0] (g := w.heap.size + 1 + 1) (by simp)
  obtain ⟨W0, hW0⟩ : ∃ W0, W0 = (((w.alloc (.cells #[.int .i64 F, .int .i64 S, .slice A n c, .bool si, .slice Ai ni ci, .bool ti, .slice Bi mi di] 31)).alloc (.cells #[.int .i64 E, .int .i64 Y] 33)).alloc (.cells #[.bool false, .slice none 0 0, .bool false, .slice none 0 0] 29)) := ⟨_, rfl⟩
  rw [← hW0] at hE
  have HW0 := Lib.hid hW0
  clear hW0
  go_enter Tryz.func27, Tryz.ntmps27
  go_upto_region 1 with (fail)
  rw [← HW0.out]
  obtain ⟨k1, k2, k3, k4, k5, k6, k7⟩ := (hE.h2).c7
  obtain ⟨k8, k9⟩ := (hE.here.1.2).c2
  go_wp2_with fail
  have hc := cpresC_v (c := c) (ci := ci) (di := di) (HhT.out.below hE.bel) HhB.out (Hhr.out.below hE.bel) hn hm Hhbk.out HhR.out N HhN.out h80 a b ha hb
  rw [← HhZ.out] at hc
  refine hE.fr (hc) ?_
  clear hE k1 k2 k3 k4 k5 k6 k7 k8 k9
  intro sz Az nz cz tz Bz mz dz w10 hE
  clear hc
  have hRl : w.heap.size ≤ w.heap.size + 1 + 1 := by omega
  obtain ⟨WW, hWW, hB, hV, hBel⟩ := ret_frac hE hE.here.1.2 hRl hE.here.2 cz dz
  obtain ⟨x0, x1, x2, x3⟩ := (hE.here.1.2).c4
  obtain ⟨fz0, fz1, fz2, fz3⟩ := hE.here.1.2.f4
  have HWW := Lib.hid hWW
  clear hWW
  go_wp2_with fail
  clear x0 x1 x2 x3
  rw [← HWW.out]
  obtain ⟨y0, y1, y2, y3⟩ := hB.c4
  refine bodyPost_ret (v := .tuple #[.agg #[.bool sz, .slice Az nz cz, .bool tz, .slice Bz mz dz], .int .i64 0]) (by simp [results, Tryz.results27, go_sem, y0, y1, y2, y3]) rfl ?_
  exact ⟨sz, Az, nz, cz, tz, Bz, mz, dz, rfl, hV, hBel⟩
set_option linter.unusedSimpArgs false in
set_option maxRecDepth 100000 in
set_option maxHeartbeats 4000000 in
theorem cRis_v {F S E Y : Int} {A : Option Addr} {n c : Nat} {r : Nat → RH} {si ti : Bool} {Ai Bi : Option Addr} {ni ci mi di : Nat} {fi gi : Nat → Nat} {w : World} (hT : TabM w A n r) (hB : TabB n r) (hr : FRd w Ai ni fi Bi mi gi) (hn : ni ≤ 1000000) (hm : mi ≤ 1000000) (hbk : BOK F S n r si ni fi ti mi gi) (hR : RightP F S n r E Y) (N : Nat) (hN : Cnt (1 / (1 + qOf si ni fi mi gi)) (fr F S n r E Y) N) (h80 : N ≤ 80) (a b : Nat) (ha : a ≤ 9223372036854775807) (hb : b ≤ 9223372036854775807) :
    Calls Tryz.prog 28 #[.agg #[.int .i64 F, .int .i64 S, .slice A n c, .bool si, .slice Ai ni ci, .bool ti, .slice Bi mi di], .agg #[.int .i64 E, .int .i64 Y], .int .i64 (a : Int), .int .i64 (b : Int)] w (FOK (ps (rs (dd (1 / (1 + qOf si ni fi mi gi)) (fr F S n r E Y)) (a : Int)) (a : Int) (b : Int) N) w) := by
  obtain ⟨Z, hZ⟩ : ∃ z, z = ps (rs (dd (1 / (1 + qOf si ni fi mi gi)) (fr F S n r E Y)) (a : Int)) (a : Int) (b : Int) N := ⟨_, rfl⟩
  rw [← hZ]
  have HhT := Lib.hid hT
  clear hT
  have HhB := Lib.hid hB
  clear hB
  have Hhr := Lib.hid hr
  clear hr
  have Hhbk := Lib.hid hbk
  clear hbk
  have HhR := Lib.hid hR
  clear hR
  have HhN := Lib.hid hN
  clear hN
  have HhZ := Lib.hid hZ
  clear hZ
  have hE := (((Env.start w).blk 31 #[.int .i64 F, .int .i64 S, .slice A n c, .bool si, .slice Ai ni ci, .bool ti, .slice Bi mi di] (g := w.heap.size) rfl).blk 33 #[.int .i64 E, .int .i64 Y] (g := w.heap.size + 1) (by simp)).blk 3 #[.int .i64 (a : Int)] (g := w.heap.size + 1 + 1) (by simp)
  have hE := hE.blk 29 #[.bool false, .slice none 0 0, .bool false, .slice none 0 0] (g := w.heap.size + 1 + 1 + 1) (by simp)
  obtain ⟨W0, hW0⟩ : ∃ W0, W0 = ((((w.alloc (.cells #[.int .i64 F, .int .i64 S, .slice A n c, .bool si, .slice Ai ni ci, .bool ti, .slice Bi mi di] 31)).alloc (.cells #[.int .i64 E, .int .i64 Y] 33)).alloc (.cells #[.int .i64 (a : Int)] 3)).alloc (.cells #[.bool false, .slice none 0 0, .bool false, .slice none 0 0] 29)) := ⟨_, rfl⟩
  rw [← hW0] at hE
  have HW0 := Lib.hid hW0
  clear hW0
  go_enter Tryz.func28, Tryz.ntmps28
  go_upto_region 1 with (fail)
  rw [← HW0.out]
  obtain ⟨k1, k2, k3, k4, k5, k6, k7⟩ := (hE.h3).c7
  obtain ⟨k8, k9⟩ := (hE.h2).c2
  have k10 := (hE.here.1.2).c1
  go_wp2_with fail
  have hc := cpresR_v (c := c) (ci := ci) (di := di) (HhT.out.below hE.bel) HhB.out (Hhr.out.below hE.bel) hn hm Hhbk.out HhR.out N HhN.out h80 a b ha hb (w.heap.size + 1 + 1) (hE.here.1.2).lt (hE.here.1.2).c1
  rw [← HhZ.out] at hc
  refine hE.fr (hc) ?_
  clear hE k1 k2 k3 k4 k5 k6 k7 k8 k9 k10
  intro sz Az nz cz tz Bz mz dz w11 hE
  clear hc
  have hRl : w.heap.size ≤ w.heap.size + 1 + 1 + 1 := by omega
  obtain ⟨WW, hWW, hB, hV, hBel⟩ := ret_frac hE hE.here.1.2 hRl hE.here.2 cz dz
  obtain ⟨x0, x1, x2, x3⟩ := (hE.here.1.2).c4
  obtain ⟨fz0, fz1, fz2, fz3⟩ := hE.here.1.2.f4
  have HWW := Lib.hid hWW
  clear hWW
  go_wp2_with fail
  clear x0 x1 x2 x3
  rw [← HWW.out]
  obtain ⟨y0, y1, y2, y3⟩ := hB.c4
  refine bodyPost_ret (v := .tuple #[.agg #[.bool sz, .slice Az nz cz, .bool tz, .slice Bz mz dz], .int .i64 0]) (by simp [results, Tryz.results28, go_sem, y0, y1, y2, y3]) rfl ?_
  exact ⟨sz, Az, nz, cz, tz, Bz, mz, dz, rfl, hV, hBel⟩
set_option linter.unusedSimpArgs false in
set_option maxRecDepth 100000 in
set_option maxHeartbeats 4000000 in
theorem cEnd_v {F S E Y : Int} {A : Option Addr} {n c : Nat} {r : Nat → RH} {si ti : Bool} {Ai Bi : Option Addr} {ni ci mi di : Nat} {fi gi : Nat → Nat} {w : World} (hT : TabM w A n r) (hB : TabB n r) (hr : FRd w Ai ni fi Bi mi gi) (hn : ni ≤ 1000000) (hm : mi ≤ 1000000) (hbk : BOK F S n r si ni fi ti mi gi) (hR : RightP F S n r E Y) (N : Nat) (hN : Cnt (1 / (1 + qOf si ni fi mi gi)) (fr F S n r E Y) N) (h80 : N ≤ 80) (k : Nat) (hk : k ≤ 9223372036854775807) :
    Calls Tryz.prog 29 #[.agg #[.int .i64 F, .int .i64 S, .slice A n c, .bool si, .slice Ai ni ci, .bool ti, .slice Bi mi di], .agg #[.int .i64 E, .int .i64 Y], .int .i64 (k : Int)] w (FOK (if k < N then dd (1 / (1 + qOf si ni fi mi gi)) (fr F S n r E Y) k else 0) w) := by
  by_cases hkN : k < N
  · rw [if_pos hkN]
    obtain ⟨f, hf⟩ : ∃ f, f = fr F S n r E Y := ⟨_, rfl⟩
    obtain ⟨v, hv⟩ : ∃ v, v = 1 / (1 + qOf si ni fi mi gi) := ⟨_, rfl⟩
    have hcols := fun (W : World) (hW : Below w.heap.size w W) => ccolsE_v (c := c) (ci := ci) (di := di) (hT.below hW) hB (hr.below hW) hn hm hbk hR N hN h80
    have hN0 := hN.pos
    rw [← hv, ← hf] at hcols
    rw [← hv, ← hf]
    have HhT := Lib.hid hT
    clear hT
    have HhB := Lib.hid hB
    clear hB
    have Hhr := Lib.hid hr
    clear hr
    have Hhbk := Lib.hid hbk
    clear hbk
    have HhR := Lib.hid hR
    clear hR
    have HhN := Lib.hid hN
    clear hN
    have Hhcols := Lib.hid hcols
    clear hcols
    have Hhf := Lib.hid hf
    clear hf
    have Hhv := Lib.hid hv
    clear hv
    have HhkN := Lib.hid hkN
    clear hkN
    have t1 : decide ((k : Int) < 0) = false := decide_eq_false (by omega)
    have t9 : ¬ (k : Int) < 0 := by omega
    have hE := ((Env.start w).blk 31 #[.int .i64 F, .int .i64 S, .slice A n c, .bool si, .slice Ai ni ci, .bool ti, .slice Bi mi di] (g := w.heap.size) rfl).blk 33 #[.int .i64 E, .int .i64 Y] (g := w.heap.size + 1) (by simp)
    have hE := hE.blk 29 #[.bool false, .slice none 0 0, .bool false, .slice none 0 0] (g := w.heap.size + 1 + 1) (by simp)
    obtain ⟨W0, hW0⟩ : ∃ W0, W0 = (((w.alloc (.cells #[.int .i64 F, .int .i64 S, .slice A n c, .bool si, .slice Ai ni ci, .bool ti, .slice Bi mi di] 31)).alloc (.cells #[.int .i64 E, .int .i64 Y] 33)).alloc (.cells #[.bool false, .slice none 0 0, .bool false, .slice none 0 0] 29)) := ⟨_, rfl⟩
    rw [← hW0] at hE
    have HW0 := Lib.hid hW0
    clear hW0
    go_enter Tryz.func29, Tryz.ntmps29
    go_upto_region 1 with (fail)
    rw [← HW0.out]
    obtain ⟨k1, k2, k3, k4, k5, k6, k7⟩ := (hE.h2).c7
    obtain ⟨k8, k9⟩ := (hE.here.1.2).c2
    go_wp2_with fail
    refine (Hhcols.out _ hE.bel).mono ?_
    clear k1 k2 k3 k4 k5 k6 k7 k8 k9
    rintro e w9 ⟨cv, h, rfl, hcv, hcq, hb1⟩
    replace hE := hE.step hb1
    rcases hcv with ⟨-, h0⟩ | ⟨g, cap, rfl, -, hCB⟩
    · omega
    clear hb1
    have hgl : g < w9.heap.size := ColP.lt hCB
    have t4 : (k : Int) < (N : Int) := by have := HhkN.out; omega
    have t2 : decide ((N : Int) ≤ (k : Int)) = false := decide_eq_false (by omega)
    have t3 : ¬ (N : Int) ≤ (k : Int) := by omega
    replace hE := hE.fv (show FV w9 (dd v f k) (h k 0).s (h k 0).A (h k 0).n (h k 0).t (h k 0).B (h k 0).m from hcq k HhkN.out 0 (by decide) (.inl rfl))
    have q0 : w9.cell? ⟨g, k * 24, none⟩ = some (.bool (h k 0).s) := hCB.at2 (j := 0) (i := 0) HhkN.out (by decide) (by decide) (by omega) rfl
    have q1 : w9.cell? ⟨g, k * 24 + 1, none⟩ = some (.slice (h k 0).A (h k 0).n (h k 0).c) := hCB.at2 (j := 0) (i := 1) HhkN.out (by decide) (by decide) (by omega) rfl
    have q2 : w9.cell? ⟨g, k * 24 + 2, none⟩ = some (.bool (h k 0).t) := hCB.at2 (j := 0) (i := 2) HhkN.out (by decide) (by decide) (by omega) rfl
    have q3 : w9.cell? ⟨g, k * 24 + 3, none⟩ = some (.slice (h k 0).B (h k 0).m (h k 0).d) := hCB.at2 (j := 0) (i := 3) HhkN.out (by decide) (by decide) (by omega) rfl
    have hRl : w.heap.size ≤ w.heap.size + 1 + 1 := by omega
    obtain ⟨WW, hWW, hB, hV, hBel⟩ := ret_frac hE hE.here.1.2 hRl hE.here.2 (h k 0).c (h k 0).d
    obtain ⟨x0, x1, x2, x3⟩ := (hE.here.1.2).c4
    obtain ⟨fz0, fz1, fz2, fz3⟩ := hE.here.1.2.f4
    have HWW := Lib.hid hWW
    clear hWW
    go_wp2_with fail
    clear x0 x1 x2 x3
    rw [← HWW.out]
    obtain ⟨y0, y1, y2, y3⟩ := hB.c4
    refine bodyPost_ret (v := .tuple #[.agg #[.bool (h k 0).s, .slice (h k 0).A (h k 0).n (h k 0).c, .bool (h k 0).t, .slice (h k 0).B (h k 0).m (h k 0).d], .int .i64 0]) (by simp [results, Tryz.results29, go_sem, y0, y1, y2, y3]) rfl ?_
    exact ⟨(h k 0).s, (h k 0).A, (h k 0).n, (h k 0).c, (h k 0).t, (h k 0).B, (h k 0).m, (h k 0).d, rfl, hV, hBel⟩
  · rw [if_neg hkN]
    obtain ⟨f, hf⟩ : ∃ f, f = fr F S n r E Y := ⟨_, rfl⟩
    obtain ⟨v, hv⟩ : ∃ v, v = 1 / (1 + qOf si ni fi mi gi) := ⟨_, rfl⟩
    have hcols := fun (W : World) (hW : Below w.heap.size w W) => ccolsE_v (c := c) (ci := ci) (di := di) (hT.below hW) hB (hr.below hW) hn hm hbk hR N hN h80
    have hN0 := hN.pos
    rw [← hv, ← hf] at hcols
    have HhT := Lib.hid hT
    clear hT
    have HhB := Lib.hid hB
    clear hB
    have Hhr := Lib.hid hr
    clear hr
    have Hhbk := Lib.hid hbk
    clear hbk
    have HhR := Lib.hid hR
    clear hR
    have HhN := Lib.hid hN
    clear hN
    have Hhcols := Lib.hid hcols
    clear hcols
    have Hhf := Lib.hid hf
    clear hf
    have Hhv := Lib.hid hv
    clear hv
    have HhkN := Lib.hid hkN
    clear hkN
    have t1 : decide ((k : Int) < 0) = false := decide_eq_false (by omega)
    have t9 : ¬ (k : Int) < 0 := by omega
    have hE := ((Env.start w).blk 31 #[.int .i64 F, .int .i64 S, .slice A n c, .bool si, .slice Ai ni ci, .bool ti, .slice Bi mi di] (g := w.heap.size) rfl).blk 33 #[.int .i64 E, .int .i64 Y] (g := w.heap.size + 1) (by simp)
    have hE := hE.blk 29 #[.bool false, .slice none 0 0, .bool false, .slice none 0 0] (g := w.heap.size + 1 + 1) (by simp)
    obtain ⟨W0, hW0⟩ : ∃ W0, W0 = (((w.alloc (.cells #[.int .i64 F, .int .i64 S, .slice A n c, .bool si, .slice Ai ni ci, .bool ti, .slice Bi mi di] 31)).alloc (.cells #[.int .i64 E, .int .i64 Y] 33)).alloc (.cells #[.bool false, .slice none 0 0, .bool false, .slice none 0 0] 29)) := ⟨_, rfl⟩
    rw [← hW0] at hE
    have HW0 := Lib.hid hW0
    clear hW0
    go_enter Tryz.func29, Tryz.ntmps29
    go_upto_region 1 with (fail)
    rw [← HW0.out]
    obtain ⟨k1, k2, k3, k4, k5, k6, k7⟩ := (hE.h2).c7
    obtain ⟨k8, k9⟩ := (hE.here.1.2).c2
    go_wp2_with fail
    refine (Hhcols.out _ hE.bel).mono ?_
    clear k1 k2 k3 k4 k5 k6 k7 k8 k9
    rintro e w9 ⟨cv, h, rfl, hcv, hcq, hb1⟩
    replace hE := hE.step hb1
    rcases hcv with ⟨-, h0⟩ | ⟨g, cap, rfl, -, hCB⟩
    · omega
    clear hb1
    have hgl : g < w9.heap.size := ColP.lt hCB
    have t2 : decide ((N : Int) ≤ (k : Int)) = true := decide_eq_true (by have := HhkN.out; omega)
    have t3 : (N : Int) ≤ (k : Int) := by have := HhkN.out; omega
    go_wp2_with fail
    have hc := ffromInt_v 0 w9 (by decide) (by decide)
    rw [show (((0 : Int) : Rat)) = 0 from rfl] at hc
    refine hE.fr (hc) ?_
    clear hE
    intro sz Az nz cz tz Bz mz dz w10 hE
    clear hc
    have hRl : w.heap.size ≤ w.heap.size + 1 + 1 := by omega
    obtain ⟨WW, hWW, hB, hV, hBel⟩ := ret_frac hE hE.here.1.2 hRl hE.here.2 cz dz
    obtain ⟨x0, x1, x2, x3⟩ := (hE.here.1.2).c4
    obtain ⟨fz0, fz1, fz2, fz3⟩ := hE.here.1.2.f4
    have HWW := Lib.hid hWW
    clear hWW
    go_wp2_with fail
    clear x0 x1 x2 x3
    rw [← HWW.out]
    obtain ⟨y0, y1, y2, y3⟩ := hB.c4
    refine bodyPost_ret (v := .tuple #[.agg #[.bool sz, .slice Az nz cz, .bool tz, .slice Bz mz dz], .int .i64 0]) (by simp [results, Tryz.results29, go_sem, y0, y1, y2, y3]) rfl ?_
    exact ⟨sz, Az, nz, cz, tz, Bz, mz, dz, rfl, hV, hBel⟩
end Go.Proofs.YtmjlankpihnicaaGreat
