/-
  The laws' Large, usable and later of layer 31.
-/
import Derived.Test.YtmjlankpihnicaaGreatC10
import Derived.Test.YtmjlankpihnicaaGreatK9
namespace Go.Proofs.YtmjlankpihnicaaGreat
open Go.RowKit

/-- What Large denies. -/
def SmB (n : Nat) (r : Nat → RH) (N : Int) (ni mi : Nat) : Prop := TabS n r N 8 2 ∧ ni ≤ 2 ∧ mi ≤ 2
/-- What usable says. -/
def UsB (F S : Int) (n : Nat) (r : Nat → RH) (E Y : Int) (si : Bool) (ni : Nat) (fi : Nat → Nat) (ti : Bool) (mi : Nat) (gi : Nat → Nat) : Prop := SmB n r 20 ni mi ∧ BOK F S n r si ni fi ti mi gi ∧ RightP F S n r E Y
set_option linter.unusedSimpArgs false in
set_option maxRecDepth 100000 in
set_option maxHeartbeats 4000000 in
theorem largeB_any (F S N : Int) (A : Option Addr) (n c : Nat) (r : Nat → RH) (si ti : Bool) (Ai Bi : Option Addr) (ni mi ci di : Nat) (w : World) (hT : TabM w A n r) (h1 : 0 ≤ N) (h2 : N ≤ 1000000) :
    Calls Tryz.prog 10 #[.agg #[.int .i64 F, .int .i64 S, .slice A n c, .bool si, .slice Ai ni ci, .bool ti, .slice Bi mi di], .int .i64 N] w fun e w' => ∃ v, e = .returned (.bool v) ∧ (v = false ↔ SmB n r N ni mi) ∧ Below w.heap.size w w' := by
  by_cases hs : TabS n r N 8 2
  · by_cases hn : ni ≤ 2
    · have t1 : decide ((2 : Int) < (ni : Int)) = false := decide_eq_false (by omega)
      by_cases hm : mi ≤ 2
      · have t2 : decide ((2 : Int) < (mi : Int)) = false := decide_eq_false (by omega)
        have HN : Hid (SmB n r N ni mi) := Lib.hid ⟨hs, hn, hm⟩
        have hE := ((Env.start w).tab hT).blk 31 #[.int .i64 F, .int .i64 S, .slice A n c, .bool si, .slice Ai ni ci, .bool ti, .slice Bi mi di] (g := w.heap.size) rfl
        obtain ⟨W0, hW0⟩ : ∃ W0, W0 = (w.alloc (.cells #[.int .i64 F, .int .i64 S, .slice A n c, .bool si, .slice Ai ni ci, .bool ti, .slice Bi mi di] 31)) := ⟨_, rfl⟩
        rw [← hW0] at hE
        have HW0 := Lib.hid hW0
        clear hW0
        go_enter Tryz.func10, Tryz.ntmps10
        go_upto_region 1 with (fail)
        rw [← HW0.out]
        obtain ⟨k1, k2, k3, k4, k5, k6, k7⟩ := (hE.here.2).c7
        go_wp2_with fail
        refine (large_iff F S N 8 2 A n c r _ (hE.here.1.2) h1 h2 (by decide) (by decide)).mono ?_
        clear k1 k2 k3 k4 k5 k6 k7
        rintro e w9 ⟨v, rfl, hv, hb⟩
        obtain rfl : v = false := hv.2 hs
        clear hv
        replace hE := hE.step hb
        clear hb
        obtain ⟨k8, k9, k10, k11, k12, k13, k14⟩ := (hE.here.2).c7
        go_wp2_with fail
        go_ret
        exact ⟨false, rfl, ⟨fun _ => HN.out, fun _ => rfl⟩, hE.bel⟩
      · have t2 : decide ((2 : Int) < (mi : Int)) = true := decide_eq_true (by omega)
        have HN : Hid (¬ SmB n r N ni mi) := Lib.hid (fun h => hm h.2.2)
        have hE := ((Env.start w).tab hT).blk 31 #[.int .i64 F, .int .i64 S, .slice A n c, .bool si, .slice Ai ni ci, .bool ti, .slice Bi mi di] (g := w.heap.size) rfl
        obtain ⟨W0, hW0⟩ : ∃ W0, W0 = (w.alloc (.cells #[.int .i64 F, .int .i64 S, .slice A n c, .bool si, .slice Ai ni ci, .bool ti, .slice Bi mi di] 31)) := ⟨_, rfl⟩
        rw [← hW0] at hE
        have HW0 := Lib.hid hW0
        clear hW0
        go_enter Tryz.func10, Tryz.ntmps10
        go_upto_region 1 with (fail)
        rw [← HW0.out]
        obtain ⟨k1, k2, k3, k4, k5, k6, k7⟩ := (hE.here.2).c7
        go_wp2_with fail
        refine (large_iff F S N 8 2 A n c r _ (hE.here.1.2) h1 h2 (by decide) (by decide)).mono ?_
        clear k1 k2 k3 k4 k5 k6 k7
        rintro e w9 ⟨v, rfl, hv, hb⟩
        obtain rfl : v = false := hv.2 hs
        clear hv
        replace hE := hE.step hb
        clear hb
        obtain ⟨k8, k9, k10, k11, k12, k13, k14⟩ := (hE.here.2).c7
        go_wp2_with fail
        go_ret
        exact ⟨true, rfl, no_tab HN.out, hE.bel⟩
    · have t1 : decide ((2 : Int) < (ni : Int)) = true := decide_eq_true (by omega)
      have HN : Hid (¬ SmB n r N ni mi) := Lib.hid (fun h => hn h.2.1)
      have hE := ((Env.start w).tab hT).blk 31 #[.int .i64 F, .int .i64 S, .slice A n c, .bool si, .slice Ai ni ci, .bool ti, .slice Bi mi di] (g := w.heap.size) rfl
      obtain ⟨W0, hW0⟩ : ∃ W0, W0 = (w.alloc (.cells #[.int .i64 F, .int .i64 S, .slice A n c, .bool si, .slice Ai ni ci, .bool ti, .slice Bi mi di] 31)) := ⟨_, rfl⟩
      rw [← hW0] at hE
      have HW0 := Lib.hid hW0
      clear hW0
      go_enter Tryz.func10, Tryz.ntmps10
      go_upto_region 1 with (fail)
      rw [← HW0.out]
      obtain ⟨k1, k2, k3, k4, k5, k6, k7⟩ := (hE.here.2).c7
      go_wp2_with fail
      refine (large_iff F S N 8 2 A n c r _ (hE.here.1.2) h1 h2 (by decide) (by decide)).mono ?_
      clear k1 k2 k3 k4 k5 k6 k7
      rintro e w9 ⟨v, rfl, hv, hb⟩
      obtain rfl : v = false := hv.2 hs
      clear hv
      replace hE := hE.step hb
      clear hb
      obtain ⟨k8, k9, k10, k11, k12, k13, k14⟩ := (hE.here.2).c7
      go_wp2_with fail
      go_ret
      exact ⟨true, rfl, no_tab HN.out, hE.bel⟩
  · have HN : Hid (¬ SmB n r N ni mi) := Lib.hid (fun h => hs h.1)
    have hE := ((Env.start w).tab hT).blk 31 #[.int .i64 F, .int .i64 S, .slice A n c, .bool si, .slice Ai ni ci, .bool ti, .slice Bi mi di] (g := w.heap.size) rfl
    obtain ⟨W0, hW0⟩ : ∃ W0, W0 = (w.alloc (.cells #[.int .i64 F, .int .i64 S, .slice A n c, .bool si, .slice Ai ni ci, .bool ti, .slice Bi mi di] 31)) := ⟨_, rfl⟩
    rw [← hW0] at hE
    have HW0 := Lib.hid hW0
    clear hW0
    go_enter Tryz.func10, Tryz.ntmps10
    go_upto_region 1 with (fail)
    rw [← HW0.out]
    obtain ⟨k1, k2, k3, k4, k5, k6, k7⟩ := (hE.here.2).c7
    go_wp2_with fail
    refine (large_iff F S N 8 2 A n c r _ (hE.here.1.2) h1 h2 (by decide) (by decide)).mono ?_
    clear k1 k2 k3 k4 k5 k6 k7
    rintro e w9 ⟨v, rfl, hv, hb⟩
    obtain rfl : v = true := by cases v with | true => rfl | false => exact absurd (hv.1 rfl) hs
    clear hv
    replace hE := hE.step hb
    clear hb
    go_wp2_with fail
    go_ret
    exact ⟨true, rfl, no_tab HN.out, hE.bel⟩
set_option linter.unusedSimpArgs false in
set_option maxRecDepth 100000 in
set_option maxHeartbeats 4000000 in
theorem usableB_any (F S E Y : Int) (A : Option Addr) (n c : Nat) (r : Nat → RH) (si ti : Bool) (Ai Bi : Option Addr) (ni mi ci di : Nat) (fi gi : Nat → Nat) (w : World) (hT : TabM w A n r) (hr : FRd w Ai ni fi Bi mi gi) :
    Calls Tryz.prog 16 #[.agg #[.int .i64 F, .int .i64 S, .slice A n c, .bool si, .slice Ai ni ci, .bool ti, .slice Bi mi di], .agg #[.int .i64 E, .int .i64 Y]] w (BoolIff (UsB F S n r E Y si ni fi ti mi gi) w) := by
  by_cases h1 : SmB n r 20 ni mi
  · have hB := h1.1.b (by decide) (by decide) (by decide)
    obtain ⟨-, hn2, hm2⟩ := id h1
    by_cases h2 : BOK F S n r si ni fi ti mi gi
    · by_cases h3 : RightP F S n r E Y
      · have HN : Hid (UsB F S n r E Y si ni fi ti mi gi) := Lib.hid ⟨h1, h2, h3⟩
        have hE := (((Env.start w).tab hT).blk 31 #[.int .i64 F, .int .i64 S, .slice A n c, .bool si, .slice Ai ni ci, .bool ti, .slice Bi mi di] (g := w.heap.size) rfl).blk 33 #[.int .i64 E, .int .i64 Y] (g := w.heap.size + 1) (by simp)
        obtain ⟨W0, hW0⟩ : ∃ W0, W0 = ((w.alloc (.cells #[.int .i64 F, .int .i64 S, .slice A n c, .bool si, .slice Ai ni ci, .bool ti, .slice Bi mi di] 31)).alloc (.cells #[.int .i64 E, .int .i64 Y] 33)) := ⟨_, rfl⟩
        rw [← hW0] at hE
        have HW0 := Lib.hid hW0
        clear hW0
        go_enter Tryz.func16, Tryz.ntmps16
        go_upto_region 1 with (fail)
        rw [← HW0.out]
        obtain ⟨k1, k2, k3, k4, k5, k6, k7⟩ := (hE.here.1.2).c7
        obtain ⟨k8, k9⟩ := (hE.here.2).c2
        go_wp2_with fail
        refine (largeB_any F S 20 A n c r si ti Ai Bi ni mi ci di _ (hE.here.1.1.2) (by decide) (by decide)).mono ?_
        clear k1 k2 k3 k4 k5 k6 k7 k8 k9
        rintro e w9 ⟨v, rfl, hv, hb⟩
        obtain rfl : v = false := hv.2 h1
        clear hv
        replace hE := hE.step hb
        clear hb
        obtain ⟨k10, k11, k12, k13, k14, k15, k16⟩ := (hE.here.1.2).c7
        obtain ⟨k17, k18⟩ := (hE.here.2).c2
        go_wp2_with fail
        refine (cvalid_t (c := c) (ci := ci) (di := di) (hE.here.1.1.2) hB (hr.below hE.bel) (by omega) (by omega) h2).mono ?_
        clear k10 k11 k12 k13 k14 k15 k16 k17 k18
        rintro e w19 ⟨rfl, hb⟩
        replace hE := hE.step hb
        clear hb
        obtain ⟨k20, k21, k22, k23, k24, k25, k26⟩ := (hE.here.1.2).c7
        obtain ⟨k27, k28⟩ := (hE.here.2).c2
        go_wp2_with fail
        refine (lright_t (c := c) (hE.here.1.1.2) hB h3).mono ?_
        clear k20 k21 k22 k23 k24 k25 k26 k27 k28
        rintro e w29 ⟨rfl, hb⟩
        replace hE := hE.step hb
        clear hb
        go_wp2_with fail
        go_ret
        exact ⟨true, rfl, yes_iff HN.out, hE.bel⟩
      · have HN : Hid (¬ UsB F S n r E Y si ni fi ti mi gi) := Lib.hid (fun h => h3 h.2.2)
        have hE := (((Env.start w).tab hT).blk 31 #[.int .i64 F, .int .i64 S, .slice A n c, .bool si, .slice Ai ni ci, .bool ti, .slice Bi mi di] (g := w.heap.size) rfl).blk 33 #[.int .i64 E, .int .i64 Y] (g := w.heap.size + 1) (by simp)
        obtain ⟨W0, hW0⟩ : ∃ W0, W0 = ((w.alloc (.cells #[.int .i64 F, .int .i64 S, .slice A n c, .bool si, .slice Ai ni ci, .bool ti, .slice Bi mi di] 31)).alloc (.cells #[.int .i64 E, .int .i64 Y] 33)) := ⟨_, rfl⟩
        rw [← hW0] at hE
        have HW0 := Lib.hid hW0
        clear hW0
        go_enter Tryz.func16, Tryz.ntmps16
        go_upto_region 1 with (fail)
        rw [← HW0.out]
        obtain ⟨k1, k2, k3, k4, k5, k6, k7⟩ := (hE.here.1.2).c7
        obtain ⟨k8, k9⟩ := (hE.here.2).c2
        go_wp2_with fail
        refine (largeB_any F S 20 A n c r si ti Ai Bi ni mi ci di _ (hE.here.1.1.2) (by decide) (by decide)).mono ?_
        clear k1 k2 k3 k4 k5 k6 k7 k8 k9
        rintro e w9 ⟨v, rfl, hv, hb⟩
        obtain rfl : v = false := hv.2 h1
        clear hv
        replace hE := hE.step hb
        clear hb
        obtain ⟨k10, k11, k12, k13, k14, k15, k16⟩ := (hE.here.1.2).c7
        obtain ⟨k17, k18⟩ := (hE.here.2).c2
        go_wp2_with fail
        refine (cvalid_t (c := c) (ci := ci) (di := di) (hE.here.1.1.2) hB (hr.below hE.bel) (by omega) (by omega) h2).mono ?_
        clear k10 k11 k12 k13 k14 k15 k16 k17 k18
        rintro e w19 ⟨rfl, hb⟩
        replace hE := hE.step hb
        clear hb
        obtain ⟨k20, k21, k22, k23, k24, k25, k26⟩ := (hE.here.1.2).c7
        obtain ⟨k27, k28⟩ := (hE.here.2).c2
        go_wp2_with fail
        refine (lright_f (c := c) (hE.here.1.1.2) hB h3).mono ?_
        clear k20 k21 k22 k23 k24 k25 k26 k27 k28
        rintro e w29 ⟨rfl, hb⟩
        replace hE := hE.step hb
        clear hb
        go_wp2_with fail
        go_ret
        exact ⟨false, rfl, no_iff HN.out, hE.bel⟩
    · have HN : Hid (¬ UsB F S n r E Y si ni fi ti mi gi) := Lib.hid (fun h => h2 h.2.1)
      have hE := (((Env.start w).tab hT).blk 31 #[.int .i64 F, .int .i64 S, .slice A n c, .bool si, .slice Ai ni ci, .bool ti, .slice Bi mi di] (g := w.heap.size) rfl).blk 33 #[.int .i64 E, .int .i64 Y] (g := w.heap.size + 1) (by simp)
      obtain ⟨W0, hW0⟩ : ∃ W0, W0 = ((w.alloc (.cells #[.int .i64 F, .int .i64 S, .slice A n c, .bool si, .slice Ai ni ci, .bool ti, .slice Bi mi di] 31)).alloc (.cells #[.int .i64 E, .int .i64 Y] 33)) := ⟨_, rfl⟩
      rw [← hW0] at hE
      have HW0 := Lib.hid hW0
      clear hW0
      go_enter Tryz.func16, Tryz.ntmps16
      go_upto_region 1 with (fail)
      rw [← HW0.out]
      obtain ⟨k1, k2, k3, k4, k5, k6, k7⟩ := (hE.here.1.2).c7
      obtain ⟨k8, k9⟩ := (hE.here.2).c2
      go_wp2_with fail
      refine (largeB_any F S 20 A n c r si ti Ai Bi ni mi ci di _ (hE.here.1.1.2) (by decide) (by decide)).mono ?_
      clear k1 k2 k3 k4 k5 k6 k7 k8 k9
      rintro e w9 ⟨v, rfl, hv, hb⟩
      obtain rfl : v = false := hv.2 h1
      clear hv
      replace hE := hE.step hb
      clear hb
      obtain ⟨k10, k11, k12, k13, k14, k15, k16⟩ := (hE.here.1.2).c7
      obtain ⟨k17, k18⟩ := (hE.here.2).c2
      go_wp2_with fail
      refine (cvalid_f (c := c) (ci := ci) (di := di) (hE.here.1.1.2) hB (hr.below hE.bel) (by omega) (by omega) h2).mono ?_
      clear k10 k11 k12 k13 k14 k15 k16 k17 k18
      rintro e w19 ⟨rfl, hb⟩
      replace hE := hE.step hb
      clear hb
      go_wp2_with fail
      go_ret
      exact ⟨false, rfl, no_iff HN.out, hE.bel⟩
  · have HN : Hid (¬ UsB F S n r E Y si ni fi ti mi gi) := Lib.hid (fun h => h1 h.1)
    have hE := (((Env.start w).tab hT).blk 31 #[.int .i64 F, .int .i64 S, .slice A n c, .bool si, .slice Ai ni ci, .bool ti, .slice Bi mi di] (g := w.heap.size) rfl).blk 33 #[.int .i64 E, .int .i64 Y] (g := w.heap.size + 1) (by simp)
    obtain ⟨W0, hW0⟩ : ∃ W0, W0 = ((w.alloc (.cells #[.int .i64 F, .int .i64 S, .slice A n c, .bool si, .slice Ai ni ci, .bool ti, .slice Bi mi di] 31)).alloc (.cells #[.int .i64 E, .int .i64 Y] 33)) := ⟨_, rfl⟩
    rw [← hW0] at hE
    have HW0 := Lib.hid hW0
    clear hW0
    go_enter Tryz.func16, Tryz.ntmps16
    go_upto_region 1 with (fail)
    rw [← HW0.out]
    obtain ⟨k1, k2, k3, k4, k5, k6, k7⟩ := (hE.here.1.2).c7
    obtain ⟨k8, k9⟩ := (hE.here.2).c2
    go_wp2_with fail
    refine (largeB_any F S 20 A n c r si ti Ai Bi ni mi ci di _ (hE.here.1.1.2) (by decide) (by decide)).mono ?_
    clear k1 k2 k3 k4 k5 k6 k7 k8 k9
    rintro e w9 ⟨v, rfl, hv, hb⟩
    obtain rfl : v = true := by cases v with | true => rfl | false => exact absurd (hv.1 rfl) h1
    clear hv
    replace hE := hE.step hb
    clear hb
    go_wp2_with fail
    go_ret
    exact ⟨false, rfl, no_iff HN.out, hE.bel⟩
theorem usableB_t {F S E Y : Int} {A : Option Addr} {n c : Nat} {r : Nat → RH} {si ti : Bool} {Ai Bi : Option Addr} {ni mi ci di : Nat} {fi gi : Nat → Nat} {w : World} (hT : TabM w A n r) (hr : FRd w Ai ni fi Bi mi gi) (h : UsB F S n r E Y si ni fi ti mi gi) :
    Calls Tryz.prog 16 #[.agg #[.int .i64 F, .int .i64 S, .slice A n c, .bool si, .slice Ai ni ci, .bool ti, .slice Bi mi di], .agg #[.int .i64 E, .int .i64 Y]] w fun e w' => e = .returned (.bool true) ∧ Below w.heap.size w w' :=
  (usableB_any F S E Y A n c r si ti Ai Bi ni mi ci di fi gi w hT hr).mono fun _ _ ⟨v, he, hv, hb⟩ => by obtain rfl : v = true := hv.2 h; exact ⟨he, hb⟩
theorem usableB_f {F S E Y : Int} {A : Option Addr} {n c : Nat} {r : Nat → RH} {si ti : Bool} {Ai Bi : Option Addr} {ni mi ci di : Nat} {fi gi : Nat → Nat} {w : World} (hT : TabM w A n r) (hr : FRd w Ai ni fi Bi mi gi) (h : ¬ UsB F S n r E Y si ni fi ti mi gi) :
    Calls Tryz.prog 16 #[.agg #[.int .i64 F, .int .i64 S, .slice A n c, .bool si, .slice Ai ni ci, .bool ti, .slice Bi mi di], .agg #[.int .i64 E, .int .i64 Y]] w fun e w' => e = .returned (.bool false) ∧ Below w.heap.size w w' :=
  (usableB_any F S E Y A n c r si ti Ai Bi ni mi ci di fi gi w hT hr).mono fun _ _ ⟨v, he, hv, hb⟩ => by
    cases v with
    | true => exact absurd (hv.1 rfl) h
    | false => exact ⟨he, hb⟩
/-- What a usable basis has. -/
theorem UsB.get {F S E Y : Int} {n ni mi : Nat} {r : Nat → RH} {si ti : Bool} {fi gi : Nat → Nat} (h : UsB F S n r E Y si ni fi ti mi gi) (v : Rat) : TabB n r ∧ ni ≤ 1000000 ∧ mi ≤ 1000000 ∧ BOK F S n r si ni fi ti mi gi ∧ RightP F S n r E Y ∧ ∃ N, N ≤ 21 ∧ Cnt v (fr F S n r E Y) N := by
  obtain ⟨⟨h1, h2, h3⟩, h4, h5⟩ := h
  obtain ⟨N, hN, hc⟩ := life_cnt v h5
  have hn : n ≤ 20 := by have := h1.1; omega
  exact ⟨h1.b (by decide) (by decide) (by decide), by omega, by omega, h4, h5, N, by omega, hc⟩
end Go.Proofs.YtmjlankpihnicaaGreat
