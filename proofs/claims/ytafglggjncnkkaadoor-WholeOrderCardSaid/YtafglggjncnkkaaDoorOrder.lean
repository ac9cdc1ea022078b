/-
  The walk of WholeOrder.
-/
import Derived.Test.YtafglggjncnkkaaDoorV
import Derived.Deep.RegionHeld3
namespace Go.Proofs.YtafglggjncnkkaaDoor
open Go.RowKit

theorem cmpZ_lt {a b : Int} (h : a < b) : cmpZ a b = -1 := by unfold cmpZ; rw [if_pos h]
theorem cmpZ_gt {a b : Int} (h : b < a) : cmpZ a b = 1 := by unfold cmpZ; rw [if_neg (by omega), if_pos h]
theorem cmpZ_eq {a b : Int} (h : a = b) : cmpZ a b = 0 := by unfold cmpZ; rw [if_neg (by omega), if_neg (by omega)]
theorem cmp_l {a b r : Int} {s t : Bool} {A B : Option Addr} {n m c d : Nat} {w : World} (ha : WV w a s A n) (hb : WV w b t B m) (la : n ≤ 1024) (lb : m ≤ 1024) (h : cmpZ a b = r) :
    Calls Tryd.prog 33 #[.agg #[.bool s, .slice A n c], .agg #[.bool t, .slice B m d]] w fun e w' => e = .returned (.int .i64 r) ∧ Below w.heap.size w w' := by
  subst h
  exact cmp_v ha hb la lb
theorem same_l {a b : Int} {r : Bool} {s t : Bool} {A B : Option Addr} {n m c d : Nat} {w : World} (ha : WV w a s A n) (hb : WV w b t B m) (la : n ≤ 1024) (lb : m ≤ 1024) (h : decide (a = b) = r) :
    Calls Tryd.prog 37 #[.agg #[.bool s, .slice A n c], .agg #[.bool t, .slice B m d]] w fun e w' => e = .returned (.bool r) ∧ Below w.heap.size w w' := by
  subst h
  exact same_v ha hb (by omega) (by omega)
set_option maxRecDepth 100000 in
set_option maxHeartbeats 16000000 in
theorem order_lt (s1 s2 s3 : Bool) (A1 A2 A3 : Option Addr) (n1 n2 n3 c1 c2 c3 : Nat) (f1 f2 f3 : Nat → Nat) (w : World) (htab : Tab w)
    (r1 : Rd w.heap.size .u16 w A1 n1 f1) (r2 : Rd w.heap.size .u16 w A2 n2 f2) (r3 : Rd w.heap.size .u16 w A3 n3 f3) (q1 : ∀ j, j < n1 → f1 j < 65536) (q2 : ∀ j, j < n2 → f2 j < 65536) (q3 : ∀ j, j < n3 → f3 j < 65536)
    (hcase : ∀ a b, WV w a s1 A1 n1 → WV w b s2 A2 n2 → a < b) :
    Calls Tryd.prog 9 #[.agg #[.bool s1, .slice A1 n1 c1], .agg #[.bool s2, .slice A2 n2 c2], .agg #[.bool s3, .slice A3 n3 c3]] w fun e w' => e = .returned (.bool true) ∧ Below w.heap.size w w' := by
  have HC := Lib.hid hcase
  clear hcase
  have hT := Env.three w s1 s2 s3 A1 A2 A3 n1 n2 n3 c1 c2 c3
  have hU := Lib.hid fun (W : World) (hW : Below w.heap.size w W) => usable_three 200 s1 s2 s3 A1 A2 A3 n1 n2 n3 c1 c2 c3 f1 f2 f3 W ((r1.below hW).more hW.size) ((r2.below hW).more hW.size) ((r3.below hW).more hW.size) q1 q2 q3 (by decide)
  go_enter Tryd.func9, Tryd.ntmps9
  go_wp2_with fail
  refine (awake_any _ (htab.below hT.bel)).mono ?_
  rintro e w1 ⟨rfl, hb1⟩
  have hT1 := hT.step hb1
  obtain ⟨k1, k2, k3, k4, k5, k6⟩ := Three.cells hT1.here
  go_wp2_with fail
  refine (hU.out _ hT1.bel).mono ?_
  rintro e w2 ⟨rfl, hb2⟩
  have hT2 := (hT1.alloc _).step hb2
  clear k1 k2 k3 k4 k5 k6 hT hT1 hb1 hb2
  cases hq : (useOK 200 s1 n1 f1 && useOK 200 s2 n2 f2) && useOK 200 s3 n3 f3
  · go_wp2_with fail
    go_ret
    exact ⟨rfl, hT2.bel⟩
  · obtain ⟨⟨u1, u2⟩, u3⟩ : (useOK 200 s1 n1 f1 = true ∧ useOK 200 s2 n2 f2 = true) ∧ useOK 200 s3 n3 f3 = true := by simpa using hq
    obtain ⟨a, ha, la⟩ := WV.of_use r1 q1 u1
    obtain ⟨b, hb, lb⟩ := WV.of_use r2 q2 u2
    obtain ⟨c, hc, lc⟩ := WV.of_use r3 q3 u3
    have hab0 := HC.out a b ha hb
    have hB := Three.tri hT2 ha hb hc
    clear hq u1 u2 u3 hT2 ha hb hc r1 r2 r3 q1 q2 q3 hU htab HC
    have hab := Lib.hid hab0
    clear hab0
    obtain ⟨k1, k2, k3, k4, k5, k6, -⟩ := Tri.cells hB
    go_wp2_with fail
    refine (cmp_l hB.here.1.2 hB.here.2.1.2 (le_len hB.here.1.2 (Nat.le_trans la (by decide))) (le_len hB.here.2.1.2 (Nat.le_trans lb (by decide))) (r := -1) (cmpZ_lt (by have := hab.out; omega))).mono ?_
    rintro e w3 ⟨rfl, hb3⟩
    replace hB := hB.step hb3
    clear hb3 k1 k2 k3 k4 k5 k6
    have hw : IntKind.i64.wrap (1) = 1 := by simp [IntKind.wrap, IntKind.signed, IntKind.bits]
    go_wp2_with fail
    replace hB := hB.drew
    have tok0 : True := trivial
    go_region_held3 (fun w' => w'.cell? ⟨w.heap.size, 0, none⟩ = some (.bool s1) ∧ w'.cell? ⟨w.heap.size, 1, none⟩ = some (.slice A1 n1 c1) ∧ w'.cell? ⟨w.heap.size + 1, 0, none⟩ = some (.bool s2) ∧ w'.cell? ⟨w.heap.size + 1, 1, none⟩ = some (.slice A2 n2 c2) ∧ w'.cell? ⟨w.heap.size + 1 + 1, 0, none⟩ = some (.bool s3) ∧ w'.cell? ⟨w.heap.size + 1 + 1, 1, none⟩ = some (.slice A3 n3 c3) ∧ Env w (Tri w.heap.size a b c s1 s2 s3 A1 A2 A3 n1 n2 n3 c1 c2 c3) w')
      (with_reducible exact Tri.cells hB)
      (first
        | (have _t := tok0; go_at_call 33; have hc := cmp_l (c := c2) (d := c1) (r := 1) hB.here.2.1.2 hB.here.1.2 (le_len hB.here.2.1.2 (Nat.le_trans lb (by decide))) (le_len hB.here.1.2 (Nat.le_trans la (by decide))) (cmpZ_gt (by have := hab.out; omega)); refine hc.mono ?_; clear hc; rintro e w105 ⟨rfl, hb5⟩; replace hB := hB.step hb5; clear tok0 hb5; have tok1 : True := trivial)
        | (have _t := tok1; go_at_call 37; have hc := same_l (c := c1) (d := c2) (r := false) hB.here.1.2 hB.here.2.1.2 (le_len hB.here.1.2 (Nat.le_trans la (by decide))) (le_len hB.here.2.1.2 (Nat.le_trans lb (by decide))) (decide_eq_false (by have := hab.out; omega)); refine hc.mono ?_; clear hc; rintro e w106 ⟨rfl, hb6⟩; replace hB := hB.step hb6; clear tok1 hb6; have tok2 : True := trivial)
        | (have _t := tok2; go_at_call 31; have hc := law_less (c := c1) (d := c2) hB.here.1.2 hB.here.2.1.2 (le_len hB.here.1.2 (Nat.le_trans la (by decide))) (le_len hB.here.2.1.2 (Nat.le_trans lb (by decide))) (Nat.le_trans (ln_subZ (m := 200) (Nat.le_trans la (by decide)) (Nat.le_trans lb (by decide))) (by decide)); refine hc.mono ?_; clear hc; rintro e w101 ⟨sv1, Av1, nv1, cv1, rfl, ho1, hb1⟩; replace hB := hB.step hb1; have hv1 := ho1.v; clear tok2 hb1 ho1; have tok3 : True := trivial)
        | (have _t := tok3; go_at_call 20; refine (num_v (0) _ (by decide) (by decide)).mono ?_; rintro e w102 ⟨sv2, Av2, nv2, cv2, rfl, ho2, hb2⟩; replace hB := hB.step hb2; replace hv1 := hv1.below hb2; have hv2 := ho2.v; clear tok3 hb2 ho2; have tok4 : True := trivial)
        | (have _t := tok4; go_at_call 33; have hc := cmp_l (c := cv1) (d := cv2) (r := -1) hv1 hv2 (le_len hv1 (Nat.le_trans (ln_subZ (m := 200) (Nat.le_trans la (by decide)) (Nat.le_trans lb (by decide))) (by decide))) (le_len hv2 (Nat.le_trans (ln_int (z := 0) (by decide) (by decide)) (by decide))) (cmpZ_lt (by have := hab.out; omega)); refine hc.mono ?_; clear hc; rintro e w107 ⟨rfl, hb7⟩; replace hB := hB.step hb7; clear tok4 hb7 hv1 hv2; have tok5 : True := trivial)
        | (have _t := tok5; go_at_call 16; have hc := law_sum (c := c1) (d := c3) hB.here.1.2 hB.here.2.2.2 (le_len hB.here.1.2 (Nat.le_trans la (by decide))) (le_len hB.here.2.2.2 (Nat.le_trans lc (by decide))) (Nat.le_trans (ln_addZ (m := 200) (Nat.le_trans la (by decide)) (Nat.le_trans lc (by decide))) (by decide)); refine hc.mono ?_; clear hc; rintro e w103 ⟨sv3, Av3, nv3, cv3, rfl, ho3, hb3⟩; replace hB := hB.step hb3; have hv3 := ho3.v; clear tok5 hb3 ho3; have tok6 : True := trivial)
        | (have _t := tok6; go_at_call 16; have hc := law_sum (c := c2) (d := c3) hB.here.2.1.2 hB.here.2.2.2 (le_len hB.here.2.1.2 (Nat.le_trans lb (by decide))) (le_len hB.here.2.2.2 (Nat.le_trans lc (by decide))) (Nat.le_trans (ln_addZ (m := 200) (Nat.le_trans lb (by decide)) (Nat.le_trans lc (by decide))) (by decide)); refine hc.mono ?_; clear hc; rintro e w104 ⟨sv4, Av4, nv4, cv4, rfl, ho4, hb4⟩; replace hB := hB.step hb4; replace hv3 := hv3.below hb4; have hv4 := ho4.v; clear tok6 hb4 ho4; have tok7 : True := trivial)
        | (have _t := tok7; go_at_call 33; have hc := cmp_l (c := cv3) (d := cv4) (r := -1) hv3 hv4 (le_len hv3 (Nat.le_trans (ln_addZ (m := 200) (Nat.le_trans la (by decide)) (Nat.le_trans lc (by decide))) (by decide))) (le_len hv4 (Nat.le_trans (ln_addZ (m := 200) (Nat.le_trans lb (by decide)) (Nat.le_trans lc (by decide))) (by decide))) (cmpZ_lt (by have := hab.out; omega)); refine hc.mono ?_; clear hc; rintro e w108 ⟨rfl, hb8⟩; replace hB := hB.step hb8; clear tok7 hb8 hv3 hv4; have tok8 : True := trivial))
    clear tok8
    go_wp2_with fail
    replace hB := hB.drew
    have tok8 : True := trivial
    go_region_held3 (fun w' => w'.cell? ⟨w.heap.size, 0, none⟩ = some (.bool s1) ∧ w'.cell? ⟨w.heap.size, 1, none⟩ = some (.slice A1 n1 c1) ∧ w'.cell? ⟨w.heap.size + 1, 0, none⟩ = some (.bool s2) ∧ w'.cell? ⟨w.heap.size + 1, 1, none⟩ = some (.slice A2 n2 c2) ∧ w'.cell? ⟨w.heap.size + 1 + 1, 0, none⟩ = some (.bool s3) ∧ w'.cell? ⟨w.heap.size + 1 + 1, 1, none⟩ = some (.slice A3 n3 c3) ∧ Env w (Tri w.heap.size a b c s1 s2 s3 A1 A2 A3 n1 n2 n3 c1 c2 c3) w')
      (with_reducible exact Tri.cells hB)
      (first
        | (have _t := tok8; go_at_call 20; refine (num_v (-1) _ (by decide) (by decide)).mono ?_; rintro e w109 ⟨sv9, Av9, nv9, cv9, rfl, ho9, hb9⟩; replace hB := hB.step hb9; have hv9 := ho9.v; clear tok8 hb9 ho9; have tok9 : True := trivial)
        | (have _t := tok9; go_at_call 17; have hc := law_product (c := c1) (d := cv9) hB.here.1.2 hv9 (le_len hB.here.1.2 (Nat.le_trans la (by decide))) (le_len hv9 (Nat.le_trans (ln_int (z := -1) (by decide) (by decide)) (by decide))) (Nat.le_trans (ln_mulZ la (ln_int (z := -1) (by decide) (by decide))) (by decide)); refine hc.mono ?_; clear hc; rintro e w110 ⟨sv10, Av10, nv10, cv10, rfl, ho10, hb10⟩; replace hB := hB.step hb10; have hv10 := ho10.v; clear tok9 hb10 hv9 ho10; have tok10 : True := trivial)
        | (have _t := tok10; go_at_call 20; refine (num_v (-1) _ (by decide) (by decide)).mono ?_; rintro e w111 ⟨sv11, Av11, nv11, cv11, rfl, ho11, hb11⟩; replace hB := hB.step hb11; replace hv10 := hv10.below hb11; have hv11 := ho11.v; clear tok10 hb11 ho11; have tok11 : True := trivial)
        | (have _t := tok11; go_at_call 17; have hc := law_product (c := c2) (d := cv11) hB.here.2.1.2 hv11 (le_len hB.here.2.1.2 (Nat.le_trans lb (by decide))) (le_len hv11 (Nat.le_trans (ln_int (z := -1) (by decide) (by decide)) (by decide))) (Nat.le_trans (ln_mulZ lb (ln_int (z := -1) (by decide) (by decide))) (by decide)); refine hc.mono ?_; clear hc; rintro e w112 ⟨sv12, Av12, nv12, cv12, rfl, ho12, hb12⟩; replace hB := hB.step hb12; replace hv10 := hv10.below hb12; have hv12 := ho12.v; clear tok11 hb12 hv11 ho12; have tok12 : True := trivial)
        | (have _t := tok12; go_at_call 33; have hc := cmp_l (c := cv10) (d := cv12) (r := 1) hv10 hv12 (le_len hv10 (Nat.le_trans (ln_mulZ la (ln_int (z := -1) (by decide) (by decide))) (by decide))) (le_len hv12 (Nat.le_trans (ln_mulZ lb (ln_int (z := -1) (by decide) (by decide))) (by decide))) (cmpZ_gt (by have := hab.out; omega)); refine hc.mono ?_; clear hc; rintro e w113 ⟨rfl, hb13⟩; replace hB := hB.step hb13; clear tok12 hb13 hv10 hv12; have tok13 : True := trivial))
    clear tok13
    obtain ⟨k1, k2, k3, k4, k5, k6, -⟩ := Tri.cells hB
    go_wp2_with fail
    have hbc : cmpZ b c = -1 ∨ (cmpZ b c ≠ -1 ∧ -1 ≤ cmpZ b c ∧ cmpZ b c ≤ 1) := by unfold cmpZ; split <;> (try split) <;> omega
    obtain ⟨r, hr⟩ : ∃ r, r = cmpZ b c := ⟨_, rfl⟩
    rw [← hr] at hbc
    refine (cmp_l hB.here.2.1.2 hB.here.2.2.2 (le_len hB.here.2.1.2 (Nat.le_trans lb (by decide))) (le_len hB.here.2.2.2 (Nat.le_trans lc (by decide))) hr.symm).mono ?_
    have HR := Lib.hid hr
    clear hr
    rintro e w4 ⟨rfl, hb4⟩
    replace hB := hB.step hb4
    clear hb4 k1 k2 k3 k4 k5 k6
    obtain ⟨k1, k2, k3, k4, k5, k6, -⟩ := Tri.cells hB
    rcases hbc with rfl | ⟨hne, hr1, hr2⟩
    · go_wp2_with fail
      have hac : cmpZ a c = -1 := by have h1 := HR.out; have h2 := hab.out; revert h1; unfold cmpZ; split <;> (try split) <;> (try split) <;> (try split) <;> omega
      refine (cmp_l hB.here.1.2 hB.here.2.2.2 (le_len hB.here.1.2 (Nat.le_trans la (by decide))) (le_len hB.here.2.2.2 (Nat.le_trans lc (by decide))) hac).mono ?_
      rintro e w5 ⟨rfl, hb5⟩
      go_wp2
      go_ret
      exact ⟨rfl, (hB.step hb5).bel⟩
    · have t1 : ((-1 : Int) == r) = false := beq_eq_false_iff_ne.2 (Ne.symm hne)
      go_wp2
      go_ret
      exact ⟨rfl, hB.bel⟩
set_option maxRecDepth 100000 in
set_option maxHeartbeats 16000000 in
theorem order_eq (s1 s2 s3 : Bool) (A1 A2 A3 : Option Addr) (n1 n2 n3 c1 c2 c3 : Nat) (f1 f2 f3 : Nat → Nat) (w : World) (htab : Tab w)
    (r1 : Rd w.heap.size .u16 w A1 n1 f1) (r2 : Rd w.heap.size .u16 w A2 n2 f2) (r3 : Rd w.heap.size .u16 w A3 n3 f3) (q1 : ∀ j, j < n1 → f1 j < 65536) (q2 : ∀ j, j < n2 → f2 j < 65536) (q3 : ∀ j, j < n3 → f3 j < 65536)
    (hcase : ∀ a b, WV w a s1 A1 n1 → WV w b s2 A2 n2 → a = b) :
    Calls Tryd.prog 9 #[.agg #[.bool s1, .slice A1 n1 c1], .agg #[.bool s2, .slice A2 n2 c2], .agg #[.bool s3, .slice A3 n3 c3]] w fun e w' => e = .returned (.bool true) ∧ Below w.heap.size w w' := by
  have HC := Lib.hid hcase
  clear hcase
  have hT := Env.three w s1 s2 s3 A1 A2 A3 n1 n2 n3 c1 c2 c3
  have hU := Lib.hid fun (W : World) (hW : Below w.heap.size w W) => usable_three 200 s1 s2 s3 A1 A2 A3 n1 n2 n3 c1 c2 c3 f1 f2 f3 W ((r1.below hW).more hW.size) ((r2.below hW).more hW.size) ((r3.below hW).more hW.size) q1 q2 q3 (by decide)
  go_enter Tryd.func9, Tryd.ntmps9
  go_wp2_with fail
  refine (awake_any _ (htab.below hT.bel)).mono ?_
  rintro e w1 ⟨rfl, hb1⟩
  have hT1 := hT.step hb1
  obtain ⟨k1, k2, k3, k4, k5, k6⟩ := Three.cells hT1.here
  go_wp2_with fail
  refine (hU.out _ hT1.bel).mono ?_
  rintro e w2 ⟨rfl, hb2⟩
  have hT2 := (hT1.alloc _).step hb2
  clear k1 k2 k3 k4 k5 k6 hT hT1 hb1 hb2
  cases hq : (useOK 200 s1 n1 f1 && useOK 200 s2 n2 f2) && useOK 200 s3 n3 f3
  · go_wp2_with fail
    go_ret
    exact ⟨rfl, hT2.bel⟩
  · obtain ⟨⟨u1, u2⟩, u3⟩ : (useOK 200 s1 n1 f1 = true ∧ useOK 200 s2 n2 f2 = true) ∧ useOK 200 s3 n3 f3 = true := by simpa using hq
    obtain ⟨a, ha, la⟩ := WV.of_use r1 q1 u1
    obtain ⟨b, hb, lb⟩ := WV.of_use r2 q2 u2
    obtain ⟨c, hc, lc⟩ := WV.of_use r3 q3 u3
    have hab0 := HC.out a b ha hb
    have hB := Three.tri hT2 ha hb hc
    clear hq u1 u2 u3 hT2 ha hb hc r1 r2 r3 q1 q2 q3 hU htab HC
    have hab := Lib.hid hab0
    clear hab0
    obtain ⟨k1, k2, k3, k4, k5, k6, -⟩ := Tri.cells hB
    go_wp2_with fail
    refine (cmp_l hB.here.1.2 hB.here.2.1.2 (le_len hB.here.1.2 (Nat.le_trans la (by decide))) (le_len hB.here.2.1.2 (Nat.le_trans lb (by decide))) (r := 0) (cmpZ_eq (by have := hab.out; omega))).mono ?_
    rintro e w3 ⟨rfl, hb3⟩
    replace hB := hB.step hb3
    clear hb3 k1 k2 k3 k4 k5 k6
    have hw : IntKind.i64.wrap (0) = 0 := by simp [IntKind.wrap, IntKind.signed, IntKind.bits]
    go_wp2_with fail
    replace hB := hB.drew
    have tok0 : True := trivial
    go_region_held3 (fun w' => w'.cell? ⟨w.heap.size, 0, none⟩ = some (.bool s1) ∧ w'.cell? ⟨w.heap.size, 1, none⟩ = some (.slice A1 n1 c1) ∧ w'.cell? ⟨w.heap.size + 1, 0, none⟩ = some (.bool s2) ∧ w'.cell? ⟨w.heap.size + 1, 1, none⟩ = some (.slice A2 n2 c2) ∧ w'.cell? ⟨w.heap.size + 1 + 1, 0, none⟩ = some (.bool s3) ∧ w'.cell? ⟨w.heap.size + 1 + 1, 1, none⟩ = some (.slice A3 n3 c3) ∧ Env w (Tri w.heap.size a b c s1 s2 s3 A1 A2 A3 n1 n2 n3 c1 c2 c3) w')
      (with_reducible exact Tri.cells hB)
      (first
        | (have _t := tok0; go_at_call 33; have hc := cmp_l (c := c2) (d := c1) (r := 0) hB.here.2.1.2 hB.here.1.2 (le_len hB.here.2.1.2 (Nat.le_trans lb (by decide))) (le_len hB.here.1.2 (Nat.le_trans la (by decide))) (cmpZ_eq (by have := hab.out; omega)); refine hc.mono ?_; clear hc; rintro e w105 ⟨rfl, hb5⟩; replace hB := hB.step hb5; clear tok0 hb5; have tok1 : True := trivial)
        | (have _t := tok1; go_at_call 37; have hc := same_l (c := c1) (d := c2) (r := true) hB.here.1.2 hB.here.2.1.2 (le_len hB.here.1.2 (Nat.le_trans la (by decide))) (le_len hB.here.2.1.2 (Nat.le_trans lb (by decide))) (decide_eq_true (by have := hab.out; omega)); refine hc.mono ?_; clear hc; rintro e w106 ⟨rfl, hb6⟩; replace hB := hB.step hb6; clear tok1 hb6; have tok2 : True := trivial)
        | (have _t := tok2; go_at_call 31; have hc := law_less (c := c1) (d := c2) hB.here.1.2 hB.here.2.1.2 (le_len hB.here.1.2 (Nat.le_trans la (by decide))) (le_len hB.here.2.1.2 (Nat.le_trans lb (by decide))) (Nat.le_trans (ln_subZ (m := 200) (Nat.le_trans la (by decide)) (Nat.le_trans lb (by decide))) (by decide)); refine hc.mono ?_; clear hc; rintro e w101 ⟨sv1, Av1, nv1, cv1, rfl, ho1, hb1⟩; replace hB := hB.step hb1; have hv1 := ho1.v; clear tok2 hb1 ho1; have tok3 : True := trivial)
        | (have _t := tok3; go_at_call 20; refine (num_v (0) _ (by decide) (by decide)).mono ?_; rintro e w102 ⟨sv2, Av2, nv2, cv2, rfl, ho2, hb2⟩; replace hB := hB.step hb2; replace hv1 := hv1.below hb2; have hv2 := ho2.v; clear tok3 hb2 ho2; have tok4 : True := trivial)
        | (have _t := tok4; go_at_call 33; have hc := cmp_l (c := cv1) (d := cv2) (r := 0) hv1 hv2 (le_len hv1 (Nat.le_trans (ln_subZ (m := 200) (Nat.le_trans la (by decide)) (Nat.le_trans lb (by decide))) (by decide))) (le_len hv2 (Nat.le_trans (ln_int (z := 0) (by decide) (by decide)) (by decide))) (cmpZ_eq (by have := hab.out; omega)); refine hc.mono ?_; clear hc; rintro e w107 ⟨rfl, hb7⟩; replace hB := hB.step hb7; clear tok4 hb7 hv1 hv2; have tok5 : True := trivial)
        | (have _t := tok5; go_at_call 16; have hc := law_sum (c := c1) (d := c3) hB.here.1.2 hB.here.2.2.2 (le_len hB.here.1.2 (Nat.le_trans la (by decide))) (le_len hB.here.2.2.2 (Nat.le_trans lc (by decide))) (Nat.le_trans (ln_addZ (m := 200) (Nat.le_trans la (by decide)) (Nat.le_trans lc (by decide))) (by decide)); refine hc.mono ?_; clear hc; rintro e w103 ⟨sv3, Av3, nv3, cv3, rfl, ho3, hb3⟩; replace hB := hB.step hb3; have hv3 := ho3.v; clear tok5 hb3 ho3; have tok6 : True := trivial)
        | (have _t := tok6; go_at_call 16; have hc := law_sum (c := c2) (d := c3) hB.here.2.1.2 hB.here.2.2.2 (le_len hB.here.2.1.2 (Nat.le_trans lb (by decide))) (le_len hB.here.2.2.2 (Nat.le_trans lc (by decide))) (Nat.le_trans (ln_addZ (m := 200) (Nat.le_trans lb (by decide)) (Nat.le_trans lc (by decide))) (by decide)); refine hc.mono ?_; clear hc; rintro e w104 ⟨sv4, Av4, nv4, cv4, rfl, ho4, hb4⟩; replace hB := hB.step hb4; replace hv3 := hv3.below hb4; have hv4 := ho4.v; clear tok6 hb4 ho4; have tok7 : True := trivial)
        | (have _t := tok7; go_at_call 33; have hc := cmp_l (c := cv3) (d := cv4) (r := 0) hv3 hv4 (le_len hv3 (Nat.le_trans (ln_addZ (m := 200) (Nat.le_trans la (by decide)) (Nat.le_trans lc (by decide))) (by decide))) (le_len hv4 (Nat.le_trans (ln_addZ (m := 200) (Nat.le_trans lb (by decide)) (Nat.le_trans lc (by decide))) (by decide))) (cmpZ_eq (by have := hab.out; omega)); refine hc.mono ?_; clear hc; rintro e w108 ⟨rfl, hb8⟩; replace hB := hB.step hb8; clear tok7 hb8 hv3 hv4; have tok8 : True := trivial))
    clear tok8
    go_wp2_with fail
    replace hB := hB.drew
    have tok8 : True := trivial
    go_region_held3 (fun w' => w'.cell? ⟨w.heap.size, 0, none⟩ = some (.bool s1) ∧ w'.cell? ⟨w.heap.size, 1, none⟩ = some (.slice A1 n1 c1) ∧ w'.cell? ⟨w.heap.size + 1, 0, none⟩ = some (.bool s2) ∧ w'.cell? ⟨w.heap.size + 1, 1, none⟩ = some (.slice A2 n2 c2) ∧ w'.cell? ⟨w.heap.size + 1 + 1, 0, none⟩ = some (.bool s3) ∧ w'.cell? ⟨w.heap.size + 1 + 1, 1, none⟩ = some (.slice A3 n3 c3) ∧ Env w (Tri w.heap.size a b c s1 s2 s3 A1 A2 A3 n1 n2 n3 c1 c2 c3) w')
      (with_reducible exact Tri.cells hB)
      (first
        | (have _t := tok8; go_at_call 20; refine (num_v (-1) _ (by decide) (by decide)).mono ?_; rintro e w109 ⟨sv9, Av9, nv9, cv9, rfl, ho9, hb9⟩; replace hB := hB.step hb9; have hv9 := ho9.v; clear tok8 hb9 ho9; have tok9 : True := trivial)
        | (have _t := tok9; go_at_call 17; have hc := law_product (c := c1) (d := cv9) hB.here.1.2 hv9 (le_len hB.here.1.2 (Nat.le_trans la (by decide))) (le_len hv9 (Nat.le_trans (ln_int (z := -1) (by decide) (by decide)) (by decide))) (Nat.le_trans (ln_mulZ la (ln_int (z := -1) (by decide) (by decide))) (by decide)); refine hc.mono ?_; clear hc; rintro e w110 ⟨sv10, Av10, nv10, cv10, rfl, ho10, hb10⟩; replace hB := hB.step hb10; have hv10 := ho10.v; clear tok9 hb10 hv9 ho10; have tok10 : True := trivial)
        | (have _t := tok10; go_at_call 20; refine (num_v (-1) _ (by decide) (by decide)).mono ?_; rintro e w111 ⟨sv11, Av11, nv11, cv11, rfl, ho11, hb11⟩; replace hB := hB.step hb11; replace hv10 := hv10.below hb11; have hv11 := ho11.v; clear tok10 hb11 ho11; have tok11 : True := trivial)
        | (have _t := tok11; go_at_call 17; have hc := law_product (c := c2) (d := cv11) hB.here.2.1.2 hv11 (le_len hB.here.2.1.2 (Nat.le_trans lb (by decide))) (le_len hv11 (Nat.le_trans (ln_int (z := -1) (by decide) (by decide)) (by decide))) (Nat.le_trans (ln_mulZ lb (ln_int (z := -1) (by decide) (by decide))) (by decide)); refine hc.mono ?_; clear hc; rintro e w112 ⟨sv12, Av12, nv12, cv12, rfl, ho12, hb12⟩; replace hB := hB.step hb12; replace hv10 := hv10.below hb12; have hv12 := ho12.v; clear tok11 hb12 hv11 ho12; have tok12 : True := trivial)
        | (have _t := tok12; go_at_call 33; have hc := cmp_l (c := cv10) (d := cv12) (r := 0) hv10 hv12 (le_len hv10 (Nat.le_trans (ln_mulZ la (ln_int (z := -1) (by decide) (by decide))) (by decide))) (le_len hv12 (Nat.le_trans (ln_mulZ lb (ln_int (z := -1) (by decide) (by decide))) (by decide))) (cmpZ_eq (by have := hab.out; omega)); refine hc.mono ?_; clear hc; rintro e w113 ⟨rfl, hb13⟩; replace hB := hB.step hb13; clear tok12 hb13 hv10 hv12; have tok13 : True := trivial))
    clear tok13
    obtain ⟨k1, k2, k3, k4, k5, k6, -⟩ := Tri.cells hB
    go_wp2_with fail
    have hbc : cmpZ b c = 0 ∨ (cmpZ b c ≠ 0 ∧ -1 ≤ cmpZ b c ∧ cmpZ b c ≤ 1) := by unfold cmpZ; split <;> (try split) <;> omega
    obtain ⟨r, hr⟩ : ∃ r, r = cmpZ b c := ⟨_, rfl⟩
    rw [← hr] at hbc
    refine (cmp_l hB.here.2.1.2 hB.here.2.2.2 (le_len hB.here.2.1.2 (Nat.le_trans lb (by decide))) (le_len hB.here.2.2.2 (Nat.le_trans lc (by decide))) hr.symm).mono ?_
    have HR := Lib.hid hr
    clear hr
    rintro e w4 ⟨rfl, hb4⟩
    replace hB := hB.step hb4
    clear hb4 k1 k2 k3 k4 k5 k6
    obtain ⟨k1, k2, k3, k4, k5, k6, -⟩ := Tri.cells hB
    rcases hbc with rfl | ⟨hne, hr1, hr2⟩
    · go_wp2_with fail
      have hac : cmpZ a c = 0 := by have h1 := HR.out; have h2 := hab.out; revert h1; unfold cmpZ; split <;> (try split) <;> (try split) <;> (try split) <;> omega
      refine (cmp_l hB.here.1.2 hB.here.2.2.2 (le_len hB.here.1.2 (Nat.le_trans la (by decide))) (le_len hB.here.2.2.2 (Nat.le_trans lc (by decide))) hac).mono ?_
      rintro e w5 ⟨rfl, hb5⟩
      go_wp2
      go_ret
      exact ⟨rfl, (hB.step hb5).bel⟩
    · have t1 : ((0 : Int) == r) = false := beq_eq_false_iff_ne.2 (Ne.symm hne)
      go_wp2
      go_ret
      exact ⟨rfl, hB.bel⟩
set_option maxRecDepth 100000 in
set_option maxHeartbeats 16000000 in
theorem order_gt (s1 s2 s3 : Bool) (A1 A2 A3 : Option Addr) (n1 n2 n3 c1 c2 c3 : Nat) (f1 f2 f3 : Nat → Nat) (w : World) (htab : Tab w)
    (r1 : Rd w.heap.size .u16 w A1 n1 f1) (r2 : Rd w.heap.size .u16 w A2 n2 f2) (r3 : Rd w.heap.size .u16 w A3 n3 f3) (q1 : ∀ j, j < n1 → f1 j < 65536) (q2 : ∀ j, j < n2 → f2 j < 65536) (q3 : ∀ j, j < n3 → f3 j < 65536)
    (hcase : ∀ a b, WV w a s1 A1 n1 → WV w b s2 A2 n2 → b < a) :
    Calls Tryd.prog 9 #[.agg #[.bool s1, .slice A1 n1 c1], .agg #[.bool s2, .slice A2 n2 c2], .agg #[.bool s3, .slice A3 n3 c3]] w fun e w' => e = .returned (.bool true) ∧ Below w.heap.size w w' := by
  have HC := Lib.hid hcase
  clear hcase
  have hT := Env.three w s1 s2 s3 A1 A2 A3 n1 n2 n3 c1 c2 c3
  have hU := Lib.hid fun (W : World) (hW : Below w.heap.size w W) => usable_three 200 s1 s2 s3 A1 A2 A3 n1 n2 n3 c1 c2 c3 f1 f2 f3 W ((r1.below hW).more hW.size) ((r2.below hW).more hW.size) ((r3.below hW).more hW.size) q1 q2 q3 (by decide)
  go_enter Tryd.func9, Tryd.ntmps9
  go_wp2_with fail
  refine (awake_any _ (htab.below hT.bel)).mono ?_
  rintro e w1 ⟨rfl, hb1⟩
  have hT1 := hT.step hb1
  obtain ⟨k1, k2, k3, k4, k5, k6⟩ := Three.cells hT1.here
  go_wp2_with fail
  refine (hU.out _ hT1.bel).mono ?_
  rintro e w2 ⟨rfl, hb2⟩
  have hT2 := (hT1.alloc _).step hb2
  clear k1 k2 k3 k4 k5 k6 hT hT1 hb1 hb2
  cases hq : (useOK 200 s1 n1 f1 && useOK 200 s2 n2 f2) && useOK 200 s3 n3 f3
  · go_wp2_with fail
    go_ret
    exact ⟨rfl, hT2.bel⟩
  · obtain ⟨⟨u1, u2⟩, u3⟩ : (useOK 200 s1 n1 f1 = true ∧ useOK 200 s2 n2 f2 = true) ∧ useOK 200 s3 n3 f3 = true := by simpa using hq
    obtain ⟨a, ha, la⟩ := WV.of_use r1 q1 u1
    obtain ⟨b, hb, lb⟩ := WV.of_use r2 q2 u2
    obtain ⟨c, hc, lc⟩ := WV.of_use r3 q3 u3
    have hab0 := HC.out a b ha hb
    have hB := Three.tri hT2 ha hb hc
    clear hq u1 u2 u3 hT2 ha hb hc r1 r2 r3 q1 q2 q3 hU htab HC
    have hab := Lib.hid hab0
    clear hab0
    obtain ⟨k1, k2, k3, k4, k5, k6, -⟩ := Tri.cells hB
    go_wp2_with fail
    refine (cmp_l hB.here.1.2 hB.here.2.1.2 (le_len hB.here.1.2 (Nat.le_trans la (by decide))) (le_len hB.here.2.1.2 (Nat.le_trans lb (by decide))) (r := 1) (cmpZ_gt (by have := hab.out; omega))).mono ?_
    rintro e w3 ⟨rfl, hb3⟩
    replace hB := hB.step hb3
    clear hb3 k1 k2 k3 k4 k5 k6
    have hw : IntKind.i64.wrap (-1) = -1 := by simp [IntKind.wrap, IntKind.signed, IntKind.bits]
    go_wp2_with fail
    replace hB := hB.drew
    have tok0 : True := trivial
    go_region_held3 (fun w' => w'.cell? ⟨w.heap.size, 0, none⟩ = some (.bool s1) ∧ w'.cell? ⟨w.heap.size, 1, none⟩ = some (.slice A1 n1 c1) ∧ w'.cell? ⟨w.heap.size + 1, 0, none⟩ = some (.bool s2) ∧ w'.cell? ⟨w.heap.size + 1, 1, none⟩ = some (.slice A2 n2 c2) ∧ w'.cell? ⟨w.heap.size + 1 + 1, 0, none⟩ = some (.bool s3) ∧ w'.cell? ⟨w.heap.size + 1 + 1, 1, none⟩ = some (.slice A3 n3 c3) ∧ Env w (Tri w.heap.size a b c s1 s2 s3 A1 A2 A3 n1 n2 n3 c1 c2 c3) w')
      (with_reducible exact Tri.cells hB)
      (first
        | (have _t := tok0; go_at_call 33; have hc := cmp_l (c := c2) (d := c1) (r := -1) hB.here.2.1.2 hB.here.1.2 (le_len hB.here.2.1.2 (Nat.le_trans lb (by decide))) (le_len hB.here.1.2 (Nat.le_trans la (by decide))) (cmpZ_lt (by have := hab.out; omega)); refine hc.mono ?_; clear hc; rintro e w105 ⟨rfl, hb5⟩; replace hB := hB.step hb5; clear tok0 hb5; have tok1 : True := trivial)
        | (have _t := tok1; go_at_call 37; have hc := same_l (c := c1) (d := c2) (r := false) hB.here.1.2 hB.here.2.1.2 (le_len hB.here.1.2 (Nat.le_trans la (by decide))) (le_len hB.here.2.1.2 (Nat.le_trans lb (by decide))) (decide_eq_false (by have := hab.out; omega)); refine hc.mono ?_; clear hc; rintro e w106 ⟨rfl, hb6⟩; replace hB := hB.step hb6; clear tok1 hb6; have tok2 : True := trivial)
        | (have _t := tok2; go_at_call 31; have hc := law_less (c := c1) (d := c2) hB.here.1.2 hB.here.2.1.2 (le_len hB.here.1.2 (Nat.le_trans la (by decide))) (le_len hB.here.2.1.2 (Nat.le_trans lb (by decide))) (Nat.le_trans (ln_subZ (m := 200) (Nat.le_trans la (by decide)) (Nat.le_trans lb (by decide))) (by decide)); refine hc.mono ?_; clear hc; rintro e w101 ⟨sv1, Av1, nv1, cv1, rfl, ho1, hb1⟩; replace hB := hB.step hb1; have hv1 := ho1.v; clear tok2 hb1 ho1; have tok3 : True := trivial)
        | (have _t := tok3; go_at_call 20; refine (num_v (0) _ (by decide) (by decide)).mono ?_; rintro e w102 ⟨sv2, Av2, nv2, cv2, rfl, ho2, hb2⟩; replace hB := hB.step hb2; replace hv1 := hv1.below hb2; have hv2 := ho2.v; clear tok3 hb2 ho2; have tok4 : True := trivial)
        | (have _t := tok4; go_at_call 33; have hc := cmp_l (c := cv1) (d := cv2) (r := 1) hv1 hv2 (le_len hv1 (Nat.le_trans (ln_subZ (m := 200) (Nat.le_trans la (by decide)) (Nat.le_trans lb (by decide))) (by decide))) (le_len hv2 (Nat.le_trans (ln_int (z := 0) (by decide) (by decide)) (by decide))) (cmpZ_gt (by have := hab.out; omega)); refine hc.mono ?_; clear hc; rintro e w107 ⟨rfl, hb7⟩; replace hB := hB.step hb7; clear tok4 hb7 hv1 hv2; have tok5 : True := trivial)
        | (have _t := tok5; go_at_call 16; have hc := law_sum (c := c1) (d := c3) hB.here.1.2 hB.here.2.2.2 (le_len hB.here.1.2 (Nat.le_trans la (by decide))) (le_len hB.here.2.2.2 (Nat.le_trans lc (by decide))) (Nat.le_trans (ln_addZ (m := 200) (Nat.le_trans la (by decide)) (Nat.le_trans lc (by decide))) (by decide)); refine hc.mono ?_; clear hc; rintro e w103 ⟨sv3, Av3, nv3, cv3, rfl, ho3, hb3⟩; replace hB := hB.step hb3; have hv3 := ho3.v; clear tok5 hb3 ho3; have tok6 : True := trivial)
        | (have _t := tok6; go_at_call 16; have hc := law_sum (c := c2) (d := c3) hB.here.2.1.2 hB.here.2.2.2 (le_len hB.here.2.1.2 (Nat.le_trans lb (by decide))) (le_len hB.here.2.2.2 (Nat.le_trans lc (by decide))) (Nat.le_trans (ln_addZ (m := 200) (Nat.le_trans lb (by decide)) (Nat.le_trans lc (by decide))) (by decide)); refine hc.mono ?_; clear hc; rintro e w104 ⟨sv4, Av4, nv4, cv4, rfl, ho4, hb4⟩; replace hB := hB.step hb4; replace hv3 := hv3.below hb4; have hv4 := ho4.v; clear tok6 hb4 ho4; have tok7 : True := trivial)
        | (have _t := tok7; go_at_call 33; have hc := cmp_l (c := cv3) (d := cv4) (r := 1) hv3 hv4 (le_len hv3 (Nat.le_trans (ln_addZ (m := 200) (Nat.le_trans la (by decide)) (Nat.le_trans lc (by decide))) (by decide))) (le_len hv4 (Nat.le_trans (ln_addZ (m := 200) (Nat.le_trans lb (by decide)) (Nat.le_trans lc (by decide))) (by decide))) (cmpZ_gt (by have := hab.out; omega)); refine hc.mono ?_; clear hc; rintro e w108 ⟨rfl, hb8⟩; replace hB := hB.step hb8; clear tok7 hb8 hv3 hv4; have tok8 : True := trivial))
    clear tok8
    go_wp2_with fail
    replace hB := hB.drew
    have tok8 : True := trivial
    go_region_held3 (fun w' => w'.cell? ⟨w.heap.size, 0, none⟩ = some (.bool s1) ∧ w'.cell? ⟨w.heap.size, 1, none⟩ = some (.slice A1 n1 c1) ∧ w'.cell? ⟨w.heap.size + 1, 0, none⟩ = some (.bool s2) ∧ w'.cell? ⟨w.heap.size + 1, 1, none⟩ = some (.slice A2 n2 c2) ∧ w'.cell? ⟨w.heap.size + 1 + 1, 0, none⟩ = some (.bool s3) ∧ w'.cell? ⟨w.heap.size + 1 + 1, 1, none⟩ = some (.slice A3 n3 c3) ∧ Env w (Tri w.heap.size a b c s1 s2 s3 A1 A2 A3 n1 n2 n3 c1 c2 c3) w')
      (with_reducible exact Tri.cells hB)
      (first
        | (have _t := tok8; go_at_call 20; refine (num_v (-1) _ (by decide) (by decide)).mono ?_; rintro e w109 ⟨sv9, Av9, nv9, cv9, rfl, ho9, hb9⟩; replace hB := hB.step hb9; have hv9 := ho9.v; clear tok8 hb9 ho9; have tok9 : True := trivial)
        | (have _t := tok9; go_at_call 17; have hc := law_product (c := c1) (d := cv9) hB.here.1.2 hv9 (le_len hB.here.1.2 (Nat.le_trans la (by decide))) (le_len hv9 (Nat.le_trans (ln_int (z := -1) (by decide) (by decide)) (by decide))) (Nat.le_trans (ln_mulZ la (ln_int (z := -1) (by decide) (by decide))) (by decide)); refine hc.mono ?_; clear hc; rintro e w110 ⟨sv10, Av10, nv10, cv10, rfl, ho10, hb10⟩; replace hB := hB.step hb10; have hv10 := ho10.v; clear tok9 hb10 hv9 ho10; have tok10 : True := trivial)
        | (have _t := tok10; go_at_call 20; refine (num_v (-1) _ (by decide) (by decide)).mono ?_; rintro e w111 ⟨sv11, Av11, nv11, cv11, rfl, ho11, hb11⟩; replace hB := hB.step hb11; replace hv10 := hv10.below hb11; have hv11 := ho11.v; clear tok10 hb11 ho11; have tok11 : True := trivial)
        | (have _t := tok11; go_at_call 17; have hc := law_product (c := c2) (d := cv11) hB.here.2.1.2 hv11 (le_len hB.here.2.1.2 (Nat.le_trans lb (by decide))) (le_len hv11 (Nat.le_trans (ln_int (z := -1) (by decide) (by decide)) (by decide))) (Nat.le_trans (ln_mulZ lb (ln_int (z := -1) (by decide) (by decide))) (by decide)); refine hc.mono ?_; clear hc; rintro e w112 ⟨sv12, Av12, nv12, cv12, rfl, ho12, hb12⟩; replace hB := hB.step hb12; replace hv10 := hv10.below hb12; have hv12 := ho12.v; clear tok11 hb12 hv11 ho12; have tok12 : True := trivial)
        | (have _t := tok12; go_at_call 33; have hc := cmp_l (c := cv10) (d := cv12) (r := -1) hv10 hv12 (le_len hv10 (Nat.le_trans (ln_mulZ la (ln_int (z := -1) (by decide) (by decide))) (by decide))) (le_len hv12 (Nat.le_trans (ln_mulZ lb (ln_int (z := -1) (by decide) (by decide))) (by decide))) (cmpZ_lt (by have := hab.out; omega)); refine hc.mono ?_; clear hc; rintro e w113 ⟨rfl, hb13⟩; replace hB := hB.step hb13; clear tok12 hb13 hv10 hv12; have tok13 : True := trivial))
    clear tok13
    obtain ⟨k1, k2, k3, k4, k5, k6, -⟩ := Tri.cells hB
    go_wp2_with fail
    have hbc : cmpZ b c = 1 ∨ (cmpZ b c ≠ 1 ∧ -1 ≤ cmpZ b c ∧ cmpZ b c ≤ 1) := by unfold cmpZ; split <;> (try split) <;> omega
    obtain ⟨r, hr⟩ : ∃ r, r = cmpZ b c := ⟨_, rfl⟩
    rw [← hr] at hbc
    refine (cmp_l hB.here.2.1.2 hB.here.2.2.2 (le_len hB.here.2.1.2 (Nat.le_trans lb (by decide))) (le_len hB.here.2.2.2 (Nat.le_trans lc (by decide))) hr.symm).mono ?_
    have HR := Lib.hid hr
    clear hr
    rintro e w4 ⟨rfl, hb4⟩
    replace hB := hB.step hb4
    clear hb4 k1 k2 k3 k4 k5 k6
    obtain ⟨k1, k2, k3, k4, k5, k6, -⟩ := Tri.cells hB
    rcases hbc with rfl | ⟨hne, hr1, hr2⟩
    · go_wp2_with fail
      have hac : cmpZ a c = 1 := by have h1 := HR.out; have h2 := hab.out; revert h1; unfold cmpZ; split <;> (try split) <;> (try split) <;> (try split) <;> omega
      refine (cmp_l hB.here.1.2 hB.here.2.2.2 (le_len hB.here.1.2 (Nat.le_trans la (by decide))) (le_len hB.here.2.2.2 (Nat.le_trans lc (by decide))) hac).mono ?_
      rintro e w5 ⟨rfl, hb5⟩
      go_wp2
      go_ret
      exact ⟨rfl, (hB.step hb5).bel⟩
    · have t1 : ((1 : Int) == r) = false := beq_eq_false_iff_ne.2 (Ne.symm hne)
      go_wp2
      go_ret
      exact ⟨rfl, hB.bel⟩
/-- The number that sign, address and length stand for is one. -/
theorem WV.eq {w : World} {y z : Int} {s : Bool} {A : Option Addr} {n : Nat} (h1 : WV w y s A n) (h2 : WV w z s A n) : y = z := by
  obtain ⟨e1, e2, e3⟩ := h1
  obtain ⟨d1, d2, d3⟩ := h2
  have hl : ln b16 y.natAbs = ln b16 z.natAbs := e2.symm.trans d2
  have hv : y.natAbs = z.natAbs := by
    have h3 := vs_dgt_ln b16_two y.natAbs
    have h4 := vs_dgt_ln b16_two z.natAbs
    rw [← h3, ← h4, ← hl]
    refine vs_congr fun i hi => ?_
    obtain ⟨b, o, hA, -, hc⟩ := e3 (show 0 < ln b16 y.natAbs by omega)
    obtain ⟨b', o', hA', -, hc'⟩ := d3 (show 0 < ln b16 z.natAbs by omega)
    rw [hA] at hA'
    injection hA' with hA'
    injection hA' with h5 h6
    subst h5 h6
    have h7 := (hc i hi).symm.trans (hc' i (by omega))
    injection h7 with h7
    injection h7 with _ h7
    exact Int.ofNat.inj h7
  have hs : decide (y < 0) = decide (z < 0) := e1.symm.trans d1
  by_cases hy : y < 0 <;> by_cases hz : z < 0 <;> simp [hy, hz] at hs <;> omega
theorem order_walk (s1 s2 s3 : Bool) (A1 A2 A3 : Option Addr) (n1 n2 n3 c1 c2 c3 : Nat) (f1 f2 f3 : Nat → Nat) (w : World) (htab : Tab w)
    (r1 : Rd w.heap.size .u16 w A1 n1 f1) (r2 : Rd w.heap.size .u16 w A2 n2 f2) (r3 : Rd w.heap.size .u16 w A3 n3 f3) (q1 : ∀ j, j < n1 → f1 j < 65536) (q2 : ∀ j, j < n2 → f2 j < 65536) (q3 : ∀ j, j < n3 → f3 j < 65536) :
    Calls Tryd.prog 9 #[.agg #[.bool s1, .slice A1 n1 c1], .agg #[.bool s2, .slice A2 n2 c2], .agg #[.bool s3, .slice A3 n3 c3]] w fun e w' => e = .returned (.bool true) ∧ Below w.heap.size w w' := by
  by_cases hx : ∃ a b, WV w a s1 A1 n1 ∧ WV w b s2 A2 n2
  · obtain ⟨a, b, ha, hb⟩ := hx
    rcases Int.lt_trichotomy a b with h | h | h
    · exact order_lt s1 s2 s3 A1 A2 A3 n1 n2 n3 c1 c2 c3 f1 f2 f3 w htab r1 r2 r3 q1 q2 q3 fun a' b' ha' hb' => by rw [ha'.eq ha, hb'.eq hb]; exact h
    · exact order_eq s1 s2 s3 A1 A2 A3 n1 n2 n3 c1 c2 c3 f1 f2 f3 w htab r1 r2 r3 q1 q2 q3 fun a' b' ha' hb' => by rw [ha'.eq ha, hb'.eq hb]; exact h
    · exact order_gt s1 s2 s3 A1 A2 A3 n1 n2 n3 c1 c2 c3 f1 f2 f3 w htab r1 r2 r3 q1 q2 q3 fun a' b' ha' hb' => by rw [ha'.eq ha, hb'.eq hb]; exact h
  · exact order_lt s1 s2 s3 A1 A2 A3 n1 n2 n3 c1 c2 c3 f1 f2 f3 w htab r1 r2 r3 q1 q2 q3 fun a' b' ha' hb' => absurd ⟨a', b', ha', hb'⟩ hx
end Go.Proofs.YtafglggjncnkkaaDoor
