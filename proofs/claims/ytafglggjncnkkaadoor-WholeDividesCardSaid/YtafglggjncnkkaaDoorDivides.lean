/-
  The walk of WholeDivides.
-/
import Derived.Test.YtafglggjncnkkaaDoorEnvN
import Derived.Test.YtafglggjncnkkaaDoorDivMod
namespace Go.Proofs.YtafglggjncnkkaaDoor
open Go.RowKit

/-- What a division with remainder answers. -/
structure DmF (a b q r : Int) : Prop where
  eq : a = q * b + r
  q1 : a.fdiv b = q
  r1 : a.fmod b = r
  q2 : (a + b).fdiv b = q + 1
  r2 : (a + b).fmod b = r
  lt : r.natAbs < b.natAbs
  sg : decide (r < 0) = (decide (b < 0) && decide (r ≠ 0))
theorem dm_facts (a : Int) {b : Int} (hb : b ≠ 0) : ∃ q r : Int, DmF a b q r := by
  obtain ⟨h, hr⟩ := fd_spec a hb
  have h2 : a + b = (a.fdiv b + 1) * b + a.fmod b := by rw [Int.add_mul, Int.one_mul]; omega
  obtain ⟨e1, e2⟩ := fd_unique h2 hr
  refine ⟨a.fdiv b, a.fmod b, h, rfl, rfl, e1.symm, e2.symm, by omega, ?_⟩
  rcases hr with ⟨h1, h3⟩ | ⟨h1, h3⟩
  · rw [decide_eq_false (show ¬ a.fmod b < 0 by omega), decide_eq_false (show ¬ b < 0 by omega)]; rfl
  · rw [decide_eq_true (show b < 0 by omega), Bool.true_and]
    by_cases h0 : a.fmod b = 0
    · rw [h0]; rfl
    · rw [decide_eq_true (show a.fmod b < 0 by omega), decide_eq_true h0]
theorem DmF.len {a b q r : Int} (h : DmF a b q r) {k : Nat} (la : ln b16 a.natAbs ≤ k) (lb : ln b16 b.natAbs ≤ k) : ln b16 r.natAbs ≤ k ∧ ln b16 q.natAbs ≤ k + 1 := by
  have h1 : ln b16 r.natAbs ≤ k := Nat.le_trans (ln_mono b16_two (Nat.le_of_lt h.lt)) lb
  refine ⟨h1, ?_⟩
  have h2 : q.natAbs ≤ (q * b).natAbs := by rw [Int.natAbs_mul]; exact Nat.le_mul_of_pos_right _ (by have := h.lt; omega)
  have h3 : q * b = a - r := by have := h.eq; omega
  rw [h3] at h2
  exact Nat.le_trans (ln_mono b16_two h2) (ln_subZ la h1)
theorem WV.zero (w : World) : WV w 0 false none 0 := ⟨rfl, ln_zero.symm, fun h => absurd h (by rw [show (0 : Int).natAbs = 0 from rfl, ln_zero]; exact Nat.lt_irrefl 0)⟩
theorem divMod_r {a b q r : Int} {s t : Bool} {A B : Option Addr} {n m c d : Nat} {w : World} (ha : WV w a s A n) (hb : WV w b t B m) (la : n ≤ 1024) (lb : m ≤ 1024) (hb0 : b ≠ 0) (hq : a.fdiv b = q) (hr : a.fmod b = r) :
    Calls Tryd.prog 32 #[.agg #[.bool s, .slice A n c], .agg #[.bool t, .slice B m d]] w (VR2 q r w) := by
  subst hq hr
  exact divMod_v ha hb la lb hb0
theorem cmp_r {a b r : Int} {s t : Bool} {A B : Option Addr} {n m c d : Nat} {w : World} (ha : WV w a s A n) (hb : WV w b t B m) (la : n ≤ 1024) (lb : m ≤ 1024) (h : (if a < b then -1 else if b < a then 1 else 0 : Int) = r) :
    Calls Tryd.prog 33 #[.agg #[.bool s, .slice A n c], .agg #[.bool t, .slice B m d]] w fun e w' => e = .returned (.int .i64 r) ∧ Below w.heap.size w w' := by
  subst h
  exact cmp_v ha hb la lb
theorem divMod_z {a : Int} {s : Bool} {A B : Option Addr} {n c d : Nat} {w : World} (ha : WV w a s A n) (la : n ≤ 1024) :
    Calls Tryd.prog 32 #[.agg #[.bool s, .slice A n c], .agg #[.bool false, .slice B 0 d]] w (ErrW2 11 w) := by
  obtain ⟨rfl, rfl, hA⟩ := ha
  exact divMod_zero a A B c d w hA la
theorem Env.swap {w W : World} {P Q R : World → Prop} (h : Env w (fun V => (P V ∧ Q V) ∧ R V) W) : Env w (fun V => (P V ∧ R V) ∧ Q V) W :=
  ⟨h.bel, fun A B hb hp => have k := h.st A B hb ⟨⟨hp.1.1, hp.2⟩, hp.1.2⟩; ⟨⟨k.1.1, k.2⟩, k.1.2⟩, ⟨⟨h.here.1.1, h.here.2⟩, h.here.1.2⟩⟩
theorem cel2 {W : World} {g : Nat} {a b : Int} {s1 s2 : Bool} {A1 A2 : Option Addr} {n1 n2 c1 c2 : Nat} (h : Duo g a b s1 s2 A1 A2 n1 n2 c1 c2 W) :
    W.cell? ⟨g, 0, none⟩ = some (.bool s1) ∧ W.cell? ⟨g, 1, none⟩ = some (.slice A1 n1 c1) ∧ W.cell? ⟨g + 1, 0, none⟩ = some (.bool s2) ∧ W.cell? ⟨g + 1, 1, none⟩ = some (.slice A2 n2 c2) :=
  ⟨h.1.1.cells.1, h.1.1.cells.2, h.2.1.cells.1, h.2.1.cells.2⟩
theorem fin0 {w W : World} {P : World → Prop} {y z : Int} {s t : Bool} {A B : Option Addr} {n m c d : Nat} (h : Env w P W) (hy : WV W y s A n) (hz : WV W z t B m) :
    Env w (fun V => (P V ∧ Bx W.heap.size y s A n c V) ∧ Bx (W.heap.size + 1) z t B m d V) ((W.alloc (.cells #[.bool s, .slice A n c] 24)).alloc (.cells #[.bool t, .slice B m d] 24)) := by
  have hE := (h.fresh hy c).fresh (hz.below (belAlloc _ _)) d
  simp only [World.size_alloc] at hE
  exact hE
theorem fin1 {w W0 W : World} {P : World → Prop} {G B : Nat} {z : Int} {s : Bool} {A : Option Addr} {n c : Nat} (hD : Env w P W0) (hb : Below W0.heap.size W0 W) (hx : WholeAt W G false (.slice none 0 0)) (hG : W0.heap.size ≤ G) (hGB : G < B) (ho : WO B W z s A n c) :
    Env w (fun V => P V ∧ Bx G z s A n c V) ((W.setCell ⟨G, 0, none⟩ (.bool s)).setCell ⟨G, 1, none⟩ (.slice A n c)) :=
  (hD.step ((hb.setCell (p := ⟨G, 0, none⟩) hG _).setCell (p := ⟨G, 1, none⟩) hG _)).and (Bx.stable _ _ _ _ _ _) ⟨hx.set s _, (ho.store hGB s _).v⟩
theorem fin2 {w W0 W : World} {P : World → Prop} {G H B : Nat} {y z : Int} {s t : Bool} {A C : Option Addr} {n m c d : Nat} (hD : Env w P W0) (hb : Below W0.heap.size W0 W) (hx : WholeAt W G false (.slice none 0 0)) (hy : WholeAt W H false (.slice none 0 0))
    (hG : W0.heap.size ≤ G) (hH : W0.heap.size ≤ H) (hne : G ≠ H) (hGB : G < B) (hHB : H < B) (ho : WO B W y s A n c) (hq : WO B W z t C m d) :
    Env w (fun V => (P V ∧ Bx G y s A n c V) ∧ Bx H z t C m d V) ((((W.setCell ⟨G, 0, none⟩ (.bool s)).setCell ⟨G, 1, none⟩ (.slice A n c)).setCell ⟨H, 0, none⟩ (.bool t)).setCell ⟨H, 1, none⟩ (.slice C m d)) :=
  ((hD.step ((((hb.setCell (p := ⟨G, 0, none⟩) hG _).setCell (p := ⟨G, 1, none⟩) hG _).setCell (p := ⟨H, 0, none⟩) hH _).setCell (p := ⟨H, 1, none⟩) hH _)).and (Bx.stable _ _ _ _ _ _) ⟨(hx.set s _).other hne _ _, ((ho.store hGB s _).store hHB t _).v⟩).and (Bx.stable _ _ _ _ _ _)
    ⟨(hy.other hne.symm _ _).set t _, ((hq.store hGB s _).store hHB t _).v⟩
theorem newAt {n : Nat} {w W : World} (_ : Below n w W) : New W (W.alloc (.cells #[.bool false, .slice none 0 0] 24)) W.heap.size := New.start W
theorem belSelf {w W : World} {P : World → Prop} (_ : Env w P W) : Below W.heap.size W W := Below.refl _ W
set_option linter.unusedSimpArgs false in
set_option maxRecDepth 100000 in
set_option maxHeartbeats 16000000 in
theorem divides_walk (s1 s2 : Bool) (A1 A2 : Option Addr) (n1 n2 c1 c2 : Nat) (f1 f2 : Nat → Nat) (w : World) (htab : Tab w)
    (r1 : Rd w.heap.size .u16 w A1 n1 f1) (r2 : Rd w.heap.size .u16 w A2 n2 f2) (q1 : ∀ j, j < n1 → f1 j < 65536) (q2 : ∀ j, j < n2 → f2 j < 65536) :
    Calls Tryd.prog 7 #[.agg #[.bool s1, .slice A1 n1 c1], .agg #[.bool s2, .slice A2 n2 c2]] w fun e w' => e = .returned (.bool true) ∧ Below w.heap.size w w' := by
  have hT := Env.two w s1 s2 A1 A2 n1 n2 c1 c2
  have hU := Lib.hid fun (W : World) (hW : Below w.heap.size w W) => usable_two 200 s1 s2 A1 A2 n1 n2 c1 c2 f1 f2 W ((r1.below hW).more hW.size) ((r2.below hW).more hW.size) q1 q2 (by decide)
  go_enter Tryd.func7, Tryd.ntmps7
  go_wp2_with fail
  refine (awake_any _ (htab.below hT.bel)).mono ?_
  rintro e w1 ⟨rfl, hb1⟩
  have hT1 := hT.step hb1
  obtain ⟨k1, k2, k3, k4⟩ := Two0.cells hT1.here
  go_wp2_with fail
  refine (hU.out _ hT1.bel).mono ?_
  rintro e w2 ⟨rfl, hb2⟩
  have hT2 := (hT1.alloc _).step hb2
  clear k1 k2 k3 k4 hT hT1 hb1 hb2
  cases hq : useOK 200 s1 n1 f1 && useOK 200 s2 n2 f2
  · go_wp2_with fail
    go_ret
    exact ⟨rfl, hT2.bel⟩
  · obtain ⟨u1, u2⟩ : useOK 200 s1 n1 f1 = true ∧ useOK 200 s2 n2 f2 = true := by simpa using hq
    obtain ⟨a, ha, la⟩ := WV.of_use r1 q1 u1
    obtain ⟨b, hb, lb⟩ := WV.of_use r2 q2 u2
    have hB := Two0.duo hT2 ha hb
    clear hq u1 u2 hT2 ha hb r1 r2 q1 q2 hU htab
    obtain ⟨k1, k2, k3, k4, -⟩ := Duo.cells hB
    by_cases hb0 : b = 0
    · subst hb0
      obtain rfl : s2 = false := hB.here.2.2.sgn
      obtain rfl : n2 = 0 := by rw [hB.here.2.2.len]; exact ln_zero
      go_wp2_with fail
      refine (divMod_z hB.here.1.2 (le_len hB.here.1.2 (Nat.le_trans la (by decide)))).mono ?_
      clear k1 k2 k3 k4
      rintro e w3 ⟨rfl, hb3⟩
      replace hB := hB.step hb3
      clear hb3
      go_upto_region 6 with (fail)
      replace hB := (hB.fresh (WV.zero w3) 0).fresh (WV.zero _) 0
      simp only [World.size_alloc] at hB
      obtain ⟨z3, hz3⟩ : ∃ z3, z3 = w3.heap.size := ⟨_, rfl⟩
      generalize (w3.alloc (.cells #[.bool false, .slice none 0 0] 24)).alloc (.cells #[.bool false, .slice none 0 0] 24) = W5 at hB ⊢
      rw [← hz3] at *
      clear hz3
      have k1 := hB.here.1.1.2.1.cells.2
      obtain ⟨k2, k3⟩ := hB.here.1.2.1.cells
      go_wp2_with fail
      refine (law_equal_t (c := 0) (d := 0) (WV.zero _) (WV.zero _) (by decide) (by decide) rfl).mono ?_
      clear k1 k2 k3
      rintro e w4 ⟨rfl, hb4⟩
      replace hB := hB.step hb4
      obtain ⟨k2, k3⟩ := hB.here.2.1.cells
      go_wp2_with fail
      refine (law_equal_t (c := 0) (d := 0) (WV.zero _) (WV.zero _) (by decide) (by decide) rfl).mono ?_
      clear k2 k3
      rintro e w5 ⟨rfl, hb5⟩
      replace hB := hB.step hb5
      go_wp2_with fail
      go_ret
      exact ⟨rfl, hB.bel⟩
    · obtain ⟨q, r, hF⟩ := dm_facts a hb0
      obtain ⟨lr, lq⟩ := hF.len la lb
      have HF := Lib.hid hF
      clear hF
      go_wp2_with fail
      refine (divMod_r hB.here.1.2 hB.here.2.2 (le_len hB.here.1.2 (Nat.le_trans la (by decide))) (le_len hB.here.2.2 (Nat.le_trans lb (by decide))) hb0 HF.out.q1 HF.out.r1).mono ?_
      clear k1 k2 k3 k4
      rintro e w3 ⟨sq, Aq, nq, cq, sr, Ar, nr, cr, rfl, hoq, hor, hb3⟩
      replace hB := hB.step hb3
      have hvq := hoq.v
      have hvr := hor.v
      clear hoq hor hb3
      go_upto_region 6 with (fail)
      replace hB := (hB.fresh hvq cq).fresh (hvr.below (belAlloc _ _)) cr
      clear hvq hvr
      simp only [World.size_alloc] at hB
      obtain ⟨z3, hz3⟩ : ∃ z3, z3 = w3.heap.size := ⟨_, rfl⟩
      generalize (w3.alloc (.cells #[.bool sq, .slice Aq nq cq] 24)).alloc (.cells #[.bool sr, .slice Ar nr cr] 24) = W5 at hB ⊢
      rw [← hz3] at *
      clear hz3
      have k1 := hB.here.1.1.2.1.cells.2
      have k2 := hB.here.2.1.cells.2
      have hn2 : 0 < n2 := by rw [hB.here.1.1.2.2.len]; exact (ln_pos b16_two).2 (by omega)
      have t1 : (((n2 : Nat) : Int) == 0) = false := beq_eq_false_iff_ne.2 (by omega)
      go_upto_region 8 with (fail)
      go_cut [8, 9] from 43 to 48 (fun p u wx => ∃ G8 G9, p = .pointer (some ⟨G8, 0, none⟩) ∧ u = .pointer (some ⟨G9, 0, none⟩) ∧ Env w (fun V => (((Duo w.heap.size a b s1 s2 A1 A2 n1 n2 c1 c2 V ∧ Bx z3 q sq Aq nq cq V) ∧ Bx (z3 + 1) r sr Ar nr cr V) ∧ Bx G8 ((b.natAbs : Nat) : Int) false A2 n2 c2 V) ∧ Bx G9 ((r.natAbs : Nat) : Int) false Ar nr cr V) wx)
      case first =>
        have k3 := fun o => (hB.alloc o).here.2.1.cells.2
        have k4 := fun o o' => ((hB.alloc o).alloc o').here.2.1.cells.2
        have k5 := fun o => (hB.alloc o).here.1.1.2.1.cells.2
        have k6 := fun o o' => ((hB.alloc o).alloc o').here.1.1.2.1.cells.2
        go_region
        · go_wp2_with fail
          go_meet
          have hE := ((hB.fresh (WV.abs hB.here.1.1.2.2) c2).fresh ((WV.abs hB.here.2.2).below (belAlloc _ _)) cr).drew
          simp only [World.size_alloc] at hE
          exact ⟨_, _, rfl, rfl, hE⟩
        · go_wp2_with fail
          go_meet
          have hE := ((hB.fresh (WV.abs hB.here.2.2) cr).fresh ((WV.abs hB.here.1.1.2.2).below (belAlloc _ _)) c2).drew
          simp only [World.size_alloc] at hE
          exact ⟨_, _, rfl, rfl, hE.swap⟩
      case rest =>
      clear hB k1 k2
      obtain ⟨G8, G9, rfl, rfl, hB⟩ := hcut
      have lb' : ln b16 ((b.natAbs : Nat) : Int).natAbs ≤ 200 := by rw [Int.natAbs_natCast]; exact lb
      have lr' : ln b16 ((r.natAbs : Nat) : Int).natAbs ≤ 200 := by rw [Int.natAbs_natCast]; exact lr
      go_upto_region 9 with (fail)
      go_cut [79] from 49 to 79 (fun t wx => t = .bool false ∧ Env w (fun V => (((Duo w.heap.size a b s1 s2 A1 A2 n1 n2 c1 c2 V ∧ Bx z3 q sq Aq nq cq V) ∧ Bx (z3 + 1) r sr Ar nr cr V) ∧ Bx G8 ((b.natAbs : Nat) : Int) false A2 n2 c2 V) ∧ Bx G9 ((r.natAbs : Nat) : Int) false Ar nr cr V) wx)
      case first =>
        have hcs : (s2 = true ∧ sr = false ∧ nr = 0) ∨ (s2 = true ∧ sr = true ∧ 0 < nr) ∨ (s2 = false ∧ sr = false) := by
          have h1 := hB.here.1.1.1.1.2.2.sgn
          have h2 := hB.here.1.1.2.2.sgn
          have h3 := hB.here.1.1.2.2.len
          have h4 := HF.out.sg
          rw [h1, h2, h4]
          by_cases hbn : b < 0
          · rw [decide_eq_true hbn]
            by_cases hr0 : r = 0
            · exact .inl ⟨rfl, by rw [hr0]; rfl, by rw [h3, hr0]; exact ln_zero⟩
            · have : 0 < ln b16 r.natAbs := (ln_pos b16_two).2 (by omega)
              exact .inr (.inl ⟨rfl, by rw [decide_eq_true hr0]; rfl, by omega⟩)
          · exact .inr (.inr ⟨decide_eq_false hbn, by rw [decide_eq_false hbn]; rfl⟩)
        rcases hcs with ⟨rfl, rfl, rfl⟩ | ⟨rfl, rfl, hnr⟩ | ⟨rfl, rfl⟩
        · replace hB := hB.drew
          have tok0 : True := trivial
          first | (go_region_held3 (fun w' => w'.cell? ⟨z3, 0, none⟩ = some (.bool sq) ∧ w'.cell? ⟨z3, 1, none⟩ = some (.slice Aq nq cq) ∧ w'.cell? ⟨w.heap.size + 1, 0, none⟩ = some (.bool true) ∧ w'.cell? ⟨w.heap.size + 1, 1, none⟩ = some (.slice A2 n2 c2) ∧ w'.cell? ⟨w.heap.size, 0, none⟩ = some (.bool s1) ∧ w'.cell? ⟨w.heap.size, 1, none⟩ = some (.slice A1 n1 c1) ∧ w'.cell? ⟨z3 + 1, 0, none⟩ = some (.bool false) ∧ w'.cell? ⟨z3 + 1, 1, none⟩ = some (.slice Ar 0 cr) ∧ w'.cell? ⟨G8, 0, none⟩ = some (.bool false) ∧ w'.cell? ⟨G8, 1, none⟩ = some (.slice A2 n2 c2) ∧ w'.cell? ⟨G9, 0, none⟩ = some (.bool false) ∧ w'.cell? ⟨G9, 1, none⟩ = some (.slice Ar 0 cr))
            (exact ⟨hB.here.1.1.1.2.1.cells.1, hB.here.1.1.1.2.1.cells.2, hB.here.1.1.1.1.2.1.cells.1, hB.here.1.1.1.1.2.1.cells.2, hB.here.1.1.1.1.1.1.cells.1, hB.here.1.1.1.1.1.1.cells.2, hB.here.1.1.2.1.cells.1, hB.here.1.1.2.1.cells.2, hB.here.1.2.1.cells.1, hB.here.1.2.1.cells.2, hB.here.2.1.cells.1, hB.here.2.1.cells.2⟩)
            (first
              | (have _t := tok0; go_at_call 17; have hc := law_product (c := cq) (d := c2) hB.here.1.1.1.2.2 hB.here.1.1.1.1.2.2 (le_len hB.here.1.1.1.2.2 (Nat.le_trans lq (by decide))) (le_len hB.here.1.1.1.1.2.2 (Nat.le_trans lb (by decide))) (Nat.le_trans (ln_mulZ lq lb) (by decide)); refine hc.mono ?_; clear hc; rintro e w101 ⟨sv1, Av1, nv1, cv1, rfl, ho1, hb1⟩; replace hB := hB.step hb1; have hv1 := ho1.v; clear tok0 hb1 ho1; have tok1 : True := trivial)
              | (have _t := tok1; go_at_call 16; have hc := law_sum (c := cv1) (d := cr) hv1 hB.here.1.1.2.2 (le_len hv1 (Nat.le_trans (ln_mulZ lq lb) (by decide))) (le_len hB.here.1.1.2.2 (Nat.le_trans lr (by decide))) (Nat.le_trans (ln_addZ (m := 401) (Nat.le_trans (ln_mulZ lq lb) (by decide)) (Nat.le_trans lr (by decide))) (by decide)); refine hc.mono ?_; clear hc; rintro e w102 ⟨sv2, Av2, nv2, cv2, rfl, ho2, hb2⟩; replace hB := hB.step hb2; have hv2 := ho2.v; clear tok1 hb2 hv1 ho2; have tok2 : True := trivial)
              | (have _t := tok2; go_at_call 18; have hc := law_equal_t (c := cv2) (d := c1) hv2 hB.here.1.1.1.1.1.2 (le_len hv2 (Nat.le_trans (ln_addZ (m := 401) (Nat.le_trans (ln_mulZ lq lb) (by decide)) (Nat.le_trans lr (by decide))) (by decide))) (le_len hB.here.1.1.1.1.1.2 (Nat.le_trans la (by decide))) (HF.out.eq.symm); refine hc.mono ?_; clear hc; rintro e w103 ⟨rfl, hb3⟩; replace hB := hB.step hb3; clear tok2 hb3 hv2; have tok3 : True := trivial)
              | (have _t := tok3; go_at_call 33; have hc := cmp_r (c := cr) (d := c2) (r := -1) hB.here.2.2 hB.here.1.2.2 (le_len hB.here.2.2 (Nat.le_trans lr' (by decide))) (le_len hB.here.1.2.2 (Nat.le_trans lb' (by decide))) (if_pos (by have := HF.out.lt; omega)); refine hc.mono ?_; clear hc; rintro e w104 ⟨rfl, hb4⟩; replace hB := hB.step hb4; clear tok3 hb4; have tok4 : True := trivial))) | fail
          clear tok4
          go_wp2_with fail
          go_meet
          exact ⟨rfl, hB⟩
        · replace hB := hB.drew
          have tok0 : True := trivial
          first | (go_region_held3 (fun w' => w'.cell? ⟨z3, 0, none⟩ = some (.bool sq) ∧ w'.cell? ⟨z3, 1, none⟩ = some (.slice Aq nq cq) ∧ w'.cell? ⟨w.heap.size + 1, 0, none⟩ = some (.bool true) ∧ w'.cell? ⟨w.heap.size + 1, 1, none⟩ = some (.slice A2 n2 c2) ∧ w'.cell? ⟨w.heap.size, 0, none⟩ = some (.bool s1) ∧ w'.cell? ⟨w.heap.size, 1, none⟩ = some (.slice A1 n1 c1) ∧ w'.cell? ⟨z3 + 1, 0, none⟩ = some (.bool true) ∧ w'.cell? ⟨z3 + 1, 1, none⟩ = some (.slice Ar nr cr) ∧ w'.cell? ⟨G8, 0, none⟩ = some (.bool false) ∧ w'.cell? ⟨G8, 1, none⟩ = some (.slice A2 n2 c2) ∧ w'.cell? ⟨G9, 0, none⟩ = some (.bool false) ∧ w'.cell? ⟨G9, 1, none⟩ = some (.slice Ar nr cr))
            (exact ⟨hB.here.1.1.1.2.1.cells.1, hB.here.1.1.1.2.1.cells.2, hB.here.1.1.1.1.2.1.cells.1, hB.here.1.1.1.1.2.1.cells.2, hB.here.1.1.1.1.1.1.cells.1, hB.here.1.1.1.1.1.1.cells.2, hB.here.1.1.2.1.cells.1, hB.here.1.1.2.1.cells.2, hB.here.1.2.1.cells.1, hB.here.1.2.1.cells.2, hB.here.2.1.cells.1, hB.here.2.1.cells.2⟩)
            (first
              | (have _t := tok0; go_at_call 17; have hc := law_product (c := cq) (d := c2) hB.here.1.1.1.2.2 hB.here.1.1.1.1.2.2 (le_len hB.here.1.1.1.2.2 (Nat.le_trans lq (by decide))) (le_len hB.here.1.1.1.1.2.2 (Nat.le_trans lb (by decide))) (Nat.le_trans (ln_mulZ lq lb) (by decide)); refine hc.mono ?_; clear hc; rintro e w101 ⟨sv1, Av1, nv1, cv1, rfl, ho1, hb1⟩; replace hB := hB.step hb1; have hv1 := ho1.v; clear tok0 hb1 ho1; have tok1 : True := trivial)
              | (have _t := tok1; go_at_call 16; have hc := law_sum (c := cv1) (d := cr) hv1 hB.here.1.1.2.2 (le_len hv1 (Nat.le_trans (ln_mulZ lq lb) (by decide))) (le_len hB.here.1.1.2.2 (Nat.le_trans lr (by decide))) (Nat.le_trans (ln_addZ (m := 401) (Nat.le_trans (ln_mulZ lq lb) (by decide)) (Nat.le_trans lr (by decide))) (by decide)); refine hc.mono ?_; clear hc; rintro e w102 ⟨sv2, Av2, nv2, cv2, rfl, ho2, hb2⟩; replace hB := hB.step hb2; have hv2 := ho2.v; clear tok1 hb2 hv1 ho2; have tok2 : True := trivial)
              | (have _t := tok2; go_at_call 18; have hc := law_equal_t (c := cv2) (d := c1) hv2 hB.here.1.1.1.1.1.2 (le_len hv2 (Nat.le_trans (ln_addZ (m := 401) (Nat.le_trans (ln_mulZ lq lb) (by decide)) (Nat.le_trans lr (by decide))) (by decide))) (le_len hB.here.1.1.1.1.1.2 (Nat.le_trans la (by decide))) (HF.out.eq.symm); refine hc.mono ?_; clear hc; rintro e w103 ⟨rfl, hb3⟩; replace hB := hB.step hb3; clear tok2 hb3 hv2; have tok3 : True := trivial)
              | (have _t := tok3; go_at_call 33; have hc := cmp_r (c := cr) (d := c2) (r := -1) hB.here.2.2 hB.here.1.2.2 (le_len hB.here.2.2 (Nat.le_trans lr' (by decide))) (le_len hB.here.1.2.2 (Nat.le_trans lb' (by decide))) (if_pos (by have := HF.out.lt; omega)); refine hc.mono ?_; clear hc; rintro e w104 ⟨rfl, hb4⟩; replace hB := hB.step hb4; clear tok3 hb4; have tok4 : True := trivial))) | fail
          clear tok4
          go_wp2_with fail
          go_meet
          exact ⟨rfl, hB⟩
        · replace hB := hB.drew
          have tok0 : True := trivial
          refine wp_region_held_drew (S := fun w' => w'.cell? ⟨z3, 0, none⟩ = some (.bool sq) ∧ w'.cell? ⟨z3, 1, none⟩ = some (.slice Aq nq cq) ∧ w'.cell? ⟨w.heap.size + 1, 0, none⟩ = some (.bool false) ∧ w'.cell? ⟨w.heap.size + 1, 1, none⟩ = some (.slice A2 n2 c2) ∧ w'.cell? ⟨w.heap.size, 0, none⟩ = some (.bool s1) ∧ w'.cell? ⟨w.heap.size, 1, none⟩ = some (.slice A1 n1 c1) ∧ w'.cell? ⟨z3 + 1, 0, none⟩ = some (.bool false) ∧ w'.cell? ⟨z3 + 1, 1, none⟩ = some (.slice Ar nr cr) ∧ w'.cell? ⟨G8, 0, none⟩ = some (.bool false) ∧ w'.cell? ⟨G8, 1, none⟩ = some (.slice A2 n2 c2) ∧ w'.cell? ⟨G9, 0, none⟩ = some (.bool false) ∧ w'.cell? ⟨G9, 1, none⟩ = some (.slice Ar nr cr)) (by kernel_rfl) (⟨hB.here.1.1.1.2.1.cells.1, hB.here.1.1.1.2.1.cells.2, hB.here.1.1.1.1.2.1.cells.1, hB.here.1.1.1.1.2.1.cells.2, hB.here.1.1.1.1.1.1.cells.1, hB.here.1.1.1.1.1.1.cells.2, hB.here.1.1.2.1.cells.1, hB.here.1.1.2.1.cells.2, hB.here.1.2.1.cells.1, hB.here.1.2.1.cells.2, hB.here.2.1.cells.1, hB.here.2.1.cells.2⟩) (fun hHeld => ?_)
          refine wpAnyH_take (i := 0) (v := ?v0) rfl (by kernel_rfl) (by kernel_rfl) (by kernel_rfl) (fun _ _ _ h => h) (Or.inl ⟨by rfl, ?hy0⟩) (by assumption) ?rest0
          case hy0 => intro w hSw; (try dsimp only at hSw); first | (go_simp; done) | (go_simp; with_reducible rfl)
          try simp only [Act.put, List.setIfInBounds_toArray, List.set_cons_zero, List.set_cons_succ]
          refine wpAnyH_take (i := 1) (v := ?v1) rfl (by kernel_rfl) (by kernel_rfl) (by kernel_rfl) (fun _ _ _ h => h) (Or.inl ⟨by rfl, ?hy1⟩) (by assumption) ?rest1
          case hy1 => intro w hSw; (try dsimp only at hSw); first | (go_simp; done) | (go_simp; with_reducible rfl)
          try simp only [Act.put, List.setIfInBounds_toArray, List.set_cons_zero, List.set_cons_succ]
          refine wpAnyH_take (i := 2) (v := ?v2) rfl (by kernel_rfl) (by kernel_rfl) (by kernel_rfl) (fun _ _ _ h => h) (Or.inl ⟨by rfl, ?hy2⟩) (by assumption) ?rest2
          case hy2 => intro w hSw; (try dsimp only at hSw); first | (go_simp; done) | (go_simp; with_reducible rfl)
          try simp only [Act.put, List.setIfInBounds_toArray, List.set_cons_zero, List.set_cons_succ]
          refine wpAnyH_take (i := 3) (v := ?v3) rfl (by kernel_rfl) (by kernel_rfl) (by kernel_rfl) (fun _ _ _ h => h) (Or.inl ⟨by rfl, ?hy3⟩) (by assumption) ?rest3
          case hy3 => intro w hSw; (try dsimp only at hSw); first | (go_simp; done) | (go_simp; with_reducible rfl)
          try simp only [Act.put, List.setIfInBounds_toArray, List.set_cons_zero, List.set_cons_succ]
          refine wpAnyH_take (i := 4) (v := ?v4) rfl (by kernel_rfl) (by kernel_rfl) (by kernel_rfl) (fun _ _ _ h => h) (Or.inl ⟨by rfl, ?hy4⟩) (by assumption) ?rest4
          case hy4 => intro w hSw; (try dsimp only at hSw); first | (go_simp; done) | (go_simp; with_reducible rfl)
          try simp only [Act.put, List.setIfInBounds_toArray, List.set_cons_zero, List.set_cons_succ]
          refine wpAnyH_take (i := 6) (v := ?v6) rfl (by kernel_rfl) (by kernel_rfl) (by kernel_rfl) (fun _ _ _ h => h) (Or.inl ⟨by rfl, ?hy6⟩) (by assumption) ?rest6
          case hy6 => intro w hSw; (try dsimp only at hSw); first | (go_simp; done) | (go_simp; with_reducible rfl)
          try simp only [Act.put, List.setIfInBounds_toArray, List.set_cons_zero, List.set_cons_succ]
          refine wpAnyH_take (i := 8) (v := ?v8) rfl (by kernel_rfl) (by kernel_rfl) (by kernel_rfl) (fun _ _ _ h => h) (Or.inl ⟨by rfl, ?hy8⟩) (by assumption) ?rest8
          case hy8 => intro w hSw; (try dsimp only at hSw); first | (go_simp; done) | (go_simp; with_reducible rfl)
          try simp only [Act.put, List.setIfInBounds_toArray, List.set_cons_zero, List.set_cons_succ]
          refine wpAnyH_ready (rs := [5]) (by kernel_rfl) (by simp) (AllReadyH.cons rfl (fun K hK => ?_) AllReadyH.nil)
          go_simp
          (have _t := tok0; go_at_call 17; have hc := law_product (c := cq) (d := c2) hB.here.1.1.1.2.2 hB.here.1.1.1.1.2.2 (le_len hB.here.1.1.1.2.2 (Nat.le_trans lq (by decide))) (le_len hB.here.1.1.1.1.2.2 (Nat.le_trans lb (by decide))) (Nat.le_trans (ln_mulZ lq lb) (by decide)); refine hc.mono ?_; clear hc; rintro e w101 ⟨sv1, Av1, nv1, cv1, rfl, ho1, hb1⟩; replace hB := hB.step hb1; have hv1 := ho1.v; clear tok0 hb1 ho1; have tok1 : True := trivial)
          go_wp2_with fail
          refine hK.out _ _ (⟨hB.here.1.1.1.2.1.cells.1, hB.here.1.1.1.2.1.cells.2, hB.here.1.1.1.1.2.1.cells.1, hB.here.1.1.1.1.2.1.cells.2, hB.here.1.1.1.1.1.1.cells.1, hB.here.1.1.1.1.1.1.cells.2, hB.here.1.1.2.1.cells.1, hB.here.1.1.2.1.cells.2, hB.here.1.2.1.cells.1, hB.here.1.2.1.cells.2, hB.here.2.1.cells.1, hB.here.2.1.cells.2⟩) (fun hHeld => ?_)
          clear hK K
          try simp only [Act.put, List.setIfInBounds_toArray, List.set_cons_zero, List.set_cons_succ]
          refine wpAnyH_ready (rs := [7]) (by kernel_rfl) (by simp) (AllReadyH.cons rfl (fun K hK => ?_) AllReadyH.nil)
          go_simp
          (have _t := tok1; go_at_call 16; have hc := law_sum (c := cv1) (d := cr) hv1 hB.here.1.1.2.2 (le_len hv1 (Nat.le_trans (ln_mulZ lq lb) (by decide))) (le_len hB.here.1.1.2.2 (Nat.le_trans lr (by decide))) (Nat.le_trans (ln_addZ (m := 401) (Nat.le_trans (ln_mulZ lq lb) (by decide)) (Nat.le_trans lr (by decide))) (by decide)); refine hc.mono ?_; clear hc; rintro e w102 ⟨sv2, Av2, nv2, cv2, rfl, ho2, hb2⟩; replace hB := hB.step hb2; have hv2 := ho2.v; clear tok1 hb2 hv1 ho2; have tok2 : True := trivial)
          go_wp2_with fail
          refine hK.out _ _ (⟨hB.here.1.1.1.2.1.cells.1, hB.here.1.1.1.2.1.cells.2, hB.here.1.1.1.1.2.1.cells.1, hB.here.1.1.1.1.2.1.cells.2, hB.here.1.1.1.1.1.1.cells.1, hB.here.1.1.1.1.1.1.cells.2, hB.here.1.1.2.1.cells.1, hB.here.1.1.2.1.cells.2, hB.here.1.2.1.cells.1, hB.here.1.2.1.cells.2, hB.here.2.1.cells.1, hB.here.2.1.cells.2⟩) (fun hHeld => ?_)
          clear hK K
          try simp only [Act.put, List.setIfInBounds_toArray, List.set_cons_zero, List.set_cons_succ]
          refine wpAnyH_ready (rs := [9]) (by kernel_rfl) (by simp) (AllReadyH.cons rfl (fun K hK => ?_) AllReadyH.nil)
          go_simp
          (have _t := tok2; go_at_call 18; have hc := law_equal_t (c := cv2) (d := c1) hv2 hB.here.1.1.1.1.1.2 (le_len hv2 (Nat.le_trans (ln_addZ (m := 401) (Nat.le_trans (ln_mulZ lq lb) (by decide)) (Nat.le_trans lr (by decide))) (by decide))) (le_len hB.here.1.1.1.1.1.2 (Nat.le_trans la (by decide))) (HF.out.eq.symm); refine hc.mono ?_; clear hc; rintro e w103 ⟨rfl, hb3⟩; replace hB := hB.step hb3; clear tok2 hb3 hv2; have tok3 : True := trivial)
          go_wp2_with fail
          refine hK.out _ _ (⟨hB.here.1.1.1.2.1.cells.1, hB.here.1.1.1.2.1.cells.2, hB.here.1.1.1.1.2.1.cells.1, hB.here.1.1.1.1.2.1.cells.2, hB.here.1.1.1.1.1.1.cells.1, hB.here.1.1.1.1.1.1.cells.2, hB.here.1.1.2.1.cells.1, hB.here.1.1.2.1.cells.2, hB.here.1.2.1.cells.1, hB.here.1.2.1.cells.2, hB.here.2.1.cells.1, hB.here.2.1.cells.2⟩) (fun hHeld => ?_)
          clear hK K
          try simp only [Act.put, List.setIfInBounds_toArray, List.set_cons_zero, List.set_cons_succ]
          refine wpAnyH_take (i := 10) (v := ?v10) rfl (by kernel_rfl) (by kernel_rfl) (by kernel_rfl) (fun _ _ _ h => h) (Or.inl ⟨by rfl, ?hy10⟩) (by assumption) ?rest10
          case hy10 => intro w hSw; (try dsimp only at hSw); first | (go_simp; done) | (go_simp; with_reducible rfl)
          try simp only [Act.put, List.setIfInBounds_toArray, List.set_cons_zero, List.set_cons_succ]
          refine wpAnyH_take (i := 11) (v := ?v11) rfl (by kernel_rfl) (by kernel_rfl) (by kernel_rfl) (fun _ _ _ h => h) (Or.inl ⟨by rfl, ?hy11⟩) (by assumption) ?rest11
          case hy11 => intro w hSw; (try dsimp only at hSw); first | (go_simp; done) | (go_simp; with_reducible rfl)
          try simp only [Act.put, List.setIfInBounds_toArray, List.set_cons_zero, List.set_cons_succ]
          refine wpAnyH_take (i := 12) (v := ?v12) rfl (by kernel_rfl) (by kernel_rfl) (by kernel_rfl) (fun _ _ _ h => h) (Or.inl ⟨by rfl, ?hy12⟩) (by assumption) ?rest12
          case hy12 => intro w hSw; (try dsimp only at hSw); first | (go_simp; done) | (go_simp; with_reducible rfl)
          try simp only [Act.put, List.setIfInBounds_toArray, List.set_cons_zero, List.set_cons_succ]
          refine wpAnyH_take (i := 13) (v := ?v13) rfl (by kernel_rfl) (by kernel_rfl) (by kernel_rfl) (fun _ _ _ h => h) (Or.inl ⟨by rfl, ?hy13⟩) (by assumption) ?rest13
          case hy13 => intro w hSw; (try dsimp only at hSw); first | (go_simp; done) | (go_simp; with_reducible rfl)
          try simp only [Act.put, List.setIfInBounds_toArray, List.set_cons_zero, List.set_cons_succ]
          refine wpAnyH_take (i := 14) (v := ?v14) rfl (by kernel_rfl) (by kernel_rfl) (by kernel_rfl) (fun _ _ _ h => h) (Or.inl ⟨by rfl, ?hy14⟩) (by assumption) ?rest14
          case hy14 => intro w hSw; (try dsimp only at hSw); first | (go_simp; done) | (go_simp; with_reducible rfl)
          try simp only [Act.put, List.setIfInBounds_toArray, List.set_cons_zero, List.set_cons_succ]
          refine wpAnyH_take (i := 15) (v := ?v15) rfl (by kernel_rfl) (by kernel_rfl) (by kernel_rfl) (fun _ _ _ h => h) (Or.inl ⟨by rfl, ?hy15⟩) (by assumption) ?rest15
          case hy15 => intro w hSw; (try dsimp only at hSw); first | (go_simp; done) | (go_simp; with_reducible rfl)
          try simp only [Act.put, List.setIfInBounds_toArray, List.set_cons_zero, List.set_cons_succ]
          refine wpAnyH_take (i := 16) (v := ?v16) rfl (by kernel_rfl) (by kernel_rfl) (by kernel_rfl) (fun _ _ _ h => h) (Or.inl ⟨by rfl, ?hy16⟩) (by assumption) ?rest16
          case hy16 => intro w hSw; (try dsimp only at hSw); first | (go_simp; done) | (go_simp; with_reducible rfl)
          try simp only [Act.put, List.setIfInBounds_toArray, List.set_cons_zero, List.set_cons_succ]
          refine wpAnyH_take (i := 17) (v := ?v17) rfl (by kernel_rfl) (by kernel_rfl) (by kernel_rfl) (fun _ _ _ h => h) (Or.inl ⟨by rfl, ?hy17⟩) (by assumption) ?rest17
          case hy17 => intro w hSw; (try dsimp only at hSw); first | (go_simp; done) | (go_simp; with_reducible rfl)
          try simp only [Act.put, List.setIfInBounds_toArray, List.set_cons_zero, List.set_cons_succ]
          refine wpAnyH_ready (rs := [18]) (by kernel_rfl) (by simp) (AllReadyH.cons rfl (fun K hK => ?_) AllReadyH.nil)
          go_simp
          refine hK.out _ _ (⟨hB.here.1.1.1.2.1.cells.1, hB.here.1.1.1.2.1.cells.2, hB.here.1.1.1.1.2.1.cells.1, hB.here.1.1.1.1.2.1.cells.2, hB.here.1.1.1.1.1.1.cells.1, hB.here.1.1.1.1.1.1.cells.2, hB.here.1.1.2.1.cells.1, hB.here.1.1.2.1.cells.2, hB.here.1.2.1.cells.1, hB.here.1.2.1.cells.2, hB.here.2.1.cells.1, hB.here.2.1.cells.2⟩) (fun hHeld => ?_)
          clear hK K
          try simp only [Act.put, List.setIfInBounds_toArray, List.set_cons_zero, List.set_cons_succ]
          refine wpAnyH_ready (rs := [19]) (by kernel_rfl) (by simp) (AllReadyH.cons rfl (fun K hK => ?_) AllReadyH.nil)
          go_simp
          refine hK.out _ _ (⟨hB.here.1.1.1.2.1.cells.1, hB.here.1.1.1.2.1.cells.2, hB.here.1.1.1.1.2.1.cells.1, hB.here.1.1.1.1.2.1.cells.2, hB.here.1.1.1.1.1.1.cells.1, hB.here.1.1.1.1.1.1.cells.2, hB.here.1.1.2.1.cells.1, hB.here.1.1.2.1.cells.2, hB.here.1.2.1.cells.1, hB.here.1.2.1.cells.2, hB.here.2.1.cells.1, hB.here.2.1.cells.2⟩) (fun hHeld => ?_)
          clear hK K
          try simp only [Act.put, List.setIfInBounds_toArray, List.set_cons_zero, List.set_cons_succ]
          refine wpAnyH_ready (rs := [20]) (by kernel_rfl) (by simp) (AllReadyH.cons rfl (fun K hK => ?_) AllReadyH.nil)
          go_simp
          refine hK.out _ _ (⟨hB.here.1.1.1.2.1.cells.1, hB.here.1.1.1.2.1.cells.2, hB.here.1.1.1.1.2.1.cells.1, hB.here.1.1.1.1.2.1.cells.2, hB.here.1.1.1.1.1.1.cells.1, hB.here.1.1.1.1.1.1.cells.2, hB.here.1.1.2.1.cells.1, hB.here.1.1.2.1.cells.2, hB.here.1.2.1.cells.1, hB.here.1.2.1.cells.2, hB.here.2.1.cells.1, hB.here.2.1.cells.2⟩) (fun hHeld => ?_)
          clear hK K
          try simp only [Act.put, List.setIfInBounds_toArray, List.set_cons_zero, List.set_cons_succ]
          refine wpAnyH_ready (rs := [21]) (by kernel_rfl) (by simp) (AllReadyH.cons rfl (fun K hK => ?_) AllReadyH.nil)
          go_simp
          refine hK.out _ _ (⟨hB.here.1.1.1.2.1.cells.1, hB.here.1.1.1.2.1.cells.2, hB.here.1.1.1.1.2.1.cells.1, hB.here.1.1.1.1.2.1.cells.2, hB.here.1.1.1.1.1.1.cells.1, hB.here.1.1.1.1.1.1.cells.2, hB.here.1.1.2.1.cells.1, hB.here.1.1.2.1.cells.2, hB.here.1.2.1.cells.1, hB.here.1.2.1.cells.2, hB.here.2.1.cells.1, hB.here.2.1.cells.2⟩) (fun hHeld => ?_)
          clear hK K
          try simp only [Act.put, List.setIfInBounds_toArray, List.set_cons_zero, List.set_cons_succ]
          refine wpAnyH_take (i := 22) (v := ?v22) rfl (by kernel_rfl) (by kernel_rfl) (by kernel_rfl) (fun _ _ _ h => h) (Or.inl ⟨by rfl, ?hy22⟩) (by assumption) ?rest22
          case hy22 => intro w hSw; (try dsimp only at hSw); first | (go_simp; done) | (go_simp; with_reducible rfl)
          try simp only [Act.put, List.setIfInBounds_toArray, List.set_cons_zero, List.set_cons_succ]
          refine wpAnyH_take (i := 23) (v := ?v23) rfl (by kernel_rfl) (by kernel_rfl) (by kernel_rfl) (fun _ _ _ h => h) (Or.inl ⟨by rfl, ?hy23⟩) (by assumption) ?rest23
          case hy23 => intro w hSw; (try dsimp only at hSw); first | (go_simp; done) | (go_simp; with_reducible rfl)
          try simp only [Act.put, List.setIfInBounds_toArray, List.set_cons_zero, List.set_cons_succ]
          refine wpAnyH_take (i := 24) (v := ?v24) rfl (by kernel_rfl) (by kernel_rfl) (by kernel_rfl) (fun _ _ _ h => h) (Or.inl ⟨by rfl, ?hy24⟩) (by assumption) ?rest24
          case hy24 => intro w hSw; (try dsimp only at hSw); first | (go_simp; done) | (go_simp; with_reducible rfl)
          try simp only [Act.put, List.setIfInBounds_toArray, List.set_cons_zero, List.set_cons_succ]
          refine wpAnyH_take (i := 25) (v := ?v25) rfl (by kernel_rfl) (by kernel_rfl) (by kernel_rfl) (fun _ _ _ h => h) (Or.inl ⟨by rfl, ?hy25⟩) (by assumption) ?rest25
          case hy25 => intro w hSw; (try dsimp only at hSw); first | (go_simp; done) | (go_simp; with_reducible rfl)
          try simp only [Act.put, List.setIfInBounds_toArray, List.set_cons_zero, List.set_cons_succ]
          refine wpAnyH_take (i := 26) (v := ?v26) rfl (by kernel_rfl) (by kernel_rfl) (by kernel_rfl) (fun _ _ _ h => h) (Or.inl ⟨by rfl, ?hy26⟩) (by assumption) ?rest26
          case hy26 => intro w hSw; (try dsimp only at hSw); first | (go_simp; done) | (go_simp; with_reducible rfl)
          try simp only [Act.put, List.setIfInBounds_toArray, List.set_cons_zero, List.set_cons_succ]
          refine wpAnyH_take (i := 27) (v := ?v27) rfl (by kernel_rfl) (by kernel_rfl) (by kernel_rfl) (fun _ _ _ h => h) (Or.inl ⟨by rfl, ?hy27⟩) (by assumption) ?rest27
          case hy27 => intro w hSw; (try dsimp only at hSw); first | (go_simp; done) | (go_simp; with_reducible rfl)
          try simp only [Act.put, List.setIfInBounds_toArray, List.set_cons_zero, List.set_cons_succ]
          refine wpAnyH_ready (rs := [28]) (by kernel_rfl) (by simp) (AllReadyH.cons rfl (fun K hK => ?_) AllReadyH.nil)
          go_simp
          (have _t := tok3; go_at_call 33; have hc := cmp_r (c := cr) (d := c2) (r := -1) hB.here.2.2 hB.here.1.2.2 (le_len hB.here.2.2 (Nat.le_trans lr' (by decide))) (le_len hB.here.1.2.2 (Nat.le_trans lb' (by decide))) (if_pos (by have := HF.out.lt; omega)); refine hc.mono ?_; clear hc; rintro e w104 ⟨rfl, hb4⟩; replace hB := hB.step hb4; clear tok3 hb4; have tok4 : True := trivial)
          go_wp2_with fail
          refine hK.out _ _ (⟨hB.here.1.1.1.2.1.cells.1, hB.here.1.1.1.2.1.cells.2, hB.here.1.1.1.1.2.1.cells.1, hB.here.1.1.1.1.2.1.cells.2, hB.here.1.1.1.1.1.1.cells.1, hB.here.1.1.1.1.1.1.cells.2, hB.here.1.1.2.1.cells.1, hB.here.1.1.2.1.cells.2, hB.here.1.2.1.cells.1, hB.here.1.2.1.cells.2, hB.here.2.1.cells.1, hB.here.2.1.cells.2⟩) (fun hHeld => ?_)
          clear hK K
          try simp only [Act.put, List.setIfInBounds_toArray, List.set_cons_zero, List.set_cons_succ]
          refine wpAnyH_ready (rs := [29]) (by kernel_rfl) (by simp) (AllReadyH.cons rfl (fun K hK => ?_) AllReadyH.nil)
          go_simp
          refine hK.out _ _ (⟨hB.here.1.1.1.2.1.cells.1, hB.here.1.1.1.2.1.cells.2, hB.here.1.1.1.1.2.1.cells.1, hB.here.1.1.1.1.2.1.cells.2, hB.here.1.1.1.1.1.1.cells.1, hB.here.1.1.1.1.1.1.cells.2, hB.here.1.1.2.1.cells.1, hB.here.1.1.2.1.cells.2, hB.here.1.2.1.cells.1, hB.here.1.2.1.cells.2, hB.here.2.1.cells.1, hB.here.2.1.cells.2⟩) (fun hHeld => ?_)
          clear hK K
          try simp only [Act.put, List.setIfInBounds_toArray, List.set_cons_zero, List.set_cons_succ]
          refine wpAnyH_ready (rs := [30]) (by kernel_rfl) (by simp) (AllReadyH.cons rfl (fun K hK => ?_) AllReadyH.nil)
          go_simp
          refine hK.out _ _ (⟨hB.here.1.1.1.2.1.cells.1, hB.here.1.1.1.2.1.cells.2, hB.here.1.1.1.1.2.1.cells.1, hB.here.1.1.1.1.2.1.cells.2, hB.here.1.1.1.1.1.1.cells.1, hB.here.1.1.1.1.1.1.cells.2, hB.here.1.1.2.1.cells.1, hB.here.1.1.2.1.cells.2, hB.here.1.2.1.cells.1, hB.here.1.2.1.cells.2, hB.here.2.1.cells.1, hB.here.2.1.cells.2⟩) (fun hHeld => ?_)
          clear hK K
          try simp only [Act.put, List.setIfInBounds_toArray, List.set_cons_zero, List.set_cons_succ]
          refine wpAnyH_done (by kernel_rfl) ?_ _
          clear tok4
          go_wp2_with fail
          go_meet
          exact ⟨rfl, hB⟩
      case rest =>
      clear hB
      obtain ⟨rfl, hB⟩ := hcut
      go_upto_region 11 with (fail)
      go_cut [10, 11, 12] from 80 to 88 (fun p u v wx => ∃ G10 G11 s10 A10 n10 d10 s11 A11 n11 d11, p = .pointer (some ⟨G10, 0, none⟩) ∧ u = .pointer (some ⟨G11, 0, none⟩) ∧ v = .int .i64 0 ∧ Env w (fun V => (((((Duo w.heap.size a b s1 s2 A1 A2 n1 n2 c1 c2 V ∧ Bx z3 q sq Aq nq cq V) ∧ Bx (z3 + 1) r sr Ar nr cr V) ∧ Bx G8 ((b.natAbs : Nat) : Int) false A2 n2 c2 V) ∧ Bx G9 ((r.natAbs : Nat) : Int) false Ar nr cr V) ∧ Bx G10 (q + 1) s10 A10 n10 d10 V) ∧ Bx G11 r s11 A11 n11 d11 V) wx)
      case first =>
        have hP := hB.drew
        have hD := hP
        have hb := belSelf hD
        have tok0 : True := trivial
        go_region_held3 (fun w' => w'.cell? ⟨w.heap.size, 0, none⟩ = some (.bool s1) ∧ w'.cell? ⟨w.heap.size, 1, none⟩ = some (.slice A1 n1 c1) ∧ w'.cell? ⟨w.heap.size + 1, 0, none⟩ = some (.bool s2) ∧ w'.cell? ⟨w.heap.size + 1, 1, none⟩ = some (.slice A2 n2 c2))
          (exact cel2 (hD.step (by first | exact hb | exact hb.alloc hb.size _ | exact (hb.alloc hb.size _).alloc (hb.alloc hb.size _).size _ | ((repeat (first | exact hb | (refine Below.setCell ?_ ?_ _) | (refine Below.alloc ?_ ?_ _))) <;> (try dsimp only) <;> (repeat (first | rw [World.size_alloc] | rw [World.size_setCell] | rw [World.size_drew])) <;> omega))).here.1.1.1.1)
          (first
            | (have _t := tok0; go_at_call 16; (first | refine (law_sum (c := c1) (d := c2) (hD.step hb).here.1.1.1.1.1.2 (hD.step hb).here.1.1.1.1.2.2 (le_len (hD.step hb).here.1.1.1.1.1.2 (Nat.le_trans la (by decide))) (le_len (hD.step hb).here.1.1.1.1.2.2 (Nat.le_trans lb (by decide))) (Nat.le_trans (ln_addZ (m := 200) la lb) (by decide))).mono ?_ | (have d0 := hNa.box.lt; (try simp only [World.size_alloc] at d0); (try simp only [World.size_drew] at d0); have eb := hb.size; have hNb := newAt hb; have hne := Nat.ne_of_lt hNa.box.lt; replace hNa := hNa.below (belAlloc _ (.cells #[.bool false, .slice none 0 0] 24)); replace hb := hb.alloc hb.size (.cells #[.bool false, .slice none 0 0] 24); refine (law_sum (c := c1) (d := c2) (hD.step hb).here.1.1.1.1.1.2 (hD.step hb).here.1.1.1.1.2.2 (le_len (hD.step hb).here.1.1.1.1.1.2 (Nat.le_trans la (by decide))) (le_len (hD.step hb).here.1.1.1.1.2.2 (Nat.le_trans lb (by decide))) (Nat.le_trans (ln_addZ (m := 200) la lb) (by decide))).mono ?_) | (have ea := hb.size; have hNa := newAt hb; replace hb := hb.alloc hb.size (.cells #[.bool false, .slice none 0 0] 24); refine (law_sum (c := c1) (d := c2) (hD.step hb).here.1.1.1.1.1.2 (hD.step hb).here.1.1.1.1.2.2 (le_len (hD.step hb).here.1.1.1.1.1.2 (Nat.le_trans la (by decide))) (le_len (hD.step hb).here.1.1.1.1.2.2 (Nat.le_trans lb (by decide))) (Nat.le_trans (ln_addZ (m := 200) la lb) (by decide))).mono ?_) | (have ea := hb.size; have hNa := newAt hb; replace hb := hb.alloc hb.size (.cells #[.bool false, .slice none 0 0] 24); have eb := hb.size; have hNb := newAt hb; have hne := Nat.ne_of_lt hNa.box.lt; replace hNa := hNa.below (belAlloc _ (.cells #[.bool false, .slice none 0 0] 24)); replace hb := hb.alloc hb.size (.cells #[.bool false, .slice none 0 0] 24); refine (law_sum (c := c1) (d := c2) (hD.step hb).here.1.1.1.1.1.2 (hD.step hb).here.1.1.1.1.2.2 (le_len (hD.step hb).here.1.1.1.1.1.2 (Nat.le_trans la (by decide))) (le_len (hD.step hb).here.1.1.1.1.2.2 (Nat.le_trans lb (by decide))) (Nat.le_trans (ln_addZ (m := 200) la lb) (by decide))).mono ?_)); rintro e w20 ⟨sv0, Av0, nv0, cv0, rfl, ho0, hb20⟩; (try replace hNa := hNa.below hb20); (try replace hNb := hNb.below hb20); replace hb := hb.trans (hb20.mono hb.size); have hs20 := hb.size; (try simp only [World.size_drew] at hs20); have hv0 := ho0.v; clear tok0 ho0 hb20; have tok1 : True := trivial)
            | (have _t := tok1; go_at_call 32; (first | refine (divMod_r (c := cv0) (d := c2) hv0 (hD.step hb).here.1.1.1.1.2.2 (le_len hv0 (Nat.le_trans (ln_addZ (m := 200) la lb) (by decide))) (le_len (hD.step hb).here.1.1.1.1.2.2 (Nat.le_trans lb (by decide))) hb0 HF.out.q2 HF.out.r2).mono ?_ | (have d0 := hNa.box.lt; (try simp only [World.size_alloc] at d0); (try simp only [World.size_drew] at d0); have eb := hb.size; have hNb := newAt hb; have hne := Nat.ne_of_lt hNa.box.lt; replace hNa := hNa.below (belAlloc _ (.cells #[.bool false, .slice none 0 0] 24)); replace hb := hb.alloc hb.size (.cells #[.bool false, .slice none 0 0] 24); replace hv0 := hv0.below (belAlloc _ (.cells #[.bool false, .slice none 0 0] 24)); refine (divMod_r (c := cv0) (d := c2) hv0 (hD.step hb).here.1.1.1.1.2.2 (le_len hv0 (Nat.le_trans (ln_addZ (m := 200) la lb) (by decide))) (le_len (hD.step hb).here.1.1.1.1.2.2 (Nat.le_trans lb (by decide))) hb0 HF.out.q2 HF.out.r2).mono ?_) | (have ea := hb.size; have hNa := newAt hb; replace hb := hb.alloc hb.size (.cells #[.bool false, .slice none 0 0] 24); replace hv0 := hv0.below (belAlloc _ (.cells #[.bool false, .slice none 0 0] 24)); refine (divMod_r (c := cv0) (d := c2) hv0 (hD.step hb).here.1.1.1.1.2.2 (le_len hv0 (Nat.le_trans (ln_addZ (m := 200) la lb) (by decide))) (le_len (hD.step hb).here.1.1.1.1.2.2 (Nat.le_trans lb (by decide))) hb0 HF.out.q2 HF.out.r2).mono ?_) | (have ea := hb.size; have hNa := newAt hb; replace hb := hb.alloc hb.size (.cells #[.bool false, .slice none 0 0] 24); have eb := hb.size; have hNb := newAt hb; have hne := Nat.ne_of_lt hNa.box.lt; replace hNa := hNa.below (belAlloc _ (.cells #[.bool false, .slice none 0 0] 24)); replace hb := hb.alloc hb.size (.cells #[.bool false, .slice none 0 0] 24); replace hv0 := hv0.below (belAlloc _ (.cells #[.bool false, .slice none 0 0] 24)); replace hv0 := hv0.below (belAlloc _ (.cells #[.bool false, .slice none 0 0] 24)); refine (divMod_r (c := cv0) (d := c2) hv0 (hD.step hb).here.1.1.1.1.2.2 (le_len hv0 (Nat.le_trans (ln_addZ (m := 200) la lb) (by decide))) (le_len (hD.step hb).here.1.1.1.1.2.2 (Nat.le_trans lb (by decide))) hb0 HF.out.q2 HF.out.r2).mono ?_)); rintro e w21 ⟨sv1, Av1, nv1, cv1, sv2, Av2, nv2, cv2, rfl, ho1, ho2, hb21⟩; (try have ga := hNa.box.lt); (try have gb := hNb.box.lt); (try replace hNa := hNa.below hb21); (try replace hNb := hNb.below hb21); (try (have f0 := hNa.box.frozen 0; have f1 := hNa.box.frozen 1; obtain ⟨r0, r1⟩ := hNa.box.cells; have l0 := hNa.box.lt; (try simp only [World.size_alloc] at f0 f1 r0 r1 l0); (try simp only [World.size_drew] at f0 f1 r0 r1 l0))); (try (have f2 := hNb.box.frozen 0; have f3 := hNb.box.frozen 1; obtain ⟨r2, r3⟩ := hNb.box.cells; have l1 := hNb.box.lt; (try simp only [World.size_alloc] at f2 f3 r2 r3 l1); (try simp only [World.size_drew] at f2 f3 r2 r3 l1))); replace hb := hb.trans (hb21.mono hb.size); have hs21 := hb.size; (try simp only [World.size_drew] at hs21); clear tok1 hv0 hb21; have tok2 : True := trivial))
        all_goals go_wp2_with fail
        all_goals go_meet
        all_goals first
          | (have X := fin2 hD hb hNa.box hNb.box ea eb hne ga gb ho1 ho2; (try simp only [World.size_alloc] at X); (try simp only [World.size_setCell] at X); (try simp only [World.size_alloc] at X); (try simp only [World.size_drew] at X); with_reducible exact ⟨_, _, _, _, _, _, _, _, _, _, rfl, rfl, rfl, X⟩)
          | (have X := fin2 hD hb hNb.box hNa.box eb ea hne.symm gb ga ho1 ho2; (try simp only [World.size_alloc] at X); (try simp only [World.size_setCell] at X); (try simp only [World.size_alloc] at X); (try simp only [World.size_drew] at X); with_reducible exact ⟨_, _, _, _, _, _, _, _, _, _, rfl, rfl, rfl, X⟩)
          | (have X := (fin1 hD hb hNa.box ea ga ho1).fresh (ho2.store ga sv1 (.slice Av1 nv1 cv1)).v cv2; (try simp only [World.size_alloc] at X); (try simp only [World.size_setCell] at X); (try simp only [World.size_alloc] at X); (try simp only [World.size_drew] at X); with_reducible exact ⟨_, _, _, _, _, _, _, _, _, _, rfl, rfl, rfl, X⟩)
          | (have X := ((fin1 hD hb hNa.box ea ga ho2).fresh (ho1.store ga sv2 (.slice Av2 nv2 cv2)).v cv1).swap; (try simp only [World.size_alloc] at X); (try simp only [World.size_setCell] at X); (try simp only [World.size_alloc] at X); (try simp only [World.size_drew] at X); with_reducible exact ⟨_, _, _, _, _, _, _, _, _, _, rfl, rfl, rfl, X⟩)
          | (have X := fin0 (c := cv1) (d := cv2) (hD.step hb) ho1.v ho2.v; (try simp only [World.size_alloc] at X); (try simp only [World.size_setCell] at X); (try simp only [World.size_alloc] at X); (try simp only [World.size_drew] at X); with_reducible exact ⟨_, _, _, _, _, _, _, _, _, _, rfl, rfl, rfl, X⟩)
          | (have X := (fin0 (c := cv2) (d := cv1) (hD.step hb) ho2.v ho1.v).swap; (try simp only [World.size_alloc] at X); (try simp only [World.size_setCell] at X); (try simp only [World.size_alloc] at X); (try simp only [World.size_drew] at X); with_reducible exact ⟨_, _, _, _, _, _, _, _, _, _, rfl, rfl, rfl, X⟩)
      case rest =>
      clear hB
      obtain ⟨G10, G11, s10, A10, n10, d10, s11, A11, n11, d11, rfl, rfl, rfl, hB⟩ := hcut
      have lq1 : ln b16 (q + 1).natAbs ≤ 202 := ln_addZ (m := 201) lq (Nat.le_trans (ln_int (z := 1) (by decide) (by decide)) (by decide))
      go_upto_region 12 with (fail)
      replace hB := hB.drew
      have tok0 : True := trivial
      go_region_held3 (fun w' => w'.cell? ⟨z3, 0, none⟩ = some (.bool sq) ∧ w'.cell? ⟨z3, 1, none⟩ = some (.slice Aq nq cq) ∧ w'.cell? ⟨z3 + 1, 0, none⟩ = some (.bool sr) ∧ w'.cell? ⟨z3 + 1, 1, none⟩ = some (.slice Ar nr cr) ∧ w'.cell? ⟨G10, 0, none⟩ = some (.bool s10) ∧ w'.cell? ⟨G10, 1, none⟩ = some (.slice A10 n10 d10) ∧ w'.cell? ⟨G11, 0, none⟩ = some (.bool s11) ∧ w'.cell? ⟨G11, 1, none⟩ = some (.slice A11 n11 d11))
        (exact ⟨hB.here.1.1.1.1.1.2.1.cells.1, hB.here.1.1.1.1.1.2.1.cells.2, hB.here.1.1.1.1.2.1.cells.1, hB.here.1.1.1.1.2.1.cells.2, hB.here.1.2.1.cells.1, hB.here.1.2.1.cells.2, hB.here.2.1.cells.1, hB.here.2.1.cells.2⟩)
        (first
          | (have _t := tok0; go_at_call 20; refine (num_v (1) _ (by decide) (by decide)).mono ?_; rintro e w101 ⟨sv1, Av1, nv1, cv1, rfl, ho1, hb1⟩; replace hB := hB.step hb1; have hv1 := ho1.v; clear tok0 hb1 ho1; have tok1 : True := trivial)
          | (have _t := tok1; go_at_call 16; have hc := law_sum (c := cq) (d := cv1) hB.here.1.1.1.1.1.2.2 hv1 (le_len hB.here.1.1.1.1.1.2.2 (Nat.le_trans lq (by decide))) (le_len hv1 (Nat.le_trans (ln_int (z := 1) (by decide) (by decide)) (by decide))) (Nat.le_trans (ln_addZ (m := 201) (Nat.le_trans lq (by decide)) (Nat.le_trans (ln_int (z := 1) (by decide) (by decide)) (by decide))) (by decide)); refine hc.mono ?_; clear hc; rintro e w102 ⟨sv2, Av2, nv2, cv2, rfl, ho2, hb2⟩; replace hB := hB.step hb2; have hv2 := ho2.v; clear tok1 hb2 hv1 ho2; have tok2 : True := trivial)
          | (have _t := tok2; go_at_call 18; have hc := law_equal_t (c := d10) (d := cv2) hB.here.1.2.2 hv2 (le_len hB.here.1.2.2 (Nat.le_trans lq1 (by decide))) (le_len hv2 (Nat.le_trans (ln_addZ (m := 201) (Nat.le_trans lq (by decide)) (Nat.le_trans (ln_int (z := 1) (by decide) (by decide)) (by decide))) (by decide))) (rfl); refine hc.mono ?_; clear hc; rintro e w103 ⟨rfl, hb3⟩; replace hB := hB.step hb3; clear tok2 hb3 hv2; have tok3 : True := trivial)
          | (have _t := tok3; go_at_call 18; have hc := law_equal_t (c := d11) (d := cr) hB.here.2.2 hB.here.1.1.1.1.2.2 (le_len hB.here.2.2 (Nat.le_trans lr (by decide))) (le_len hB.here.1.1.1.1.2.2 (Nat.le_trans lr (by decide))) (rfl); refine hc.mono ?_; clear hc; rintro e w104 ⟨rfl, hb4⟩; replace hB := hB.step hb4; clear tok3 hb4; have tok4 : True := trivial))
      clear tok4
      go_wp2_with fail
      go_ret
      exact ⟨rfl, hB.bel⟩
end Go.Proofs.YtafglggjncnkkaaDoor
