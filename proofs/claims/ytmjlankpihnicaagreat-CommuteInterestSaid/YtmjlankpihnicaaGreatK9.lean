/-
  Several texts in one: The walks of life's Rate, Alive, Dies, Both, Either and Left. The expected number of complete years: life.Expect. The laws' small: the table of the examples. The laws' awake: the examples of the chapter. The laws' Large and usable, told both ways. What an argument of the type life.Table or life.Life is: rows of fractions in memory.
-/
import Derived.Test.YtmjlankpihnicaaGreatK8
import Derived.Test.YtmjlankpihnicaaGreatK1
import Derived.Test.YtmjlankpihnicaaGreatK7
import Derived.ProofKit
import Derived.OpenShut
import Derived.Carry
import Derived.Deep.DeepHandedRow
import Derived.Deep.Slices
import Derived.Lib.LaidTab
import Derived.Lib.SmallJoins
namespace Go.Proofs.YtmjlankpihnicaaGreat
open Go.RowKit

theorem lright_t {F S E Y : Int} {A : Option Addr} {n c : Nat} {r : Nat → RH} {w : World} (hT : TabM w A n r) (hB : TabB n r) (h : RightP F S n r E Y) :
    Calls Tryz.prog 24 #[.agg #[.int .i64 F, .int .i64 S, .slice A n c], .agg #[.int .i64 E, .int .i64 Y]] w fun e w' => e = .returned (.bool true) ∧ Below w.heap.size w w' :=
  (lright_any F S E Y A n c r w hT hB).mono fun _ _ ⟨v, he, hv, hb⟩ => by obtain rfl : v = true := hv.2 h; exact ⟨he, hb⟩
theorem lright_f {F S E Y : Int} {A : Option Addr} {n c : Nat} {r : Nat → RH} {w : World} (hT : TabM w A n r) (hB : TabB n r) (h : ¬ RightP F S n r E Y) :
    Calls Tryz.prog 24 #[.agg #[.int .i64 F, .int .i64 S, .slice A n c], .agg #[.int .i64 E, .int .i64 Y]] w fun e w' => e = .returned (.bool false) ∧ Below w.heap.size w w' :=
  (lright_any F S E Y A n c r w hT hB).mono fun _ _ ⟨v, he, hv, hb⟩ => by
    cases v with
    | true => exact absurd (hv.1 rfl) h
    | false => exact ⟨he, hb⟩
/-- The rates of a life. -/
def fr (F S : Int) (n : Nat) (r : Nat → RH) (E Y : Int) : Nat → Rat := fun i => rt F S n r E Y (i : Int)
set_option linter.unusedSimpArgs false in
set_option maxRecDepth 100000 in
set_option maxHeartbeats 4000000 in
theorem lRate_v {F S E Y : Int} {A : Option Addr} {n c : Nat} {r : Nat → RH} {w : World} (hT : TabM w A n r) (hB : TabB n r) (hR : RightP F S n r E Y) :
    Calls Tryz.prog 90 #[.agg #[.int .i64 F, .int .i64 S, .slice A n c], .agg #[.int .i64 E, .int .i64 Y]] w (FOK (fr F S n r E Y 0) w) := by
  obtain ⟨Q, hQ⟩ : ∃ Q, Q = fr F S n r E Y 0 := ⟨_, rfl⟩
  have hl2 : fl Q ≤ 2 := by rw [hQ]; exact rate_fl (rt_rates hT hR 200) (show 0 < 200 by decide)
  rw [← hQ]
  have HQ := Lib.hid hQ
  clear hQ
  have HL2 := Lib.hid hl2
  clear hl2
  have hE := (((Env.start w).tab hT).blk 24 #[.int .i64 F, .int .i64 S, .slice A n c] (g := w.heap.size) rfl).blk 33 #[.int .i64 E, .int .i64 Y] (g := w.heap.size + 1) (by simp)
  have hE := hE.blk 29 #[.bool false, .slice none 0 0, .bool false, .slice none 0 0] (g := w.heap.size + 1 + 1) (by simp)
  obtain ⟨W0, hW0⟩ : ∃ W0, W0 = (((w.alloc (.cells #[.int .i64 F, .int .i64 S, .slice A n c] 24)).alloc (.cells #[.int .i64 E, .int .i64 Y] 33)).alloc (.cells #[.bool false, .slice none 0 0, .bool false, .slice none 0 0] 29)) := ⟨_, rfl⟩
  rw [← hW0] at hE
  have HW0 := Lib.hid hW0
  clear hW0
  go_enter Tryz.func90, Tryz.ntmps90
  go_upto_region 1 with (fail)
  rw [← HW0.out]
  obtain ⟨k1, k2, k3⟩ := (hE.here.1.1.2).c3
  obtain ⟨k4, k5⟩ := (hE.here.1.2).c2
  go_wp2_with fail
  have hc := lright_t (c := c) hE.here.1.1.1.2 hB hR
  refine hc.mono ?_
  clear hc
  clear k1 k2 k3 k4 k5
  rintro e w6 ⟨rfl, hb⟩
  replace hE := hE.step hb
  clear hb
  obtain ⟨k7, k8, k9⟩ := (hE.here.1.1.2).c3
  obtain ⟨k10, k11⟩ := (hE.here.1.2).c2
  go_wp2_with fail
  have hc := lrate_v (k := 0) (c := c) hE.here.1.1.1.2 hR (by decide) (by decide)
  rw [show rt F S n r E Y 0 = Q from HQ.out.symm] at hc
  refine hc.mono ?_
  clear hc
  clear k7 k8 k9 k10 k11
  rintro e w9 ⟨sr, Ar, nr, cr, tr, Br, mr, dr, rfl, hr, hb⟩
  replace hE := hE.step hb
  clear hb
  replace hE := hE.fv hr
  clear hr
  go_upto_region 4 with (fail)
  obtain ⟨g12, hg12⟩ : ∃ g12, g12 = w9.heap.size := ⟨_, rfl⟩
  have hl12_1 : w.heap.size < g12 := by rw [hg12]; exact (hE.here.1.1.1.2).lt
  have hl12_2 : w.heap.size + 1 < g12 := by rw [hg12]; exact (hE.here.1.1.2).lt
  have hl12_3 : w.heap.size + 1 + 1 < g12 := by rw [hg12]; exact (hE.here.1.2).lt
  replace hE := hE.blk 29 #[.bool sr, .slice Ar nr cr, .bool tr, .slice Br mr dr] (g := g12) hg12.symm
  generalize w9.alloc (.cells #[.bool sr, .slice Ar nr cr, .bool tr, .slice Br mr dr] 29) = W12 at hE ⊢
  rw [← hg12]
  clear hg12
  obtain ⟨hn1, hn2⟩ := (hE.here.1.2).ln HL2.out
  obtain ⟨k13, k14, k15, k16⟩ := (hE.here.2).c4
  go_wp2_with fail
  refine (clone_v (hE.here.1.2).1 (by omega)).mono ?_
  clear k13 k14 k15 k16
  clear hn1 hn2
  rintro e w21 ⟨A1, c1, rfl, hA, hb⟩
  replace hE := hE.step hb
  clear hb
  have hF : FV w21 Q sr A1 nr tr Br mr := ⟨⟨(hE.here.1.2).1.1, (hE.here.1.2).1.2.1, hA⟩, (hE.here.1.2).2⟩
  replace hE := hE.fv hF
  clear hA hF
  have hgl : w.heap.size ≤ g12 := by omega
  have hF := (hE.here.2).sep (i := 1) (hE.here.1.2) rfl (.slice A1 nr c1)
  have hBk : Blk 29 g12 #[.bool sr, .slice A1 nr c1, .bool tr, .slice Br mr dr] (w21.setCell ⟨g12, 1, none⟩ (.slice A1 nr c1)) := by simpa using (hE.here.1.2).set_ 1 (.slice A1 nr c1)
  have hE2 := (((Env.again (hE.bel.setCell (p := ⟨g12, 1, none⟩) hgl (.slice A1 nr c1))).blkI ((hE.here.1.1.1.2).far (p := ⟨g12, 1, none⟩) (by simp; omega) (.slice A1 nr c1))).blkI hBk).fv hF
  obtain ⟨y0, y1, y2, y3⟩ := (hE.here.1.2).c4
  have z0 := (hE.here.1.2).frozen 1
  clear hF hBk hE
  go_upto_region 5 with (fail)
  clear y0 y1 y2 y3 z0 hgl
  have hE := hE2
  clear hE2
  generalize w21.setCell ⟨g12, 1, none⟩ (.slice A1 nr c1) = v1 at hE ⊢
  obtain ⟨hn1, hn2⟩ := (hE.here.2).ln HL2.out
  obtain ⟨k17, k18, k19, k20⟩ := (hE.here.1.2).c4
  go_wp2_with fail
  refine (clone_v (hE.here.2).2 (by omega)).mono ?_
  clear k17 k18 k19 k20
  clear hn1 hn2
  rintro e w23 ⟨B1, d1, rfl, hA, hb⟩
  replace hE := hE.step hb
  clear hb
  have hF : FV w23 Q sr A1 nr tr B1 mr := ⟨(hE.here.2).1, ⟨(hE.here.2).2.1, (hE.here.2).2.2.1, hA⟩⟩
  replace hE := hE.fv hF
  clear hA hF
  have hgl : w.heap.size ≤ g12 := by omega
  have hF := (hE.here.2).sep (i := 3) (hE.here.1.1.2) rfl (.slice B1 mr d1)
  have hBk : Blk 29 g12 #[.bool sr, .slice A1 nr c1, .bool tr, .slice B1 mr d1] (w23.setCell ⟨g12, 3, none⟩ (.slice B1 mr d1)) := by simpa using (hE.here.1.1.2).set_ 3 (.slice B1 mr d1)
  have hE2 := (((Env.again (hE.bel.setCell (p := ⟨g12, 3, none⟩) hgl (.slice B1 mr d1))).blkI ((hE.here.1.1.1.2).far (p := ⟨g12, 3, none⟩) (by simp; omega) (.slice B1 mr d1))).blkI hBk).fv hF
  obtain ⟨y0, y1, y2, y3⟩ := (hE.here.1.1.2).c4
  have z0 := (hE.here.1.1.2).frozen 3
  clear hF hBk hE
  go_upto_region 6 with (fail)
  clear y0 y1 y2 y3 z0 hgl
  have hE := hE2
  clear hE2
  generalize w23.setCell ⟨g12, 3, none⟩ (.slice B1 mr d1) = v3 at hE ⊢
  obtain ⟨k21, k22, k23, k24⟩ := (hE.here.1.2).c4
  have hRl : w.heap.size ≤ w.heap.size + 1 + 1 := by omega
  obtain ⟨WW, hWW, hB, hV, hBel⟩ := ret_frac hE hE.here.1.1.2 hRl hE.here.2 c1 d1
  obtain ⟨x0, x1, x2, x3⟩ := (hE.here.1.1.2).c4
  obtain ⟨fz0, fz1, fz2, fz3⟩ := hE.here.1.1.2.f4
  have HWW := Lib.hid hWW
  clear hWW
  go_wp2_with fail
  clear x0 x1 x2 x3
  rw [← HWW.out]
  obtain ⟨y0, y1, y2, y3⟩ := hB.c4
  refine bodyPost_ret (v := .tuple #[.agg #[.bool sr, .slice A1 nr c1, .bool tr, .slice B1 mr d1], .int .i64 0]) (by simp [results, Tryz.results90, go_sem, y0, y1, y2, y3]) rfl ?_
  exact ⟨sr, A1, nr, c1, tr, B1, mr, d1, rfl, hV, hBel⟩
end Go.Proofs.YtmjlankpihnicaaGreat
namespace Go.Proofs.YtmjlankpihnicaaGreat
open Go.RowKit Go.Shelf
attribute [local go_sem] Oper.semAt_some

/-- The books of Expect: the sum q in block Ps, the probability p in block Pp. -/
def BInv (w : World) (Pr Ps Pp : Nat) (q p : Rat) (W : World) : Prop :=
  ∃ s A n c t C m d s' A' n' c' t' C' m' d', Env w (fun V => ((((True ∧ Blk 29 Pr #[.bool false, .slice none 0 0, .bool false, .slice none 0 0] V) ∧ FV V q s A n t C m) ∧ Blk 29 Ps #[.bool s, .slice A n c, .bool t, .slice C m d] V) ∧ FV V p s' A' n' t' C' m') ∧ Blk 29 Pp #[.bool s', .slice A' n' c', .bool t', .slice C' m' d'] V) W
theorem BInv.grown {w : World} {B : Nat} (hB : w.heap.size ≤ B) (Pr Ps Pp : Nat) (q p : Rat) : Grown B (BInv w Pr Ps Pp q p) := fun W W' row ⟨s, A, n, c, t, C, m, d, s', A', n', c', t', C', m', d', h⟩ hg hr =>
  ⟨s, A, n, c, t, C, m, d, s', A', n', c', t', C', m', d', Grown.env hB (((((Grown.tt B).and (Grown.blk _ _ _ _)).and (Grown.fv _ _ _ _ _ _ _ _)).and (Grown.blk _ _ _ _)).and (Grown.fv _ _ _ _ _ _ _ _) |>.and (Grown.blk _ _ _ _)) W W' row h hg hr⟩
theorem BInv.step {w W W' : World} {Pr Ps Pp : Nat} {q p : Rat} (h : BInv w Pr Ps Pp q p W) (hb : Below W.heap.size W W') : BInv w Pr Ps Pp q p W' := by
  obtain ⟨s, A, n, c, t, C, m, d, s', A', n', c', t', C', m', d', h⟩ := h
  exact ⟨s, A, n, c, t, C, m, d, s', A', n', c', t', C', m', d', h.step hb⟩

end Go.Proofs.YtmjlankpihnicaaGreat
namespace Go.Proofs.YtmjlankpihnicaaGreat
open Go.RowKit

theorem qOf_fv {w : World} {q : Rat} {s t : Bool} {A B : Option Addr} {n m : Nat} (h : FV w q s A n t B m) : qOf s n (dgt b16 q.num.natAbs) m (dgt b16 q.den) = q := by
  unfold qOf
  have e1 : vs b16 (dgt b16 q.num.natAbs) n = q.num.natAbs := by rw [h.1.len]; exact vs_dgt_ln b16_two _
  have e2 : vs b16 (dgt b16 q.den) m = q.den := by have := h.2.len; rw [Int.natAbs_natCast] at this; rw [this]; exact vs_dgt_ln b16_two _
  rw [e1, e2, h.1.sgn, toI_int]
  exact Rat.num_divInt_den q
/-- A fraction in memory, by its value. -/
def FHof (q : Rat) (s : Bool) (A : Option Addr) (n c : Nat) (t : Bool) (B : Option Addr) (m d : Nat) : FH := ⟨s, A, n, c, dgt b16 q.num.natAbs, t, B, m, d, dgt b16 q.den⟩
section
variable {w : World} {q : Rat} {s t : Bool} {A B : Option Addr} {n c m d : Nat}
theorem FHof.q_eq (h : FV w q s A n t B m) : (FHof q s A n c t B m d).q = q := qOf_fv h
theorem FHof.rd_of (h : FV w q s A n t B m) : (FHof q s A n c t B m d).rd w := h.rd
theorem FHof.rate (h : FV w q s A n t B m) (h0 : 0 ≤ q) (h1 : q ≤ 1) (hl : fl q ≤ 1) : (FHof q s A n c t B m d).isRate = true := by
  obtain ⟨l1, l2⟩ := h.ln hl
  have hs : s = false := by rw [h.1.sgn]; exact decide_eq_false (by have := Rat.num_nonneg.2 h0; omega)
  show (okF s n (dgt b16 q.num.natAbs) t m (dgt b16 q.den) && (!s && (decide (n ≤ 1) && (decide (m ≤ 1) && decide (cmpQ (qOf s n (dgt b16 q.num.natAbs) m (dgt b16 q.den)) 1 ≤ 0))))) = true
  rw [okF_of h (by omega), qOf_fv h, hs, decide_eq_true l1, decide_eq_true l2, decide_eq_true (cmpQ_le.2 h1)]
  rfl
end
/-- A row of two fractions, a table of three rows. -/
def rowOf (g : Nat) (a b : FH) : RH := ⟨some ⟨g, 0, none⟩, 2, 2, fun k => if k = 0 then a else b⟩
def tab3 (x y z : RH) : Nat → RH := fun i => if i = 0 then x else if i = 1 then y else z
theorem rowM_of {w : World} {g : Nat} {a b : FH} (hB : Blk 29 g #[.bool a.s, .slice a.A a.n a.c, .bool a.t, .slice a.B a.m a.d, .bool b.s, .slice b.A b.n b.c, .bool b.t, .slice b.B b.m b.d] w) (ha : a.rd w) (hb : b.rd w) : RowM w (rowOf g a b) := fun _ => by
  refine ⟨g, 0, rfl, hB.lt, fun k hk => ?_⟩
  have hk2 : k < 2 := hk
  obtain ⟨⟨c0, c1, c2, c3⟩, c4, c5, c6, c7⟩ := hB.c8
  rcases (show k = 0 ∨ k = 1 by omega) with rfl | rfl
  · exact ⟨⟨c0, c1, c2, c3⟩, ha⟩
  · exact ⟨⟨c4, c5, c6, c7⟩, hb⟩
theorem tabM_of {w : World} {g : Nat} {T : TypeId} {x y z : RH} (hB : Blk T g #[.slice x.A x.n x.c, .slice y.A y.n y.c, .slice z.A z.n z.c] w) (hx : RowM w x) (hy : RowM w y) (hz : RowM w z) : TabM w (some ⟨g, 0, none⟩) 3 (tab3 x y z) := fun _ => by
  refine ⟨g, 0, rfl, hB.lt, fun i hi => ?_⟩
  obtain ⟨c0, c1, c2⟩ := hB.c3
  rcases (show i = 0 ∨ i = 1 ∨ i = 2 by omega) with rfl | rfl | rfl
  · exact ⟨c0, hx⟩
  · exact ⟨c1, hy⟩
  · exact ⟨c2, hz⟩
theorem rate_small {n d : Int} (h : (0 ≤ Rat.divInt n d ∧ Rat.divInt n d ≤ 1) ∧ (Rat.divInt n d).num.natAbs < b16 ^ 1 ∧ (Rat.divInt n d).den < b16 ^ 1) : 0 ≤ Rat.divInt n d ∧ Rat.divInt n d ≤ 1 ∧ fl (Rat.divInt n d) ≤ 1 :=
  ⟨h.1.1, h.1.2, fl_le.2 ⟨(ln_le b16_two).2 h.2.1, (ln_le b16_two).2 h.2.2⟩⟩
theorem rowOK_of {g : Nat} {a b : FH} (ha : a.isRate = true) (hb : b.isRate = true) : RowOK 1 (rowOf g a b) := ⟨rfl, fun k hk => by
  have hk2 : k < 2 := hk
  rcases (show k = 0 ∨ k = 1 by omega) with rfl | rfl
  · exact ha
  · exact hb⟩

end Go.Proofs.YtmjlankpihnicaaGreat
namespace Go.Proofs.YtmjlankpihnicaaGreat
open Go.RowKit

theorem TOK.small {F S : Int} {n : Nat} {r : Nat → RH} (h : TOK F S n r) (hn : n ≤ 3) (hS : S = 1) : TabB n r :=
  ⟨by omega, fun i hi => by
    obtain ⟨h1, h2⟩ := h.2.2.1 i hi
    refine ⟨by subst hS; rw [h1]; decide, fun k hk => ?_⟩
    have h3 := h2 k hk
    unfold FH.isRate rateB at h3
    simp only [Bool.and_eq_true, decide_eq_true_eq] at h3
    omega⟩
section
variable {r : Nat → RH} (h : ((r 0).h 0).q = Rat.divInt 1 10 ∧ ((r 0).h 1).q = Rat.divInt 1 5 ∧ ((r 1).h 0).q = Rat.divInt 1 8 ∧ ((r 1).h 1).q = Rat.divInt 1 2 ∧ ((r 2).h 0).q = Rat.divInt 1 4 ∧ ((r 2).h 1).q = Rat.divInt 1 1)
include h
end

end Go.Proofs.YtmjlankpihnicaaGreat
namespace Go.Proofs.YtmjlankpihnicaaGreat
open Go.RowKit

def LargeQ (n : Nat) (r : Nat → RH) (N Wd L : Int) (w : World) (e : Ending) (w' : World) : Prop := ∃ v, e = .returned (.bool v) ∧ (v = false ↔ TabS n r N Wd L) ∧ Below w.heap.size w w'
theorem no_tab {P : Prop} (h : ¬ P) : (true = false ↔ P) := ⟨(fun e => by cases e), fun p => absurd p h⟩
set_option linter.unusedSimpArgs false in
set_option maxRecDepth 100000 in
set_option maxHeartbeats 4000000 in
theorem large_iff (F S N Wd L : Int) (A : Option Addr) (n c : Nat) (r : Nat → RH) (w : World) (hT : TabM w A n r) (h1 : 0 ≤ N) (h2 : N ≤ 1000000) (h3 : 0 ≤ Wd) (h4 : Wd ≤ 1000000) :
    Calls Tryz.prog 34 #[.agg #[.int .i64 F, .int .i64 S, .slice A n c], .int .i64 N, .int .i64 Wd, .int .i64 L] w (LargeQ n r N Wd L w) := by
  have hE := ((Env.start w).and (TabM.stable A n r) hT).blk 24 #[.int .i64 F, .int .i64 S, .slice A n c] (g := w.heap.size) rfl
  obtain ⟨W0, hW0⟩ : ∃ W0, W0 = w.alloc (.cells #[.int .i64 F, .int .i64 S, .slice A n c] 24) := ⟨_, rfl⟩
  rw [← hW0] at hE
  have HW0 := Lib.hid hW0
  clear hW0
  go_enter Tryz.func34, Tryz.ntmps34
  go_upto_region 1 with (fail)
  rw [← HW0.out]
  obtain ⟨k1, k2, k3⟩ := hE.here.2.c3
  by_cases hn : N < (n : Int)
  · have t1 : decide (N < (n : Int)) = true := decide_eq_true hn
    have hno : ¬ TabS n r N Wd L := fun h => by have := h.1; omega
    have HN := Lib.hid hno
    clear hn hno
    go_wp2_with fail
    go_ret
    exact ⟨true, rfl, no_tab HN.out, hE.bel⟩
  · have t1 : decide (N < (n : Int)) = false := decide_eq_false hn
    have Hn := Lib.hid hn
    clear hn
    go_wp2_with fail
    clear k1 k2 k3 t1
    go_loopw [9] (fun x wr => ∃ i : Nat, i ≤ n ∧ x = .int .i64 (i : Int) ∧ Hid (∀ j, j < i → RowS (r j) Wd L) ∧ Env w (fun V => (True ∧ TabM V A n r) ∧ Blk 24 w.heap.size #[.int .i64 F, .int .i64 S, .slice A n c] V) wr) (fun x _ => n - (intOf x).toNat)
    case atStart => exact ⟨0, Nat.zero_le _, rfl, Lib.hid (fun j hj => absurd hj (by omega)), hE⟩
    case round =>
      clear hE
      obtain ⟨i, hi, rfl, HI, hE⟩ := hrel
      obtain ⟨k1, k2, k3⟩ := hE.here.2.c3
      have hn' := Hn.out
      by_cases hlt : i < n
      · obtain ⟨b, o, rfl, hblt, hc⟩ := hE.here.1.2 (by omega)
        obtain ⟨c0, hrow⟩ := hc i hlt
        obtain ⟨R, hR⟩ : ∃ R, R = r i := ⟨_, rfl⟩
        rw [← hR] at c0 hrow
        obtain ⟨Ai, ni, ci, hh⟩ := R
        dsimp only at c0
        have HR := Lib.hid hR
        clear hR hc hrow
        have t1 : decide ((i : Int) < (n : Int)) = true := decide_eq_true (by omega)
        have t2 : (i : Int) < (n : Int) := by omega
        go_wp2_with fail
        clear k1 k2 k3 c0 t1 t2
        go_loopw [10] (fun x wr => ∃ k : Nat, k ≤ ni ∧ x = .int .i64 (k : Int) ∧ Hid ((k : Int) ≤ Wd ∧ ∀ j, j < k → ((hh j).n : Int) ≤ L ∧ ((hh j).m : Int) ≤ L) ∧ Env w (fun V => (True ∧ TabM V (some ⟨b, o, none⟩) n r) ∧ Blk 24 w.heap.size #[.int .i64 F, .int .i64 S, .slice (some ⟨b, o, none⟩) n c] V) wr) (fun x _ => ni - (intOf x).toNat)
        case atStart => exact ⟨0, Nat.zero_le _, rfl, Lib.hid ⟨by omega, fun j hj => absurd hj (by omega)⟩, hE⟩
        case round =>
          clear hE
          obtain ⟨k, hk, rfl, HK, hE⟩ := hrel
          obtain ⟨k1, k2, k3⟩ := hE.here.2.c3
          obtain ⟨b', o', e', hblt, hc⟩ := hE.here.1.2 (by omega)
          injection e' with e'
          injection e' with e1 e2 e3
          subst e1 e2
          obtain ⟨c0, hrow⟩ := hc i hlt
          rw [← HR.out] at c0 hrow
          dsimp only at c0
          have t2 : (i : Int) < (n : Int) := by omega
          clear hc e3
          by_cases hkt : k < ni
          · have u1 : decide ((k : Int) < (ni : Int)) = true := decide_eq_true (by omega)
            have u2 : (k : Int) < (ni : Int) := by omega
            by_cases hw : Wd ≤ (k : Int)
            · have u3 : decide (Wd ≤ (k : Int)) = true := decide_eq_true hw
              have hno : ¬ TabS n r N Wd L := fun h => by
                have h1 := (h.2 i hlt).1
                rw [← HR.out] at h1
                dsimp only at h1
                omega
              have HN := Lib.hid hno
              clear hw hrow hno
              go_wp2_with fail
              go_ret
              exact ⟨true, rfl, no_tab HN.out, hE.bel⟩
            · have u3 : decide (Wd ≤ (k : Int)) = false := decide_eq_false hw
              obtain ⟨b2, o2, e2, hb2, hc2⟩ := hrow (show 0 < ni by omega)
              dsimp only at e2
              subst e2
              obtain ⟨hcl, -⟩ := hc2 k hkt
              dsimp only at hcl
              obtain ⟨H, hH⟩ : ∃ H, H = hh k := ⟨_, rfl⟩
              rw [← hH] at hcl
              have HH := Lib.hid hH
              clear hH hc2
              have HW := Lib.hid hw
              clear hw hrow
              obtain ⟨hs, hA, hn, hc, hf, ht, hD, hm, hd, hg⟩ := H
              obtain ⟨d0, d1, d2, d3⟩ := hcl
              dsimp only at d0 d1 d2 d3
              by_cases hl1 : L < (hn : Int)
              · have u4 : decide (L < (hn : Int)) = true := decide_eq_true hl1
                have hno : ¬ TabS n r N Wd L := fun h => by
                  have h1 := (h.2 i hlt).2
                  rw [← HR.out] at h1
                  have h2 := (h1 k hkt).1
                  dsimp only at h2
                  rw [← HH.out] at h2
                  dsimp only at h2
                  omega
                have HN := Lib.hid hno
                clear hl1 hno
                go_wp2_with fail
                go_ret
                exact ⟨true, rfl, no_tab HN.out, hE.bel⟩
              · have u4 : decide (L < (hn : Int)) = false := decide_eq_false hl1
                have HL1 := Lib.hid hl1
                clear hl1
                by_cases hl2 : L < (hm : Int)
                · have u5 : decide (L < (hm : Int)) = true := decide_eq_true hl2
                  have hno : ¬ TabS n r N Wd L := fun h => by
                    have h1 := (h.2 i hlt).2
                    rw [← HR.out] at h1
                    have h2 := (h1 k hkt).2
                    dsimp only at h2
                    rw [← HH.out] at h2
                    dsimp only at h2
                    omega
                  have HN := Lib.hid hno
                  clear hl2 hno
                  go_wp2_with fail
                  go_ret
                  exact ⟨true, rfl, no_tab HN.out, hE.bel⟩
                · have u5 : decide (L < (hm : Int)) = false := decide_eq_false hl2
                  have HL2 := Lib.hid hl2
                  clear hl2
                  have hk9 : k < 1000000 := by have := HW.out; omega
                  go_wp2_with fail
                  go_roundw
                  case rel =>
                    refine ⟨k + 1, by omega, by go_num, Lib.hid ⟨by have := HW.out; omega, fun j hj => ?_⟩, hE⟩
                    rcases Nat.lt_or_ge j k with h | h
                    · exact HK.out.2 j h
                    · obtain rfl : j = k := by omega
                      rw [← HH.out]
                      have a1 := HL1.out
                      have a2 := HL2.out
                      dsimp only
                      omega
                  case measure => simp [intOf]; omega
          · obtain rfl : k = ni := by omega
            have u1 : decide ((k : Int) < (k : Int)) = false := decide_eq_false (by omega)
            clear hrow
            go_wp2_with fail
            go_roundw
            case rel =>
              refine ⟨i + 1, by omega, by go_num, Lib.hid (fun j hj => ?_), hE⟩
              rcases Nat.lt_or_ge j i with h | h
              · exact HI.out j h
              · obtain rfl : j = i := by omega
                rw [← HR.out]
                exact HK.out
            case measure => simp [intOf]; omega
      · obtain rfl : i = n := by omega
        have t1 : decide ((i : Int) < (i : Int)) = false := decide_eq_false (by omega)
        go_wp2_with fail
        go_ret
        exact ⟨false, rfl, ⟨fun _ => ⟨by omega, HI.out⟩, fun _ => rfl⟩, hE.bel⟩


end Go.Proofs.YtmjlankpihnicaaGreat
namespace Go.Proofs.YtmjlankpihnicaaGreat
open Go.ChangeShapes Go.WideShapes Go.ChangeAt Go.RowKit Go.Deep

theorem cBool : Tryz.prog.cellsOf 4 = 1 := by kernel_rfl
theorem cU16 : Tryz.prog.cellsOf 116 = 1 := by kernel_rfl
theorem cU16s : Tryz.prog.cellsOf 25 = 1 := by kernel_rfl
theorem cWhole : Tryz.prog.cellsOf 27 = 2 := by kernel_rfl
theorem cFrac : Tryz.prog.cellsOf 29 = 4 := by kernel_rfl
theorem cRow : Tryz.prog.cellsOf 39 = 1 := by kernel_rfl
theorem cTable : Tryz.prog.cellsOf 24 = 3 := by kernel_rfl
theorem cLife : Tryz.prog.cellsOf 33 = 2 := by kernel_rfl
instance : Inhabited FH := ⟨⟨false, none, 0, 0, fun _ => 0, false, none, 0, 0, fun _ => 0⟩⟩
instance : Inhabited RH := ⟨⟨none, 0, 0, fun _ => default⟩⟩
theorem two_of_len {α : Type} {l : List α} (h : l.length = 2) : ∃ a b, l = [a, b] := by
  match l, h with
  | [a, b], _ => exact ⟨a, b, rfl⟩
theorem four_of_len {α : Type} {l : List α} (h : l.length = 4) : ∃ a b c d, l = [a, b, c, d] := by
  match l, h with
  | [a, b, c, d], _ => exact ⟨a, b, c, d, rfl⟩
theorem cell_in {w : World} {b o : Nat} {v : Value} (h : w.cell? ⟨b, o, none⟩ = some v) : b < w.heap.size := by
  rcases Nat.lt_or_ge b w.heap.size with h1 | h1
  · exact h1
  · simp [World.cell?, Array.getElem?_eq_none h1] at h
theorem int_in {z : Int} (h : (Lit.int .i64 z).wf = true) : -9223372036854775808 ≤ z ∧ z ≤ 9223372036854775807 := by
  have := range_i64 (zs := [z]) (fun n hn => by rw [List.mem_singleton.1 hn]; exact h) 0
  simpa using this
theorem add_none (b o k : Nat) : (⟨b, o, none⟩ : Addr).add k = ⟨b, o + k, none⟩ := by
  unfold Addr.add
  by_cases h : k = 0
  · simp [h]
  · simp [h]
section
variable {H : Type} {enc : TypeId × Value → H} {W : World}
set_option maxRecDepth 100000 in
/-- The limbs of a number. -/
theorem limbs_open {fuel : Nat} {cs : List Value} {x : DataW H × List MemPlace} (h : DataW.trod enc Tryz.prog W 0 (fun _ => true) true fuel 25 cs = some x) :
    ∃ A n c f, cs = [.slice A n c] ∧ Rd W.heap.size .u16 W A n f ∧ ∀ j, j < n → f j < 65536 := by
  rcases open_ints Tryz.underlying25 Tryz.underlying116 cU16 h with ⟨e1, -⟩ | ⟨a, len, cap, zs, e1, -, hlc, hcm, hzl, -, hc, hwf⟩
  · exact ⟨none, 0, 0, fun _ => 0, e1, Rd.nil, fun j hj => absurd hj (by omega)⟩
  · replace hzl : zs.length = cap := by simpa using hzl
    have hb : ∀ j, 0 ≤ zs.getD j 0 ∧ zs.getD j 0 ≤ 65535 := fun j => by rw [List.getD_eq_getElem?_getD]; exact range_u16 hwf j
    refine ⟨some a, len, cap, fun j => (zs.getD j 0).toNat, e1, fun hn => ?_, fun j _ => by have := hb j; show (zs.getD j 0).toNat < 65536; omega⟩
    obtain ⟨b, o, rfl, hcell⟩ := ints_at hc (by omega)
    refine ⟨b, o, rfl, ?_, fun i hi => ?_⟩
    · exact cell_in (hcell 0 (by omega))
    · rw [hcell i (by omega), Int.toNat_of_nonneg (hb i).1]
set_option maxRecDepth 100000 in
/-- The two cells of a whole number. -/
theorem wcells_open {fuel : Nat} {cs : List Value} {x : DataW H × List MemPlace} (h : DataW.trod enc Tryz.prog W 0 (fun _ => true) true fuel 27 cs = some x) :
    ∃ s A n c f, cs = [.bool s, .slice A n c] ∧ Rd W.heap.size .u16 W A n f ∧ ∀ j, j < n → f j < 65536 := by
  obtain ⟨xs, k, -, -, hl, hx, hi⟩ := DataW.trod_struct Tryz.underlying27 h
  obtain ⟨c0, c1, rfl⟩ := two_of_len (hl.trans cWhole)
  obtain ⟨x0, x1, rfl⟩ := two_of_len hx
  have h0 : DataW.trod enc Tryz.prog W 0 (fun _ => true) true k 4 (([c0, c1].drop 0).take (Tryz.prog.cellsOf 4)) = some x0 := hi 0 _ rfl
  have h1 : DataW.trod enc Tryz.prog W 0 (fun _ => true) true k 25 (([c0, c1].drop 1).take (Tryz.prog.cellsOf 25)) = some x1 := hi 1 _ rfl
  rw [cBool] at h0
  rw [cU16s] at h1
  simp only [List.drop_zero, List.take_succ_cons, List.take_zero, List.drop_succ_cons] at h0 h1
  obtain ⟨s, e0, -⟩ := DataW.trod_bool Tryz.underlying4 h0
  obtain ⟨A, n, c, f, e1, r1, r2⟩ := limbs_open h1
  injection e0 with e0
  injection e1 with e1
  exact ⟨s, A, n, c, f, by rw [e0, e1], r1, r2⟩
set_option maxRecDepth 100000 in
/-- The four cells of a fraction. -/
theorem fcells_open {fuel : Nat} {cs : List Value} {x : DataW H × List MemPlace} (h : DataW.trod enc Tryz.prog W 0 (fun _ => true) true fuel 29 cs = some x) :
    ∃ q : FH, cs = [.bool q.s, .slice q.A q.n q.c, .bool q.t, .slice q.B q.m q.d] ∧ q.rd W := by
  obtain ⟨xs, k, -, -, hl, hx, hi⟩ := DataW.trod_struct Tryz.underlying29 h
  obtain ⟨c0, c1, c2, c3, rfl⟩ := four_of_len (hl.trans cFrac)
  obtain ⟨x0, x1, rfl⟩ := two_of_len hx
  have h0 : DataW.trod enc Tryz.prog W 0 (fun _ => true) true k 27 (([c0, c1, c2, c3].drop 0).take (Tryz.prog.cellsOf 27)) = some x0 := hi 0 _ rfl
  have h1 : DataW.trod enc Tryz.prog W 0 (fun _ => true) true k 27 (([c0, c1, c2, c3].drop 2).take (Tryz.prog.cellsOf 27)) = some x1 := hi 1 _ rfl
  rw [cWhole] at h0 h1
  simp only [List.drop_zero, List.take_succ_cons, List.take_zero, List.drop_succ_cons] at h0 h1
  obtain ⟨s, A, n, c, f, e0, r1, r2⟩ := wcells_open h0
  obtain ⟨t, B, m, d, g, e1, r3, r4⟩ := wcells_open h1
  injection e0 with e0 e2
  injection e2 with e2
  injection e1 with e1 e3
  injection e3 with e3
  exact ⟨⟨s, A, n, c, f, t, B, m, d, g⟩, by rw [e0, e1, e2, e3], r1, r3, r2, r4⟩
set_option maxRecDepth 100000 in
/-- A row of fractions. -/
theorem row_open {fuel : Nat} {cs : List Value} {x : DataW H × List MemPlace} (h : DataW.trod enc Tryz.prog W 0 (fun _ => true) true fuel 39 cs = some x) :
    ∃ R : RH, cs = [.slice R.A R.n R.c] ∧ RowM W R := by
  rcases open_slice Tryz.underlying39 h with ⟨e, -⟩ | ⟨a, len, cap, m, k, D, Pl, rfl, -, hlc, hcm, hm, -, hx⟩
  · exact ⟨⟨none, 0, 0, fun _ => default⟩, e, fun h0 => absurd h0 (by simp)⟩
  · replace hm : m = cap := by simpa using hm
    have hsp : 0 < len → ∃ b o, a = ⟨b, o, none⟩ := fun h0 => by
      obtain ⟨cs', h1, h2⟩ := hx 0 (by omega)
      rw [cFrac] at h1
      obtain ⟨q, rfl, hq⟩ := fcells_open h2
      obtain ⟨-, -, hc⟩ := World.cells?_some h1
      have c0 := hc 0 (by omega)
      obtain ⟨b, o, spot⟩ := a
      have hs : spot = none := by simpa [Addr.add] using World.cell?_spot c0
      exact ⟨b, o, by rw [hs]⟩
    have each : ∀ i, i < len → ∃ q : FH, (∃ b o, a = ⟨b, o, none⟩ ∧ b < W.heap.size ∧ q.cells W b (o + i * 4)) ∧ q.rd W := fun i hi => by
      obtain ⟨b, o, rfl⟩ := hsp (by omega)
      obtain ⟨cs', h1, h2⟩ := hx i (by omega)
      rw [cFrac, add_none] at h1
      obtain ⟨q, rfl, hq⟩ := fcells_open h2
      obtain ⟨-, -, hc⟩ := World.cells?_some h1
      have c0 := hc 0 (by omega)
      have c1 := hc 1 (by omega)
      have c2 := hc 2 (by omega)
      have c3 := hc 3 (by omega)
      rw [add_none] at c0 c1 c2 c3
      simp only [List.getElem?_cons_zero, List.getElem?_cons_succ, Nat.add_zero] at c0 c1 c2 c3
      exact ⟨q, ⟨b, o, rfl, cell_in c0, c0, c1, c2, c3⟩, hq⟩
    obtain ⟨h', hh⟩ := choose_lt each
    refine ⟨⟨some a, len, cap, h'⟩, rfl, fun h0 => ?_⟩
    obtain ⟨⟨b, o, rfl, hb, -⟩, -⟩ := hh 0 h0
    refine ⟨b, o, rfl, hb, fun i hi => ?_⟩
    obtain ⟨⟨b', o', e, -, hc⟩, hr⟩ := hh i hi
    cases e
    exact ⟨hc, hr⟩
set_option maxRecDepth 100000 in
/-- The rows of a table. -/
theorem rows_open {fuel : Nat} {cs : List Value} {x : DataW H × List MemPlace} (h : DataW.trod enc Tryz.prog W 0 (fun _ => true) true fuel 22 cs = some x) :
    ∃ A n c r, cs = [.slice A n c] ∧ TabM W A n r := by
  rcases open_slice1 Tryz.underlying22 cRow h with ⟨e, -⟩ | ⟨a, len, cap, m, k, V, D, Pl, rfl, -, hlc, hcm, hm, -, hx⟩
  · exact ⟨none, 0, 0, fun _ => default, e, fun h0 => absurd h0 (by omega)⟩
  · replace hm : m = cap := by simpa using hm
    have hsp : 0 < len → ∃ b o, a = ⟨b, o, none⟩ := fun h0 => by
      obtain ⟨h1, -⟩ := hx 0 (by omega)
      obtain ⟨b, o, spot⟩ := a
      have hs : spot = none := by simpa [Addr.add] using World.cell?_spot h1
      exact ⟨b, o, by rw [hs]⟩
    have each : ∀ i, i < len → ∃ R : RH, (∃ b o, a = ⟨b, o, none⟩ ∧ b < W.heap.size ∧ W.cell? ⟨b, o + i, none⟩ = some (.slice R.A R.n R.c)) ∧ RowM W R := fun i hi => by
      obtain ⟨b, o, rfl⟩ := hsp (by omega)
      obtain ⟨h1, h2⟩ := hx i (by omega)
      obtain ⟨R, e, hR⟩ := row_open h2
      injection e with e
      rw [e, add_none] at h1
      exact ⟨R, ⟨b, o, rfl, cell_in h1, h1⟩, hR⟩
    obtain ⟨r, hh⟩ := choose_lt each
    refine ⟨some a, len, cap, r, rfl, fun h0 => ?_⟩
    obtain ⟨⟨b, o, rfl, hb, -⟩, -⟩ := hh 0 h0
    refine ⟨b, o, rfl, hb, fun i hi => ?_⟩
    obtain ⟨⟨b', o', e, -, hc⟩, hr⟩ := hh i hi
    cases e
    exact ⟨hc, hr⟩
set_option maxRecDepth 100000 in
theorem life_open {b0 : Nat} {v : Value} {d : DataW H} {p : List MemPlace} (hv : Value.okWide Tryz.prog W .any b0 33 v) (h : DataW.Trod enc Tryz.prog W 0 (fun _ => true) true 33 v d p) :
    ∃ E Y, v = .agg #[.int .i64 E, .int .i64 Y] ∧ ((-9223372036854775808 ≤ E ∧ E ≤ 9223372036854775807) ∧ (-9223372036854775808 ≤ Y ∧ Y ≤ 9223372036854775807)) := by
  obtain ⟨v0, v1, y0, y1, m, rfl, rfl, rfl, h0, h1⟩ := Joins.open_agg2 Tryz.underlying33 (by kernel_rfl) cLife hv h
  obtain ⟨E, e0, -, hE⟩ := DataW.trod_int Tryz.underlying3 h0
  obtain ⟨Y, e1, -, hY⟩ := DataW.trod_int Tryz.underlying3 h1
  injection e0 with e0
  injection e1 with e1
  subst e0 e1
  exact ⟨E, Y, rfl, int_in hE, int_in hY⟩
end
end Go.Proofs.YtmjlankpihnicaaGreat
