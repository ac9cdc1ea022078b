/-
  Several texts in one: The expected number of complete years: life.Expect. The laws' small: the table of the examples. The laws' awake: the examples of the chapter. The laws' Large and usable, told both ways. What an argument of the type life.Table or life.Life is: rows of fractions in memory.
-/
import Derived.Test.YtgkepllfdhcdpaaGreatK13
import Derived.Test.YtgkepllfdhcdpaaGreatK10
import Derived.Test.YtgkepllfdhcdpaaGreatK9
import Derived.ProofKit
import Derived.OpenShut
import Derived.Carry
import Derived.Deep.DeepHandedRow
import Derived.Deep.Slices
import Derived.Lib.LaidTab
import Derived.Lib.SmallJoins
namespace Go.Proofs.YtgkepllfdhcdpaaGreat
open Go.RowKit Go.Shelf
attribute [local go_sem] Oper.semAt_some

/-- The books of Expect: the sum q in block Ps, the probability p in block Pp. -/
def BInv (w : World) (Pr Ps Pp : Nat) (q p : Rat) (W : World) : Prop :=
  ∃ s A n c t C m d s' A' n' c' t' C' m' d', Env w (fun V => ((((True ∧ Blk 40 Pr #[.bool false, .slice none 0 0, .bool false, .slice none 0 0] V) ∧ FV V q s A n t C m) ∧ Blk 40 Ps #[.bool s, .slice A n c, .bool t, .slice C m d] V) ∧ FV V p s' A' n' t' C' m') ∧ Blk 40 Pp #[.bool s', .slice A' n' c', .bool t', .slice C' m' d'] V) W
theorem BInv.grown {w : World} {B : Nat} (hB : w.heap.size ≤ B) (Pr Ps Pp : Nat) (q p : Rat) : Grown B (BInv w Pr Ps Pp q p) := fun W W' row ⟨s, A, n, c, t, C, m, d, s', A', n', c', t', C', m', d', h⟩ hg hr =>
  ⟨s, A, n, c, t, C, m, d, s', A', n', c', t', C', m', d', Grown.env hB (((((Grown.tt B).and (Grown.blk _ _ _ _)).and (Grown.fv _ _ _ _ _ _ _ _)).and (Grown.blk _ _ _ _)).and (Grown.fv _ _ _ _ _ _ _ _) |>.and (Grown.blk _ _ _ _)) W W' row h hg hr⟩
theorem BInv.step {w W W' : World} {Pr Ps Pp : Nat} {q p : Rat} (h : BInv w Pr Ps Pp q p W) (hb : Below W.heap.size W W') : BInv w Pr Ps Pp q p W' := by
  obtain ⟨s, A, n, c, t, C, m, d, s', A', n', c', t', C', m', d', h⟩ := h
  exact ⟨s, A, n, c, t, C, m, d, s', A', n', c', t', C', m', d', h.step hb⟩

set_option linter.unusedSimpArgs false in
set_option maxRecDepth 100000 in
set_option maxHeartbeats 8000000 in
theorem lExpect_v {F S E Y : Int} {A : Option Addr} {n c : Nat} {r : Nat → RH} {w : World} (hT : TabM w A n r) (hB : TabB n r) (hR : RightP F S n r E Y) (K : Nat) (hK : 111 ≤ K) :
    Calls Tryz.prog 23 #[.agg #[.int .i64 F, .int .i64 S, .slice A n c], .agg #[.int .i64 E, .int .i64 Y]] w (FOK (smr (fr F S n r E Y) K) w) := by
  obtain ⟨M, hM, hMa, hMb, hM1⟩ := last_year hR
  have hY200 := fun (Bs n0 : Nat) (h0 : w.heap.size ≤ n0) (W : World) (hb : Below w.heap.size w W) (hBs : Blk 75 Bs #[.int .i64 F, .int .i64 S, .slice A n c, .int .i64 E, .int .i64 Y] W) => years_seq (5 - 1) (by decide) Bs n0 h0 hT hR M (by omega) hMa hMb W hb hBs
  have hRts := rt_rates hT hR 200
  unfold fr
  generalize hf : (fun i : Nat => rt F S n r E Y (i : Int)) = f at *
  have hfM : f M = 1 := by rw [← hf]; exact hM1
  refine (callsIn_wide (n := 5)).1 ?_
  have hro : Fence.wide.round = none := rfl
  refine callsIn_of_wp_marks Tryz.func23 rfl trivial ?_ hro
  simp only [Tryz.ntmps23, List.size_toArray, List.length_cons, List.length_nil, Nat.reduceAdd, Nat.reduceSub, Array.replicate_succ, Array.replicate_zero, List.push_toArray, List.append_toArray, List.nil_append, List.cons_append]
  have hE := ((((Env.start w).tab hT).blk 24 #[.int .i64 F, .int .i64 S, .slice A n c] (g := w.heap.size) rfl).blk 26 #[.int .i64 E, .int .i64 Y] (g := w.heap.size + 1) (by simp)).blk 40 #[.bool false, .slice none 0 0, .bool false, .slice none 0 0] (g := w.heap.size + 1 + 1) (by simp)
  obtain ⟨W0, hW0⟩ : ∃ W0, W0 = (((w.alloc (.cells #[.int .i64 F, .int .i64 S, .slice A n c] 24)).alloc (.cells #[.int .i64 E, .int .i64 Y] 26)).alloc (.cells #[.bool false, .slice none 0 0, .bool false, .slice none 0 0] 40)) := ⟨_, rfl⟩
  rw [← hW0] at hE
  have HW0 := Lib.hid hW0
  clear hW0
  have HhT := Lib.hid hT
  clear hT
  have HhR := Lib.hid hR
  clear hR
  have HhM := Lib.hid hM
  clear hM
  have HhMa := Lib.hid hMa
  clear hMa
  have HhMb := Lib.hid hMb
  clear hMb
  have HhM1 := Lib.hid hM1
  clear hM1
  have Hhf := Lib.hid hf
  clear hf
  have HhfM := Lib.hid hfM
  clear hfM
  have HhRts := Lib.hid hRts
  clear hRts
  have HhK := Lib.hid hK
  clear hK
  have HhY200 := Lib.hid hY200
  clear hY200
  have HhB := Lib.hid hB
  clear hB
  obtain ⟨k1, k2, k3⟩ := (hE.here.1.1.2).c3
  obtain ⟨k4, k5⟩ := (hE.here.1.2).c2
  rw [HW0.out] at k1 k2 k3 k4 k5
  gi_wp2
  rw [← HW0.out]
  clear k1 k2 k3 k4 k5
  skip
  first | refine ⟨trivial, fun _ => by omega, (callsIn_wide.2 (lright_t (c := c) hE.here.1.1.1.2 HhB.out HhR.out)).mono ?_⟩ | refine ⟨trivial, (callsIn_wide.2 (lright_t (c := c) hE.here.1.1.1.2 HhB.out HhR.out)).mono ?_⟩ | refine ⟨trivial, trivial, (callsIn_wide.2 (lright_t (c := c) hE.here.1.1.1.2 HhB.out HhR.out)).mono ?_⟩ | refine ⟨trivial, trivial, fun _ => by omega, (callsIn_wide.2 (lright_t (c := c) hE.here.1.1.1.2 HhB.out HhR.out)).mono ?_⟩
  rintro e w1 ⟨rfl, hb⟩
  replace hE := hE.step hb
  clear hb
  gi_wp2
  skip
  first | refine ⟨trivial, fun _ => by omega, (callsIn_wide.2 (ffromInt_v 0 _ (by decide) (by decide))).mono ?_⟩ | refine ⟨trivial, (callsIn_wide.2 (ffromInt_v 0 _ (by decide) (by decide))).mono ?_⟩ | refine ⟨trivial, trivial, (callsIn_wide.2 (ffromInt_v 0 _ (by decide) (by decide))).mono ?_⟩ | refine ⟨trivial, trivial, fun _ => by omega, (callsIn_wide.2 (ffromInt_v 0 _ (by decide) (by decide))).mono ?_⟩
  rintro e w2 ⟨su, Au, nu, cu, tu, Bu, mu, du, rfl, hs, hb⟩
  replace hE := hE.step hb
  clear hb
  replace hE := hE.fv hs
  clear hs
  gi_wp2
  obtain ⟨g3, hg3⟩ : ∃ g3, g3 = w2.heap.size := ⟨_, rfl⟩
  have hl3_1 : w.heap.size < g3 := by rw [hg3]; exact (hE.here.1.1.1.2).lt
  have hl3_2 : w.heap.size + 1 < g3 := by rw [hg3]; exact (hE.here.1.1.2).lt
  have hl3_3 : w.heap.size + 1 + 1 < g3 := by rw [hg3]; exact (hE.here.1.2).lt
  replace hE := hE.blk 40 #[.bool su, .slice Au nu cu, .bool tu, .slice Bu mu du] (g := g3) hg3.symm
  generalize w2.alloc (.cells #[.bool su, .slice Au nu cu, .bool tu, .slice Bu mu du] 40) = W3 at hE ⊢
  rw [← hg3]
  clear hg3
  skip
  first | refine ⟨trivial, fun _ => by omega, (callsIn_wide.2 (ffromInt_v 1 _ (by decide) (by decide))).mono ?_⟩ | refine ⟨trivial, (callsIn_wide.2 (ffromInt_v 1 _ (by decide) (by decide))).mono ?_⟩ | refine ⟨trivial, trivial, (callsIn_wide.2 (ffromInt_v 1 _ (by decide) (by decide))).mono ?_⟩ | refine ⟨trivial, trivial, fun _ => by omega, (callsIn_wide.2 (ffromInt_v 1 _ (by decide) (by decide))).mono ?_⟩
  rintro e w4 ⟨sp, Ap, np, cp, tp, Bp, mp, dp, rfl, hp, hb⟩
  replace hE := hE.step hb
  clear hb
  replace hE := hE.fv hp
  clear hp
  have hE1 := hE.blk 40 #[.bool sp, .slice Ap np cp, .bool tp, .slice Bp mp dp] (g := w4.heap.size) rfl
  obtain ⟨k1, k2, k3⟩ := (hE1.here.1.1.1.1.1.1.2).c3
  obtain ⟨k4, k5⟩ := (hE1.here.1.1.1.1.1.2).c2
  clear hE1
  have hPl : g3 < w4.heap.size := (hE.here.1.2).lt
  gi_wp2
  refine ⟨trivial, (years_in 4 F S E Y A n c _).mono ?_⟩
  rintro e w9 ⟨rfl, rfl⟩
  gi_wp2
  clear k1 k2 k3 k4 k5
  have hE := (hE.blk 40 #[.bool sp, .slice Ap np cp, .bool tp, .slice Bp mp dp] (g := w4.heap.size) rfl).blk 75 #[.int .i64 F, .int .i64 S, .slice A n c, .int .i64 E, .int .i64 Y] (g := w4.heap.size + 1) (by simp)
  generalize hPp : w4.heap.size = Pp at hE hPl ⊢
  have hsz : ((w4.alloc (.cells #[.bool sp, .slice Ap np cp, .bool tp, .slice Bp mp dp] 40)).alloc (.cells #[.int .i64 F, .int .i64 S, .slice A n c, .int .i64 E, .int .i64 Y] 75)).heap.size = Pp + 2 := by simp [hPp]
  generalize (w4.alloc (.cells #[.bool sp, .slice Ap np cp, .bool tp, .slice Bp mp dp] 40)).alloc (.cells #[.int .i64 F, .int .i64 S, .slice A n c, .int .i64 E, .int .i64 Y] 75) = Wr at hE hsz ⊢
  clear hPp
  have hsw : w.heap.size ≤ Wr.heap.size := by omega
  refine rangeV hro (by decide) (gf := 105) (lb := #[.pointer (some ⟨Pp + 1, 0, none⟩)]) rfl trivial (enters_of Tryz.func105 (by kernel_rfl) rfl)
    (HhY200.out (Pp + 1) w.heap.size (Nat.le_refl _) Wr hE.bel hE.here.2) KpB.t (KpB.b hsw (by omega)) (Below.refl _ _) (fun _ => rfl)
    (fun pre W => BInv w (w.heap.size + 1 + 1) g3 Pp (smr f pre.length) (pr f pre.length) W ∧ Pp + 1 < W.heap.size) (fun _ _ _ => False)
    (fun s W W' row h hg hr => ⟨BInv.grown hsw (w.heap.size + 1 + 1) g3 Pp _ _ W W' row h.1 hg hr, Nat.lt_of_lt_of_le h.2 hg.size⟩) (fun _ _ _ _ _ h _ _ => h)
    ⟨⟨_, _, _, _, _, _, _, _, _, _, _, _, _, _, _, _, (((((Env.again hE.bel).blkI (hE.here.1.1.1.1.1.2)).fv (hE.here.1.1.1.1.2)).blkI (hE.here.1.1.1.2)).fv (hE.here.1.1.2)).blkI (hE.here.1.2)⟩, by omega⟩
    (AAx f Pp (fun g yv rv => { tmps := #[.agg #[.int .i64 F, .int .i64 S, .slice A n c], .agg #[.int .i64 E, .int .i64 Y], .pointer (some ⟨w.heap.size, 0, none⟩), .pointer (some ⟨w.heap.size + 1, 0, none⟩), .pointer (some ⟨w.heap.size + 1 + 1, 0, none⟩), .int .i64 0, .pointer (some ⟨g3, 0, none⟩), .pointer (some ⟨Pp, 0, none⟩), undef, .pointer (some ⟨g, 0, none⟩), .agg #[.int .i64 F, .int .i64 S, .slice A n c], .agg #[.int .i64 E, .int .i64 Y], .bool true, .bool false, undef, .agg #[.bool su, .slice Au nu cu, .bool tu, .slice Bu mu du], .agg #[.bool sp, .slice Ap np cp, .bool tp, .slice Bp mp dp], .agg #[.int .i64 F, .int .i64 S, .slice A n c], .agg #[.int .i64 E, .int .i64 Y], .agg #[.int .i64 F, .int .i64 S, .slice A n c, .int .i64 E, .int .i64 Y], .func (.func 105) #[] #[.pointer (some ⟨Pp + 1, 0, none⟩)], yv, rv, undef, undef, undef, undef, undef, undef, undef, undef], defers := [] })) (fun pre x a' => fun _ W W' row h hg hr => AAx.grown W W' row h hg hr) ?assign ?body ?done ?stop
  case assign =>
    rintro l pre ⟨xk, xs, xA, xn, xc, xt, xB, xm, xd⟩ W K ⟨hI, hBs⟩ ⟨hxk, hxf⟩ hK
    dsimp only at hxk hxf
    subst hxk
    have hIa := BInv.step hI ((Below.refl W.heap.size W).alloc (Nat.le_refl _) (.cells #[.bool xs, .slice xA xn xc, .bool xt, .slice xB xm xd] 40))
    have hkf := (KeepsOthers.alloc W (.cells #[.bool xs, .slice xA xn xc, .bool xt, .slice xB xm xd] 40)).from Wr.heap.size
    have hwl : w.heap.size ≤ W.heap.size := by obtain ⟨_, _, _, _, _, _, _, _, _, _, _, _, _, _, _, _, h⟩ := hI; exact h.bel.size
    have hkp : KpB w.heap.size (Pp + 1) W (W.alloc (.cells #[.bool xs, .slice xA xn xc, .bool xt, .slice xB xm xd] 40)) := KpB.grown hwl hBs (World.grownBy_alloc W _ none) (fun _ e => by cases e)
    have hfa := hxf.below ((Below.refl W.heap.size W).alloc (Nat.le_refl _) (.cells #[.bool xs, .slice xA xn xc, .bool xt, .slice xB xm xd] 40))
    have hba := Blk.new W 40 #[.bool xs, .slice xA xn xc, .bool xt, .slice xB xm xd]
    have hfin := fun a hax => hK a _ hkf hkp ⟨hIa, by simp; omega⟩ ⟨rfl, W.heap.size, hax, by omega, by simp, hfa, hba⟩
    have HF := Lib.hid hfin
    clear hfin hK hIa hkf hkp hfa hba hI hxf
    dsimp only [Yr.vals]
    gi_wp2
    exact HF.out _ rfl
  case body =>
    rintro l pre ⟨xk, xs, xA, xn, xc, xt, xB, xm, xd⟩ a' W ⟨⟨su2, Au2, nu2, cu2, tu2, Bu2, mu2, du2, sq, Aq, nq, cq, tq, Bq, mq, dq, hE⟩, hBs⟩ ⟨hxk, g, rfl, hg1, hg2, hxf, hxb⟩ hlen
    dsimp only at hxk hxf hxb
    subst hxk
    have hE := ((hE.fv hxf).blkI hxb).trail (Trail.refl (B := Wr.heap.size) (n₀ := w.heap.size) (Bs := Pp + 1) W hBs hE.bel.size)
    clear hxf hxb
    have hmx : Tryz.prog.follows .mixedOrders = true := by kernel_rfl
    have hM := HhM.out
    have lq : fl (pr f pre.length) ≤ 256 := Nat.le_trans (pr_fl HhRts.out (show pre.length ≤ 200 by omega)) (by omega)
    have lx : fl (f pre.length) ≤ 256 := Nat.le_trans (rate_fl HhRts.out (show pre.length < 200 by omega)) (by decide)
    have lo : fl (1 - f pre.length) ≤ 256 := Nat.le_trans (other_fl HhRts.out (show pre.length < 200 by omega)) (by decide)
    have lr : fl (pr f pre.length * (1 - f pre.length)) ≤ 256 := Nat.le_trans (pr_fl (k := pre.length + 1) HhRts.out (show pre.length + 1 ≤ 200 by omega)) (by omega)
    have lu : fl (smr f pre.length) ≤ 256 := Nat.le_trans (smr_fl HhRts.out (show pre.length ≤ 200 by omega) (by omega)) (by omega)
    have lv : fl (smr f pre.length + pr f pre.length * (1 - f pre.length)) ≤ 256 := Nat.le_trans (smr_fl (k := pre.length + 1) HhRts.out (show pre.length + 1 ≤ 200 by omega) (by omega)) (by omega)
    have hlen2 : (pre ++ [Yr.mk pre.length xs xA xn xc xt xB xm xd]).length = pre.length + 1 := by simp
    clear hM
    have Hlq := Lib.hid lq
    clear lq
    have Hlx := Lib.hid lx
    clear lx
    have Hlo := Lib.hid lo
    clear lo
    have Hlr := Lib.hid lr
    clear lr
    have Hlu := Lib.hid lu
    clear lu
    have Hlv := Lib.hid lv
    clear lv
    have Hhlen2 := Lib.hid hlen2
    clear hlen2
    gi_wp2
    refine wpIn_region_any (by assumption) ?_
    replace hE := hE.drew
    change wpAnyIn _ _ _ _ _ _ _ _ _ (W.drew)
    generalize W.drew = wd at hE ⊢
    refine wpAnyIn_ready (rs := [0, 1]) (by kernel_rfl) (by simp) ?_
    refine AllReadyIn.cons rfl (fun K hK => ?_) ?_
    · skip
      obtain ⟨k5, k6, k7, k8⟩ := (hE.here.1.1.1.2).c4
      obtain ⟨k9, k10, k11, k12⟩ := (hE.here.1.2).c4
      go_simp
      refine hK _ _ ?_
      clear hK K
      try simp only [Act.put, List.setIfInBounds_toArray, List.set_cons_zero, List.set_cons_succ, List.getElem_toArray, List.getElem_cons_succ, List.getElem_cons_zero]
      clear k5 k6 k7 k8 k9 k10 k11 k12
      refine wpAnyIn_ready (rs := [1]) (by kernel_rfl) (by simp) ?_
      refine AllReadyIn.cons rfl (fun K hK => ?_) ?_
      · skip
        obtain ⟨k13, k14, k15, k16⟩ := (hE.here.1.1.1.2).c4
        obtain ⟨k17, k18, k19, k20⟩ := (hE.here.1.2).c4
        go_simp
        refine hK _ _ ?_
        clear hK K
        try simp only [Act.put, List.setIfInBounds_toArray, List.set_cons_zero, List.set_cons_succ, List.getElem_toArray, List.getElem_cons_succ, List.getElem_cons_zero]
        clear k13 k14 k15 k16 k17 k18 k19 k20
        refine wpAnyIn_ready (rs := [2]) (by kernel_rfl) (by simp) ?_
        refine AllReadyIn.cons rfl (fun K hK => ?_) ?_
        · skip
          go_simp
          skip
          first | refine ⟨trivial, fun _ => by omega, (CallsIn.inRound l (callsIn_wide.2 (lother_v (ca := xc) (da := xd) hE.here.1.1.2 Hlx.out Hlo.out))).mono ?_⟩ | refine ⟨trivial, (CallsIn.inRound l (callsIn_wide.2 (lother_v (ca := xc) (da := xd) hE.here.1.1.2 Hlx.out Hlo.out))).mono ?_⟩ | refine ⟨trivial, trivial, (CallsIn.inRound l (callsIn_wide.2 (lother_v (ca := xc) (da := xd) hE.here.1.1.2 Hlx.out Hlo.out))).mono ?_⟩ | refine ⟨trivial, trivial, fun _ => by omega, (CallsIn.inRound l (callsIn_wide.2 (lother_v (ca := xc) (da := xd) hE.here.1.1.2 Hlx.out Hlo.out))).mono ?_⟩
          rintro e w21 ⟨so, Ao, no, co, ti, Bo, mo, dob, rfl, ho, hb⟩
          replace hE := hE.step hb
          clear hb
          replace hE := hE.fv ho
          clear ho
          refine hK _ _ ?_
          clear hK K
          try simp only [Act.put, List.setIfInBounds_toArray, List.set_cons_zero, List.set_cons_succ, List.getElem_toArray, List.getElem_cons_succ, List.getElem_cons_zero]
          refine wpAnyIn_ready (rs := [3]) (by kernel_rfl) (by simp) ?_
          refine AllReadyIn.cons rfl (fun K hK => ?_) ?_
          · skip
            go_simp
            skip
            first | refine ⟨trivial, fun _ => by omega, (CallsIn.inRound l (callsIn_wide.2 (ltimes_v (ca := cq) (da := dq) (cb := co) (db := dob) hE.here.1.1.1.1.1.2 hE.here.2 Hlq.out Hlo.out Hlr.out))).mono ?_⟩ | refine ⟨trivial, (CallsIn.inRound l (callsIn_wide.2 (ltimes_v (ca := cq) (da := dq) (cb := co) (db := dob) hE.here.1.1.1.1.1.2 hE.here.2 Hlq.out Hlo.out Hlr.out))).mono ?_⟩ | refine ⟨trivial, trivial, (CallsIn.inRound l (callsIn_wide.2 (ltimes_v (ca := cq) (da := dq) (cb := co) (db := dob) hE.here.1.1.1.1.1.2 hE.here.2 Hlq.out Hlo.out Hlr.out))).mono ?_⟩ | refine ⟨trivial, trivial, fun _ => by omega, (CallsIn.inRound l (callsIn_wide.2 (ltimes_v (ca := cq) (da := dq) (cb := co) (db := dob) hE.here.1.1.1.1.1.2 hE.here.2 Hlq.out Hlo.out Hlr.out))).mono ?_⟩
            rintro e w22 ⟨sz, Az, nz, cz, tz, Bz, mz, dz, rfl, hz, hb⟩
            replace hE := hE.step hb
            clear hb
            replace hE := hE.fv hz
            clear hz
            refine hK _ _ ?_
            clear hK K
            try simp only [Act.put, List.setIfInBounds_toArray, List.set_cons_zero, List.set_cons_succ, List.getElem_toArray, List.getElem_cons_succ, List.getElem_cons_zero]
            refine wpAnyIn_ready (rs := [4]) (by kernel_rfl) (by simp) ?_
            refine AllReadyIn.cons rfl (fun K hK => ?_) ?_
            · skip
              have hgl23 : w.heap.size ≤ Pp := by omega
              obtain ⟨x23_0, x23_1, x23_2, x23_3⟩ := (hE.here.1.1.1.1.1.2).c4
              have f23_0 := (hE.here.1.1.1.1.1.2).frozen 0
              have f23_1 := (hE.here.1.1.1.1.1.2).frozen 1
              have f23_2 := (hE.here.1.1.1.1.1.2).frozen 2
              have f23_3 := (hE.here.1.1.1.1.1.2).frozen 3
              replace hE := (((((((((((Env.again (bel4 hE.bel hgl23 (.bool sz) (.slice Az nz cz) (.bool tz) (.slice Bz mz dz))).blkI ((hE.here.1.1.1.1.1.1.1.1.1.2).far4 (R := Pp) (by omega) (.bool sz) (.slice Az nz cz) (.bool tz) (.slice Bz mz dz))).fv ((hE.here.1.1.1.1.1.1.1.1.2).sep4 hE.here.1.1.1.1.1.2 rfl (.bool sz) (.slice Az nz cz) (.bool tz) (.slice Bz mz dz) rfl rfl rfl)).blkI ((hE.here.1.1.1.1.1.1.1.2).far4 (R := Pp) (by omega) (.bool sz) (.slice Az nz cz) (.bool tz) (.slice Bz mz dz))).fv ((hE.here.1.1.1.1.1.1.2).sep4 hE.here.1.1.1.1.1.2 rfl (.bool sz) (.slice Az nz cz) (.bool tz) (.slice Bz mz dz) rfl rfl rfl)).blkI ((hE.here.1.1.1.1.1.2).s4 (.bool sz) (.slice Az nz cz) (.bool tz) (.slice Bz mz dz))).fv ((hE.here.1.1.1.1.2).sep4 hE.here.1.1.1.1.1.2 rfl (.bool sz) (.slice Az nz cz) (.bool tz) (.slice Bz mz dz) rfl rfl rfl)).blkI ((hE.here.1.1.1.2).far4 (R := Pp) (by omega) (.bool sz) (.slice Az nz cz) (.bool tz) (.slice Bz mz dz))).trail ((hE.here.1.1.2).set4 ⟨by omega, by omega, by omega⟩ (.bool sz) (.slice Az nz cz) (.bool tz) (.slice Bz mz dz))).fv ((hE.here.1.2).sep4 hE.here.1.1.1.1.1.2 rfl (.bool sz) (.slice Az nz cz) (.bool tz) (.slice Bz mz dz) rfl rfl rfl)).fv ((hE.here.2).sep4 hE.here.1.1.1.1.1.2 rfl (.bool sz) (.slice Az nz cz) (.bool tz) (.slice Bz mz dz) rfl rfl rfl))
              go_simp
              clear x23_0 x23_1 x23_2 x23_3 f23_0 f23_1 f23_2 f23_3 hgl23
              generalize ((((w22.setCell ⟨Pp, 0, none⟩ (.bool sz)).setCell ⟨Pp, 1, none⟩ (.slice Az nz cz)).setCell ⟨Pp, 2, none⟩ (.bool tz)).setCell ⟨Pp, 3, none⟩ (.slice Bz mz dz)) = W23 at hE ⊢
              refine hK _ _ ?_
              clear hK K
              try simp only [Act.put, List.setIfInBounds_toArray, List.set_cons_zero, List.set_cons_succ, List.getElem_toArray, List.getElem_cons_succ, List.getElem_cons_zero]
              refine wpAnyIn_done (by kernel_rfl) ?_ _
              obtain ⟨j1, j2, j3, j4⟩ := (hE.here.1.1.1.1.1.1.1.2).c4
              obtain ⟨j5, j6, j7, j8⟩ := (hE.here.1.1.1.1.1.2).c4
              gi_wp2
              skip
              first | refine ⟨trivial, fun _ => by omega, (CallsIn.inRound l (callsIn_wide.2 (lplus_v (ca := cu2) (da := du2) (cb := cz) (db := dz) hE.here.1.1.1.1.1.1.1.1.2 hE.here.2 Hlu.out Hlr.out Hlv.out))).mono ?_⟩ | refine ⟨trivial, (CallsIn.inRound l (callsIn_wide.2 (lplus_v (ca := cu2) (da := du2) (cb := cz) (db := dz) hE.here.1.1.1.1.1.1.1.1.2 hE.here.2 Hlu.out Hlr.out Hlv.out))).mono ?_⟩ | refine ⟨trivial, trivial, (CallsIn.inRound l (callsIn_wide.2 (lplus_v (ca := cu2) (da := du2) (cb := cz) (db := dz) hE.here.1.1.1.1.1.1.1.1.2 hE.here.2 Hlu.out Hlr.out Hlv.out))).mono ?_⟩ | refine ⟨trivial, trivial, fun _ => by omega, (CallsIn.inRound l (callsIn_wide.2 (lplus_v (ca := cu2) (da := du2) (cb := cz) (db := dz) hE.here.1.1.1.1.1.1.1.1.2 hE.here.2 Hlu.out Hlr.out Hlv.out))).mono ?_⟩
              rintro e w24 ⟨sv, Av, nv, cv, tv, Bv, mv, dv, rfl, hv, hb⟩
              replace hE := hE.step hb
              clear hb
              replace hE := hE.fv hv
              clear hv
              clear j1 j2 j3 j4 j5 j6 j7 j8
              have hgl25 : w.heap.size ≤ g3 := by omega
              obtain ⟨x25_0, x25_1, x25_2, x25_3⟩ := (hE.here.1.1.1.1.1.1.1.1.2).c4
              have f25_0 := (hE.here.1.1.1.1.1.1.1.1.2).frozen 0
              have f25_1 := (hE.here.1.1.1.1.1.1.1.1.2).frozen 1
              have f25_2 := (hE.here.1.1.1.1.1.1.1.1.2).frozen 2
              have f25_3 := (hE.here.1.1.1.1.1.1.1.1.2).frozen 3
              replace hE := ((((((((((((Env.again (bel4 hE.bel hgl25 (.bool sv) (.slice Av nv cv) (.bool tv) (.slice Bv mv dv))).blkI ((hE.here.1.1.1.1.1.1.1.1.1.1.2).far4 (R := g3) (by omega) (.bool sv) (.slice Av nv cv) (.bool tv) (.slice Bv mv dv))).fv ((hE.here.1.1.1.1.1.1.1.1.1.2).sep4 hE.here.1.1.1.1.1.1.1.1.2 rfl (.bool sv) (.slice Av nv cv) (.bool tv) (.slice Bv mv dv) rfl rfl rfl)).blkI ((hE.here.1.1.1.1.1.1.1.1.2).s4 (.bool sv) (.slice Av nv cv) (.bool tv) (.slice Bv mv dv))).fv ((hE.here.1.1.1.1.1.1.1.2).sep4 hE.here.1.1.1.1.1.1.1.1.2 rfl (.bool sv) (.slice Av nv cv) (.bool tv) (.slice Bv mv dv) rfl rfl rfl)).blkI ((hE.here.1.1.1.1.1.1.2).far4 (R := g3) (by omega) (.bool sv) (.slice Av nv cv) (.bool tv) (.slice Bv mv dv))).fv ((hE.here.1.1.1.1.1.2).sep4 hE.here.1.1.1.1.1.1.1.1.2 rfl (.bool sv) (.slice Av nv cv) (.bool tv) (.slice Bv mv dv) rfl rfl rfl)).blkI ((hE.here.1.1.1.1.2).far4 (R := g3) (by omega) (.bool sv) (.slice Av nv cv) (.bool tv) (.slice Bv mv dv))).trail ((hE.here.1.1.1.2).set4 ⟨by omega, by omega, by omega⟩ (.bool sv) (.slice Av nv cv) (.bool tv) (.slice Bv mv dv))).fv ((hE.here.1.1.2).sep4 hE.here.1.1.1.1.1.1.1.1.2 rfl (.bool sv) (.slice Av nv cv) (.bool tv) (.slice Bv mv dv) rfl rfl rfl)).fv ((hE.here.1.2).sep4 hE.here.1.1.1.1.1.1.1.1.2 rfl (.bool sv) (.slice Av nv cv) (.bool tv) (.slice Bv mv dv) rfl rfl rfl)).fv ((hE.here.2).sep4 hE.here.1.1.1.1.1.1.1.1.2 rfl (.bool sv) (.slice Av nv cv) (.bool tv) (.slice Bv mv dv) rfl rfl rfl))
              gi_wp2
              clear x25_0 x25_1 x25_2 x25_3 f25_0 f25_1 f25_2 f25_3 hgl25
              generalize ((((w24.setCell ⟨g3, 0, none⟩ (.bool sv)).setCell ⟨g3, 1, none⟩ (.slice Av nv cv)).setCell ⟨g3, 2, none⟩ (.bool tv)).setCell ⟨g3, 3, none⟩ (.slice Bv mv dv)) = W25 at hE ⊢
              refine ⟨(hE.here.1.1.1.2).keeps, (hE.here.1.1.1.2).kp, ?_, (hE.here.1.1.1.2).hs⟩
              show BInv _ _ _ _ (smr f (pre ++ [Yr.mk pre.length xs xA xn xc xt xB xm xd]).length) (pr f (pre ++ [Yr.mk pre.length xs xA xn xc xt xB xm xd]).length) _
              rw [Hhlen2.out]
              exact ⟨_, _, _, _, _, _, _, _, _, _, _, _, _, _, _, _, (((((Env.again hE.bel).blkI (hE.here.1.1.1.1.1.1.1.1.1.1.2)).fv (hE.here.2)).blkI (hE.here.1.1.1.1.1.1.1.1.2)).fv (hE.here.1.2)).blkI (hE.here.1.1.1.1.1.1.2)⟩
            exact AllReadyIn.nil
          exact AllReadyIn.nil
        exact AllReadyIn.nil
      exact AllReadyIn.nil
    refine AllReadyIn.cons rfl (fun K hK => ?_) ?_
    · skip
      obtain ⟨k26, k27, k28, k29⟩ := (hE.here.1.1.1.2).c4
      obtain ⟨k30, k31, k32, k33⟩ := (hE.here.1.2).c4
      go_simp
      refine hK _ _ ?_
      clear hK K
      try simp only [Act.put, List.setIfInBounds_toArray, List.set_cons_zero, List.set_cons_succ, List.getElem_toArray, List.getElem_cons_succ, List.getElem_cons_zero]
      clear k26 k27 k28 k29 k30 k31 k32 k33
      refine wpAnyIn_ready (rs := [0, 2]) (by kernel_rfl) (by simp) ?_
      refine AllReadyIn.cons rfl (fun K hK => ?_) ?_
      · skip
        obtain ⟨k34, k35, k36, k37⟩ := (hE.here.1.1.1.2).c4
        obtain ⟨k38, k39, k40, k41⟩ := (hE.here.1.2).c4
        go_simp
        refine hK _ _ ?_
        clear hK K
        try simp only [Act.put, List.setIfInBounds_toArray, List.set_cons_zero, List.set_cons_succ, List.getElem_toArray, List.getElem_cons_succ, List.getElem_cons_zero]
        clear k34 k35 k36 k37 k38 k39 k40 k41
        refine wpAnyIn_ready (rs := [2]) (by kernel_rfl) (by simp) ?_
        refine AllReadyIn.cons rfl (fun K hK => ?_) ?_
        · skip
          go_simp
          skip
          first | refine ⟨trivial, fun _ => by omega, (CallsIn.inRound l (callsIn_wide.2 (lother_v (ca := xc) (da := xd) hE.here.1.1.2 Hlx.out Hlo.out))).mono ?_⟩ | refine ⟨trivial, (CallsIn.inRound l (callsIn_wide.2 (lother_v (ca := xc) (da := xd) hE.here.1.1.2 Hlx.out Hlo.out))).mono ?_⟩ | refine ⟨trivial, trivial, (CallsIn.inRound l (callsIn_wide.2 (lother_v (ca := xc) (da := xd) hE.here.1.1.2 Hlx.out Hlo.out))).mono ?_⟩ | refine ⟨trivial, trivial, fun _ => by omega, (CallsIn.inRound l (callsIn_wide.2 (lother_v (ca := xc) (da := xd) hE.here.1.1.2 Hlx.out Hlo.out))).mono ?_⟩
          rintro e w42 ⟨so, Ao, no, co, ti, Bo, mo, dob, rfl, ho, hb⟩
          replace hE := hE.step hb
          clear hb
          replace hE := hE.fv ho
          clear ho
          refine hK _ _ ?_
          clear hK K
          try simp only [Act.put, List.setIfInBounds_toArray, List.set_cons_zero, List.set_cons_succ, List.getElem_toArray, List.getElem_cons_succ, List.getElem_cons_zero]
          refine wpAnyIn_ready (rs := [3]) (by kernel_rfl) (by simp) ?_
          refine AllReadyIn.cons rfl (fun K hK => ?_) ?_
          · skip
            go_simp
            skip
            first | refine ⟨trivial, fun _ => by omega, (CallsIn.inRound l (callsIn_wide.2 (ltimes_v (ca := cq) (da := dq) (cb := co) (db := dob) hE.here.1.1.1.1.1.2 hE.here.2 Hlq.out Hlo.out Hlr.out))).mono ?_⟩ | refine ⟨trivial, (CallsIn.inRound l (callsIn_wide.2 (ltimes_v (ca := cq) (da := dq) (cb := co) (db := dob) hE.here.1.1.1.1.1.2 hE.here.2 Hlq.out Hlo.out Hlr.out))).mono ?_⟩ | refine ⟨trivial, trivial, (CallsIn.inRound l (callsIn_wide.2 (ltimes_v (ca := cq) (da := dq) (cb := co) (db := dob) hE.here.1.1.1.1.1.2 hE.here.2 Hlq.out Hlo.out Hlr.out))).mono ?_⟩ | refine ⟨trivial, trivial, fun _ => by omega, (CallsIn.inRound l (callsIn_wide.2 (ltimes_v (ca := cq) (da := dq) (cb := co) (db := dob) hE.here.1.1.1.1.1.2 hE.here.2 Hlq.out Hlo.out Hlr.out))).mono ?_⟩
            rintro e w43 ⟨sz, Az, nz, cz, tz, Bz, mz, dz, rfl, hz, hb⟩
            replace hE := hE.step hb
            clear hb
            replace hE := hE.fv hz
            clear hz
            refine hK _ _ ?_
            clear hK K
            try simp only [Act.put, List.setIfInBounds_toArray, List.set_cons_zero, List.set_cons_succ, List.getElem_toArray, List.getElem_cons_succ, List.getElem_cons_zero]
            refine wpAnyIn_ready (rs := [4]) (by kernel_rfl) (by simp) ?_
            refine AllReadyIn.cons rfl (fun K hK => ?_) ?_
            · skip
              have hgl44 : w.heap.size ≤ Pp := by omega
              obtain ⟨x44_0, x44_1, x44_2, x44_3⟩ := (hE.here.1.1.1.1.1.2).c4
              have f44_0 := (hE.here.1.1.1.1.1.2).frozen 0
              have f44_1 := (hE.here.1.1.1.1.1.2).frozen 1
              have f44_2 := (hE.here.1.1.1.1.1.2).frozen 2
              have f44_3 := (hE.here.1.1.1.1.1.2).frozen 3
              replace hE := (((((((((((Env.again (bel4 hE.bel hgl44 (.bool sz) (.slice Az nz cz) (.bool tz) (.slice Bz mz dz))).blkI ((hE.here.1.1.1.1.1.1.1.1.1.2).far4 (R := Pp) (by omega) (.bool sz) (.slice Az nz cz) (.bool tz) (.slice Bz mz dz))).fv ((hE.here.1.1.1.1.1.1.1.1.2).sep4 hE.here.1.1.1.1.1.2 rfl (.bool sz) (.slice Az nz cz) (.bool tz) (.slice Bz mz dz) rfl rfl rfl)).blkI ((hE.here.1.1.1.1.1.1.1.2).far4 (R := Pp) (by omega) (.bool sz) (.slice Az nz cz) (.bool tz) (.slice Bz mz dz))).fv ((hE.here.1.1.1.1.1.1.2).sep4 hE.here.1.1.1.1.1.2 rfl (.bool sz) (.slice Az nz cz) (.bool tz) (.slice Bz mz dz) rfl rfl rfl)).blkI ((hE.here.1.1.1.1.1.2).s4 (.bool sz) (.slice Az nz cz) (.bool tz) (.slice Bz mz dz))).fv ((hE.here.1.1.1.1.2).sep4 hE.here.1.1.1.1.1.2 rfl (.bool sz) (.slice Az nz cz) (.bool tz) (.slice Bz mz dz) rfl rfl rfl)).blkI ((hE.here.1.1.1.2).far4 (R := Pp) (by omega) (.bool sz) (.slice Az nz cz) (.bool tz) (.slice Bz mz dz))).trail ((hE.here.1.1.2).set4 ⟨by omega, by omega, by omega⟩ (.bool sz) (.slice Az nz cz) (.bool tz) (.slice Bz mz dz))).fv ((hE.here.1.2).sep4 hE.here.1.1.1.1.1.2 rfl (.bool sz) (.slice Az nz cz) (.bool tz) (.slice Bz mz dz) rfl rfl rfl)).fv ((hE.here.2).sep4 hE.here.1.1.1.1.1.2 rfl (.bool sz) (.slice Az nz cz) (.bool tz) (.slice Bz mz dz) rfl rfl rfl))
              go_simp
              clear x44_0 x44_1 x44_2 x44_3 f44_0 f44_1 f44_2 f44_3 hgl44
              generalize ((((w43.setCell ⟨Pp, 0, none⟩ (.bool sz)).setCell ⟨Pp, 1, none⟩ (.slice Az nz cz)).setCell ⟨Pp, 2, none⟩ (.bool tz)).setCell ⟨Pp, 3, none⟩ (.slice Bz mz dz)) = W44 at hE ⊢
              refine hK _ _ ?_
              clear hK K
              try simp only [Act.put, List.setIfInBounds_toArray, List.set_cons_zero, List.set_cons_succ, List.getElem_toArray, List.getElem_cons_succ, List.getElem_cons_zero]
              refine wpAnyIn_done (by kernel_rfl) ?_ _
              obtain ⟨j1, j2, j3, j4⟩ := (hE.here.1.1.1.1.1.1.1.2).c4
              obtain ⟨j5, j6, j7, j8⟩ := (hE.here.1.1.1.1.1.2).c4
              gi_wp2
              skip
              first | refine ⟨trivial, fun _ => by omega, (CallsIn.inRound l (callsIn_wide.2 (lplus_v (ca := cu2) (da := du2) (cb := cz) (db := dz) hE.here.1.1.1.1.1.1.1.1.2 hE.here.2 Hlu.out Hlr.out Hlv.out))).mono ?_⟩ | refine ⟨trivial, (CallsIn.inRound l (callsIn_wide.2 (lplus_v (ca := cu2) (da := du2) (cb := cz) (db := dz) hE.here.1.1.1.1.1.1.1.1.2 hE.here.2 Hlu.out Hlr.out Hlv.out))).mono ?_⟩ | refine ⟨trivial, trivial, (CallsIn.inRound l (callsIn_wide.2 (lplus_v (ca := cu2) (da := du2) (cb := cz) (db := dz) hE.here.1.1.1.1.1.1.1.1.2 hE.here.2 Hlu.out Hlr.out Hlv.out))).mono ?_⟩ | refine ⟨trivial, trivial, fun _ => by omega, (CallsIn.inRound l (callsIn_wide.2 (lplus_v (ca := cu2) (da := du2) (cb := cz) (db := dz) hE.here.1.1.1.1.1.1.1.1.2 hE.here.2 Hlu.out Hlr.out Hlv.out))).mono ?_⟩
              rintro e w45 ⟨sv, Av, nv, cv, tv, Bv, mv, dv, rfl, hv, hb⟩
              replace hE := hE.step hb
              clear hb
              replace hE := hE.fv hv
              clear hv
              clear j1 j2 j3 j4 j5 j6 j7 j8
              have hgl46 : w.heap.size ≤ g3 := by omega
              obtain ⟨x46_0, x46_1, x46_2, x46_3⟩ := (hE.here.1.1.1.1.1.1.1.1.2).c4
              have f46_0 := (hE.here.1.1.1.1.1.1.1.1.2).frozen 0
              have f46_1 := (hE.here.1.1.1.1.1.1.1.1.2).frozen 1
              have f46_2 := (hE.here.1.1.1.1.1.1.1.1.2).frozen 2
              have f46_3 := (hE.here.1.1.1.1.1.1.1.1.2).frozen 3
              replace hE := ((((((((((((Env.again (bel4 hE.bel hgl46 (.bool sv) (.slice Av nv cv) (.bool tv) (.slice Bv mv dv))).blkI ((hE.here.1.1.1.1.1.1.1.1.1.1.2).far4 (R := g3) (by omega) (.bool sv) (.slice Av nv cv) (.bool tv) (.slice Bv mv dv))).fv ((hE.here.1.1.1.1.1.1.1.1.1.2).sep4 hE.here.1.1.1.1.1.1.1.1.2 rfl (.bool sv) (.slice Av nv cv) (.bool tv) (.slice Bv mv dv) rfl rfl rfl)).blkI ((hE.here.1.1.1.1.1.1.1.1.2).s4 (.bool sv) (.slice Av nv cv) (.bool tv) (.slice Bv mv dv))).fv ((hE.here.1.1.1.1.1.1.1.2).sep4 hE.here.1.1.1.1.1.1.1.1.2 rfl (.bool sv) (.slice Av nv cv) (.bool tv) (.slice Bv mv dv) rfl rfl rfl)).blkI ((hE.here.1.1.1.1.1.1.2).far4 (R := g3) (by omega) (.bool sv) (.slice Av nv cv) (.bool tv) (.slice Bv mv dv))).fv ((hE.here.1.1.1.1.1.2).sep4 hE.here.1.1.1.1.1.1.1.1.2 rfl (.bool sv) (.slice Av nv cv) (.bool tv) (.slice Bv mv dv) rfl rfl rfl)).blkI ((hE.here.1.1.1.1.2).far4 (R := g3) (by omega) (.bool sv) (.slice Av nv cv) (.bool tv) (.slice Bv mv dv))).trail ((hE.here.1.1.1.2).set4 ⟨by omega, by omega, by omega⟩ (.bool sv) (.slice Av nv cv) (.bool tv) (.slice Bv mv dv))).fv ((hE.here.1.1.2).sep4 hE.here.1.1.1.1.1.1.1.1.2 rfl (.bool sv) (.slice Av nv cv) (.bool tv) (.slice Bv mv dv) rfl rfl rfl)).fv ((hE.here.1.2).sep4 hE.here.1.1.1.1.1.1.1.1.2 rfl (.bool sv) (.slice Av nv cv) (.bool tv) (.slice Bv mv dv) rfl rfl rfl)).fv ((hE.here.2).sep4 hE.here.1.1.1.1.1.1.1.1.2 rfl (.bool sv) (.slice Av nv cv) (.bool tv) (.slice Bv mv dv) rfl rfl rfl))
              gi_wp2
              clear x46_0 x46_1 x46_2 x46_3 f46_0 f46_1 f46_2 f46_3 hgl46
              generalize ((((w45.setCell ⟨g3, 0, none⟩ (.bool sv)).setCell ⟨g3, 1, none⟩ (.slice Av nv cv)).setCell ⟨g3, 2, none⟩ (.bool tv)).setCell ⟨g3, 3, none⟩ (.slice Bv mv dv)) = W46 at hE ⊢
              refine ⟨(hE.here.1.1.1.2).keeps, (hE.here.1.1.1.2).kp, ?_, (hE.here.1.1.1.2).hs⟩
              show BInv _ _ _ _ (smr f (pre ++ [Yr.mk pre.length xs xA xn xc xt xB xm xd]).length) (pr f (pre ++ [Yr.mk pre.length xs xA xn xc xt xB xm xd]).length) _
              rw [Hhlen2.out]
              exact ⟨_, _, _, _, _, _, _, _, _, _, _, _, _, _, _, _, (((((Env.again hE.bel).blkI (hE.here.1.1.1.1.1.1.1.1.1.1.2)).fv (hE.here.2)).blkI (hE.here.1.1.1.1.1.1.1.1.2)).fv (hE.here.1.2)).blkI (hE.here.1.1.1.1.1.1.2)⟩
            exact AllReadyIn.nil
          exact AllReadyIn.nil
        exact AllReadyIn.nil
      refine AllReadyIn.cons rfl (fun K hK => ?_) ?_
      · skip
        go_simp
        skip
        first | refine ⟨trivial, fun _ => by omega, (CallsIn.inRound l (callsIn_wide.2 (lother_v (ca := xc) (da := xd) hE.here.1.1.2 Hlx.out Hlo.out))).mono ?_⟩ | refine ⟨trivial, (CallsIn.inRound l (callsIn_wide.2 (lother_v (ca := xc) (da := xd) hE.here.1.1.2 Hlx.out Hlo.out))).mono ?_⟩ | refine ⟨trivial, trivial, (CallsIn.inRound l (callsIn_wide.2 (lother_v (ca := xc) (da := xd) hE.here.1.1.2 Hlx.out Hlo.out))).mono ?_⟩ | refine ⟨trivial, trivial, fun _ => by omega, (CallsIn.inRound l (callsIn_wide.2 (lother_v (ca := xc) (da := xd) hE.here.1.1.2 Hlx.out Hlo.out))).mono ?_⟩
        rintro e w47 ⟨so, Ao, no, co, ti, Bo, mo, dob, rfl, ho, hb⟩
        replace hE := hE.step hb
        clear hb
        replace hE := hE.fv ho
        clear ho
        refine hK _ _ ?_
        clear hK K
        try simp only [Act.put, List.setIfInBounds_toArray, List.set_cons_zero, List.set_cons_succ, List.getElem_toArray, List.getElem_cons_succ, List.getElem_cons_zero]
        refine wpAnyIn_ready (rs := [0]) (by kernel_rfl) (by simp) ?_
        refine AllReadyIn.cons rfl (fun K hK => ?_) ?_
        · skip
          obtain ⟨k48, k49, k50, k51⟩ := (hE.here.1.1.1.1.2).c4
          obtain ⟨k52, k53, k54, k55⟩ := (hE.here.1.1.2).c4
          go_simp
          refine hK _ _ ?_
          clear hK K
          try simp only [Act.put, List.setIfInBounds_toArray, List.set_cons_zero, List.set_cons_succ, List.getElem_toArray, List.getElem_cons_succ, List.getElem_cons_zero]
          clear k48 k49 k50 k51 k52 k53 k54 k55
          refine wpAnyIn_ready (rs := [3]) (by kernel_rfl) (by simp) ?_
          refine AllReadyIn.cons rfl (fun K hK => ?_) ?_
          · skip
            go_simp
            skip
            first | refine ⟨trivial, fun _ => by omega, (CallsIn.inRound l (callsIn_wide.2 (ltimes_v (ca := cq) (da := dq) (cb := co) (db := dob) hE.here.1.1.1.1.1.2 hE.here.2 Hlq.out Hlo.out Hlr.out))).mono ?_⟩ | refine ⟨trivial, (CallsIn.inRound l (callsIn_wide.2 (ltimes_v (ca := cq) (da := dq) (cb := co) (db := dob) hE.here.1.1.1.1.1.2 hE.here.2 Hlq.out Hlo.out Hlr.out))).mono ?_⟩ | refine ⟨trivial, trivial, (CallsIn.inRound l (callsIn_wide.2 (ltimes_v (ca := cq) (da := dq) (cb := co) (db := dob) hE.here.1.1.1.1.1.2 hE.here.2 Hlq.out Hlo.out Hlr.out))).mono ?_⟩ | refine ⟨trivial, trivial, fun _ => by omega, (CallsIn.inRound l (callsIn_wide.2 (ltimes_v (ca := cq) (da := dq) (cb := co) (db := dob) hE.here.1.1.1.1.1.2 hE.here.2 Hlq.out Hlo.out Hlr.out))).mono ?_⟩
            rintro e w56 ⟨sz, Az, nz, cz, tz, Bz, mz, dz, rfl, hz, hb⟩
            replace hE := hE.step hb
            clear hb
            replace hE := hE.fv hz
            clear hz
            refine hK _ _ ?_
            clear hK K
            try simp only [Act.put, List.setIfInBounds_toArray, List.set_cons_zero, List.set_cons_succ, List.getElem_toArray, List.getElem_cons_succ, List.getElem_cons_zero]
            refine wpAnyIn_ready (rs := [4]) (by kernel_rfl) (by simp) ?_
            refine AllReadyIn.cons rfl (fun K hK => ?_) ?_
            · skip
              have hgl57 : w.heap.size ≤ Pp := by omega
              obtain ⟨x57_0, x57_1, x57_2, x57_3⟩ := (hE.here.1.1.1.1.1.2).c4
              have f57_0 := (hE.here.1.1.1.1.1.2).frozen 0
              have f57_1 := (hE.here.1.1.1.1.1.2).frozen 1
              have f57_2 := (hE.here.1.1.1.1.1.2).frozen 2
              have f57_3 := (hE.here.1.1.1.1.1.2).frozen 3
              replace hE := (((((((((((Env.again (bel4 hE.bel hgl57 (.bool sz) (.slice Az nz cz) (.bool tz) (.slice Bz mz dz))).blkI ((hE.here.1.1.1.1.1.1.1.1.1.2).far4 (R := Pp) (by omega) (.bool sz) (.slice Az nz cz) (.bool tz) (.slice Bz mz dz))).fv ((hE.here.1.1.1.1.1.1.1.1.2).sep4 hE.here.1.1.1.1.1.2 rfl (.bool sz) (.slice Az nz cz) (.bool tz) (.slice Bz mz dz) rfl rfl rfl)).blkI ((hE.here.1.1.1.1.1.1.1.2).far4 (R := Pp) (by omega) (.bool sz) (.slice Az nz cz) (.bool tz) (.slice Bz mz dz))).fv ((hE.here.1.1.1.1.1.1.2).sep4 hE.here.1.1.1.1.1.2 rfl (.bool sz) (.slice Az nz cz) (.bool tz) (.slice Bz mz dz) rfl rfl rfl)).blkI ((hE.here.1.1.1.1.1.2).s4 (.bool sz) (.slice Az nz cz) (.bool tz) (.slice Bz mz dz))).fv ((hE.here.1.1.1.1.2).sep4 hE.here.1.1.1.1.1.2 rfl (.bool sz) (.slice Az nz cz) (.bool tz) (.slice Bz mz dz) rfl rfl rfl)).blkI ((hE.here.1.1.1.2).far4 (R := Pp) (by omega) (.bool sz) (.slice Az nz cz) (.bool tz) (.slice Bz mz dz))).trail ((hE.here.1.1.2).set4 ⟨by omega, by omega, by omega⟩ (.bool sz) (.slice Az nz cz) (.bool tz) (.slice Bz mz dz))).fv ((hE.here.1.2).sep4 hE.here.1.1.1.1.1.2 rfl (.bool sz) (.slice Az nz cz) (.bool tz) (.slice Bz mz dz) rfl rfl rfl)).fv ((hE.here.2).sep4 hE.here.1.1.1.1.1.2 rfl (.bool sz) (.slice Az nz cz) (.bool tz) (.slice Bz mz dz) rfl rfl rfl))
              go_simp
              clear x57_0 x57_1 x57_2 x57_3 f57_0 f57_1 f57_2 f57_3 hgl57
              generalize ((((w56.setCell ⟨Pp, 0, none⟩ (.bool sz)).setCell ⟨Pp, 1, none⟩ (.slice Az nz cz)).setCell ⟨Pp, 2, none⟩ (.bool tz)).setCell ⟨Pp, 3, none⟩ (.slice Bz mz dz)) = W57 at hE ⊢
              refine hK _ _ ?_
              clear hK K
              try simp only [Act.put, List.setIfInBounds_toArray, List.set_cons_zero, List.set_cons_succ, List.getElem_toArray, List.getElem_cons_succ, List.getElem_cons_zero]
              refine wpAnyIn_done (by kernel_rfl) ?_ _
              obtain ⟨j1, j2, j3, j4⟩ := (hE.here.1.1.1.1.1.1.1.2).c4
              obtain ⟨j5, j6, j7, j8⟩ := (hE.here.1.1.1.1.1.2).c4
              gi_wp2
              skip
              first | refine ⟨trivial, fun _ => by omega, (CallsIn.inRound l (callsIn_wide.2 (lplus_v (ca := cu2) (da := du2) (cb := cz) (db := dz) hE.here.1.1.1.1.1.1.1.1.2 hE.here.2 Hlu.out Hlr.out Hlv.out))).mono ?_⟩ | refine ⟨trivial, (CallsIn.inRound l (callsIn_wide.2 (lplus_v (ca := cu2) (da := du2) (cb := cz) (db := dz) hE.here.1.1.1.1.1.1.1.1.2 hE.here.2 Hlu.out Hlr.out Hlv.out))).mono ?_⟩ | refine ⟨trivial, trivial, (CallsIn.inRound l (callsIn_wide.2 (lplus_v (ca := cu2) (da := du2) (cb := cz) (db := dz) hE.here.1.1.1.1.1.1.1.1.2 hE.here.2 Hlu.out Hlr.out Hlv.out))).mono ?_⟩ | refine ⟨trivial, trivial, fun _ => by omega, (CallsIn.inRound l (callsIn_wide.2 (lplus_v (ca := cu2) (da := du2) (cb := cz) (db := dz) hE.here.1.1.1.1.1.1.1.1.2 hE.here.2 Hlu.out Hlr.out Hlv.out))).mono ?_⟩
              rintro e w58 ⟨sv, Av, nv, cv, tv, Bv, mv, dv, rfl, hv, hb⟩
              replace hE := hE.step hb
              clear hb
              replace hE := hE.fv hv
              clear hv
              clear j1 j2 j3 j4 j5 j6 j7 j8
              have hgl59 : w.heap.size ≤ g3 := by omega
              obtain ⟨x59_0, x59_1, x59_2, x59_3⟩ := (hE.here.1.1.1.1.1.1.1.1.2).c4
              have f59_0 := (hE.here.1.1.1.1.1.1.1.1.2).frozen 0
              have f59_1 := (hE.here.1.1.1.1.1.1.1.1.2).frozen 1
              have f59_2 := (hE.here.1.1.1.1.1.1.1.1.2).frozen 2
              have f59_3 := (hE.here.1.1.1.1.1.1.1.1.2).frozen 3
              replace hE := ((((((((((((Env.again (bel4 hE.bel hgl59 (.bool sv) (.slice Av nv cv) (.bool tv) (.slice Bv mv dv))).blkI ((hE.here.1.1.1.1.1.1.1.1.1.1.2).far4 (R := g3) (by omega) (.bool sv) (.slice Av nv cv) (.bool tv) (.slice Bv mv dv))).fv ((hE.here.1.1.1.1.1.1.1.1.1.2).sep4 hE.here.1.1.1.1.1.1.1.1.2 rfl (.bool sv) (.slice Av nv cv) (.bool tv) (.slice Bv mv dv) rfl rfl rfl)).blkI ((hE.here.1.1.1.1.1.1.1.1.2).s4 (.bool sv) (.slice Av nv cv) (.bool tv) (.slice Bv mv dv))).fv ((hE.here.1.1.1.1.1.1.1.2).sep4 hE.here.1.1.1.1.1.1.1.1.2 rfl (.bool sv) (.slice Av nv cv) (.bool tv) (.slice Bv mv dv) rfl rfl rfl)).blkI ((hE.here.1.1.1.1.1.1.2).far4 (R := g3) (by omega) (.bool sv) (.slice Av nv cv) (.bool tv) (.slice Bv mv dv))).fv ((hE.here.1.1.1.1.1.2).sep4 hE.here.1.1.1.1.1.1.1.1.2 rfl (.bool sv) (.slice Av nv cv) (.bool tv) (.slice Bv mv dv) rfl rfl rfl)).blkI ((hE.here.1.1.1.1.2).far4 (R := g3) (by omega) (.bool sv) (.slice Av nv cv) (.bool tv) (.slice Bv mv dv))).trail ((hE.here.1.1.1.2).set4 ⟨by omega, by omega, by omega⟩ (.bool sv) (.slice Av nv cv) (.bool tv) (.slice Bv mv dv))).fv ((hE.here.1.1.2).sep4 hE.here.1.1.1.1.1.1.1.1.2 rfl (.bool sv) (.slice Av nv cv) (.bool tv) (.slice Bv mv dv) rfl rfl rfl)).fv ((hE.here.1.2).sep4 hE.here.1.1.1.1.1.1.1.1.2 rfl (.bool sv) (.slice Av nv cv) (.bool tv) (.slice Bv mv dv) rfl rfl rfl)).fv ((hE.here.2).sep4 hE.here.1.1.1.1.1.1.1.1.2 rfl (.bool sv) (.slice Av nv cv) (.bool tv) (.slice Bv mv dv) rfl rfl rfl))
              gi_wp2
              clear x59_0 x59_1 x59_2 x59_3 f59_0 f59_1 f59_2 f59_3 hgl59
              generalize ((((w58.setCell ⟨g3, 0, none⟩ (.bool sv)).setCell ⟨g3, 1, none⟩ (.slice Av nv cv)).setCell ⟨g3, 2, none⟩ (.bool tv)).setCell ⟨g3, 3, none⟩ (.slice Bv mv dv)) = W59 at hE ⊢
              refine ⟨(hE.here.1.1.1.2).keeps, (hE.here.1.1.1.2).kp, ?_, (hE.here.1.1.1.2).hs⟩
              show BInv _ _ _ _ (smr f (pre ++ [Yr.mk pre.length xs xA xn xc xt xB xm xd]).length) (pr f (pre ++ [Yr.mk pre.length xs xA xn xc xt xB xm xd]).length) _
              rw [Hhlen2.out]
              exact ⟨_, _, _, _, _, _, _, _, _, _, _, _, _, _, _, _, (((((Env.again hE.bel).blkI (hE.here.1.1.1.1.1.1.1.1.1.1.2)).fv (hE.here.2)).blkI (hE.here.1.1.1.1.1.1.1.1.2)).fv (hE.here.1.2)).blkI (hE.here.1.1.1.1.1.1.2)⟩
            exact AllReadyIn.nil
          exact AllReadyIn.nil
        exact AllReadyIn.nil
      exact AllReadyIn.nil
    exact AllReadyIn.nil
  case done =>
    rintro D ys W hD hS ⟨⟨su2, Au2, nu2, cu2, tu2, Bu2, mu2, du2, sq, Aq, nq, cq, tq, Bq, mq, dq, hE⟩, hBs⟩ hK
    have hz : smr f ys.length = smr f K := by
      have := HhM.out; have := HhK.out
      rw [hS.length, smr_any HhfM.out (show M ≤ M + 1 by omega), smr_any HhfM.out (show M ≤ K by omega)]
    rw [hz] at hE
    have hE := hE.def_ hK
    clear hK hz
    obtain ⟨k1, k2, k3, k4⟩ := (hE.here.1.1.1.2).c4
    have hgl60 : w.heap.size ≤ w.heap.size + 1 + 1 := by omega
    obtain ⟨x60_0, x60_1, x60_2, x60_3⟩ := (hE.here.1.1.1.1.1.2).c4
    have f60_0 := (hE.here.1.1.1.1.1.2).frozen 0
    have f60_1 := (hE.here.1.1.1.1.1.2).frozen 1
    have f60_2 := (hE.here.1.1.1.1.1.2).frozen 2
    have f60_3 := (hE.here.1.1.1.1.1.2).frozen 3
    replace hE := (((((((Env.again (bel4 hE.bel hgl60 (.bool su2) (.slice Au2 nu2 cu2) (.bool tu2) (.slice Bu2 mu2 du2))).blkI ((hE.here.1.1.1.1.1.2).s4 (.bool su2) (.slice Au2 nu2 cu2) (.bool tu2) (.slice Bu2 mu2 du2))).fv ((hE.here.1.1.1.1.2).sep4 hE.here.1.1.1.1.1.2 rfl (.bool su2) (.slice Au2 nu2 cu2) (.bool tu2) (.slice Bu2 mu2 du2) rfl rfl rfl)).blkI ((hE.here.1.1.1.2).far4 (R := w.heap.size + 1 + 1) (by omega) (.bool su2) (.slice Au2 nu2 cu2) (.bool tu2) (.slice Bu2 mu2 du2))).fv ((hE.here.1.1.2).sep4 hE.here.1.1.1.1.1.2 rfl (.bool su2) (.slice Au2 nu2 cu2) (.bool tu2) (.slice Bu2 mu2 du2) rfl rfl rfl)).blkI ((hE.here.1.2).far4 (R := w.heap.size + 1 + 1) (by omega) (.bool su2) (.slice Au2 nu2 cu2) (.bool tu2) (.slice Bu2 mu2 du2))).def_ ((heap_set4 (by omega) (.bool su2) (.slice Au2 nu2 cu2) (.bool tu2) (.slice Bu2 mu2 du2)).trans (hE.here.2)))
    gi_wp2
    clear x60_0 x60_1 x60_2 x60_3 f60_0 f60_1 f60_2 f60_3 hgl60
    generalize ((((W.setCell ⟨w.heap.size + 1 + 1, 0, none⟩ (.bool su2)).setCell ⟨w.heap.size + 1 + 1, 1, none⟩ (.slice Au2 nu2 cu2)).setCell ⟨w.heap.size + 1 + 1, 2, none⟩ (.bool tu2)).setCell ⟨w.heap.size + 1 + 1, 3, none⟩ (.slice Bu2 mu2 du2)) = W60 at hE ⊢
    clear k1 k2 k3 k4
    obtain ⟨hB2, hV2, hb2⟩ := leave_frac (hE.here.1.1.1.1.1.2) (hE.here.1.1.1.1.2) hE.bel (show w.heap.size ≤ D by omega) (show D ≠ w.heap.size + 1 + 1 by omega) (hE.here.2) (.deferred none)
    refine ⟨by simp, .inl ⟨_, _, rfl, run_takeDeferred (hE.here.2), ?_⟩⟩
    obtain ⟨y0, y1, y2, y3⟩ := hB2.c4
    exact ⟨.tuple #[.agg #[.bool su2, .slice Au2 nu2 cu2, .bool tu2, .slice Bu2 mu2 du2], .int .i64 0], by simp [results, Tryz.results23, go_sem, y0, y1, y2, y3], su2, Au2, nu2, cu2, tu2, Bu2, mu2, du2, rfl, hV2, hb2⟩
  case stop =>
    rintro D c pre W _ _ h _
    exact h.elim
end Go.Proofs.YtgkepllfdhcdpaaGreat
namespace Go.Proofs.YtgkepllfdhcdpaaGreat
open Go.RowKit

theorem qOf_fv {w : World} {q : Rat} {s t : Bool} {A B : Option Addr} {n m : Nat} (h : FV w q s A n t B m) : qOf s n (dgt b16 q.num.natAbs) m (dgt b16 q.den) = q := by
  unfold qOf
  have e1 : vs b16 (dgt b16 q.num.natAbs) n = q.num.natAbs := by rw [h.1.len]; exact vs_dgt_ln b16_two _
  have e2 : vs b16 (dgt b16 q.den) m = q.den := by have := h.2.len; rw [Int.natAbs_natCast] at this; rw [this]; exact vs_dgt_ln b16_two _
  rw [e1, e2, h.1.sgn, toI_int]
  exact Rat.num_divInt_den q
/-- A fraction in memory, by its value. -/
def FHof (q : Rat) (s : Bool) (A : Option Addr) (n c : Nat) (t : Bool) (B : Option Addr) (m d : Nat) : FH := ⟨s, A, n, c, dgt b16 q.num.natAbs, t, B, m, d, dgt b16 q.den⟩
section
variable {w : World} {q : Rat} {s t : Bool} {A B : Option Addr} {n c m d : Nat}
theorem FHof.q_eq (h : FV w q s A n t B m) : (FHof q s A n c t B m d).q = q := qOf_fv h
theorem FHof.rd_of (h : FV w q s A n t B m) : (FHof q s A n c t B m d).rd w := h.rd
theorem FHof.rate (h : FV w q s A n t B m) (h0 : 0 ≤ q) (h1 : q ≤ 1) (hl : fl q ≤ 1) : (FHof q s A n c t B m d).isRate = true := by
  obtain ⟨l1, l2⟩ := h.ln hl
  have hs : s = false := by rw [h.1.sgn]; exact decide_eq_false (by have := Rat.num_nonneg.2 h0; omega)
  show (okF s n (dgt b16 q.num.natAbs) t m (dgt b16 q.den) && (!s && (decide (n ≤ 1) && (decide (m ≤ 1) && decide (cmpQ (qOf s n (dgt b16 q.num.natAbs) m (dgt b16 q.den)) 1 ≤ 0))))) = true
  rw [okF_of h (by omega), qOf_fv h, hs, decide_eq_true l1, decide_eq_true l2, decide_eq_true (cmpQ_le.2 h1)]
  rfl
end
/-- A row of two fractions, a table of three rows. -/
def rowOf (g : Nat) (a b : FH) : RH := ⟨some ⟨g, 0, none⟩, 2, 2, fun k => if k = 0 then a else b⟩
def tab3 (x y z : RH) : Nat → RH := fun i => if i = 0 then x else if i = 1 then y else z
theorem rowM_of {w : World} {g : Nat} {a b : FH} (hB : Blk 40 g #[.bool a.s, .slice a.A a.n a.c, .bool a.t, .slice a.B a.m a.d, .bool b.s, .slice b.A b.n b.c, .bool b.t, .slice b.B b.m b.d] w) (ha : a.rd w) (hb : b.rd w) : RowM w (rowOf g a b) := fun _ => by
  refine ⟨g, 0, rfl, hB.lt, fun k hk => ?_⟩
  have hk2 : k < 2 := hk
  obtain ⟨⟨c0, c1, c2, c3⟩, c4, c5, c6, c7⟩ := hB.c8
  rcases (show k = 0 ∨ k = 1 by omega) with rfl | rfl
  · exact ⟨⟨c0, c1, c2, c3⟩, ha⟩
  · exact ⟨⟨c4, c5, c6, c7⟩, hb⟩
theorem tabM_of {w : World} {g : Nat} {T : TypeId} {x y z : RH} (hB : Blk T g #[.slice x.A x.n x.c, .slice y.A y.n y.c, .slice z.A z.n z.c] w) (hx : RowM w x) (hy : RowM w y) (hz : RowM w z) : TabM w (some ⟨g, 0, none⟩) 3 (tab3 x y z) := fun _ => by
  refine ⟨g, 0, rfl, hB.lt, fun i hi => ?_⟩
  obtain ⟨c0, c1, c2⟩ := hB.c3
  rcases (show i = 0 ∨ i = 1 ∨ i = 2 by omega) with rfl | rfl | rfl
  · exact ⟨c0, hx⟩
  · exact ⟨c1, hy⟩
  · exact ⟨c2, hz⟩
/-- What small returns: the table of the examples. -/
def SmallP (w : World) (e : Ending) (w' : World) : Prop := ∃ A c r, e = .returned (.agg #[.int .i64 60, .int .i64 1, .slice A 3 c]) ∧ TabM w' A 3 r ∧ TOK 60 1 3 r ∧
  (((r 0).h 0).q = Rat.divInt 1 10 ∧ ((r 0).h 1).q = Rat.divInt 1 5 ∧ ((r 1).h 0).q = Rat.divInt 1 8 ∧ ((r 1).h 1).q = Rat.divInt 1 2 ∧ ((r 2).h 0).q = Rat.divInt 1 4 ∧ ((r 2).h 1).q = Rat.divInt 1 1) ∧ Below w.heap.size w w'
theorem Blk.s3 {w : World} {t : TypeId} {g : Nat} {a b c : Value} (h : Blk t g #[a, b, c] w) (a' b' c' : Value) : Blk t g #[a', b', c'] (((w.setCell ⟨g, 0, none⟩ a').setCell ⟨g, 1, none⟩ b').setCell ⟨g, 2, none⟩ c') := by
  have := ((h.set_ 0 a').set_ 1 b').set_ 2 c'
  simpa using this
theorem Blk.far3 {w : World} {t : TypeId} {g R : Nat} {cs : Array Value} (h : Blk t g cs w) (hp : g ≠ R) (a b c : Value) : Blk t g cs (((w.setCell ⟨R, 0, none⟩ a).setCell ⟨R, 1, none⟩ b).setCell ⟨R, 2, none⟩ c) := (h.far2 hp a b).far (p := ⟨R, 2, none⟩) hp c
theorem FV.sep3 {w : World} {q : Rat} {s t : Bool} {A B : Option Addr} {n m g : Nat} {T : TypeId} {x y z : Value} (h : FV w q s A n t B m) (hW : Blk T g #[x, y, z] w) (hn : [x, y, z].all noLimb = true) (a b c : Value) (ha : noLimb a = true) (hb : noLimb b = true) :
    FV (((w.setCell ⟨g, 0, none⟩ a).setCell ⟨g, 1, none⟩ b).setCell ⟨g, 2, none⟩ c) q s A n t B m := by
  simp only [List.all_cons, List.all_nil, Bool.and_true, Bool.and_eq_true] at hn
  refine ((h.sep hW ?_ a).sep (hW.set_ 0 a) ?_ b).sep ((hW.set_ 0 a).set_ 1 b) ?_ c
  · show (noLimb x && (noLimb y && (noLimb z && true))) = true
    rw [hn.1, hn.2.1, hn.2.2]; rfl
  · show (noLimb a && (noLimb y && (noLimb z && true))) = true
    rw [ha, hn.2.1, hn.2.2]; rfl
  · show (noLimb a && (noLimb b && (noLimb z && true))) = true
    rw [ha, hb, hn.2.2]; rfl
theorem bel3 {w W : World} {g : Nat} (h : Below w.heap.size w W) (hg : w.heap.size ≤ g) (a b c : Value) : Below w.heap.size w (((W.setCell ⟨g, 0, none⟩ a).setCell ⟨g, 1, none⟩ b).setCell ⟨g, 2, none⟩ c) := (bel2 h hg a b).setCell (p := ⟨g, 2, none⟩) hg _
theorem rate_small {n d : Int} (h : (0 ≤ Rat.divInt n d ∧ Rat.divInt n d ≤ 1) ∧ (Rat.divInt n d).num.natAbs < b16 ^ 1 ∧ (Rat.divInt n d).den < b16 ^ 1) : 0 ≤ Rat.divInt n d ∧ Rat.divInt n d ≤ 1 ∧ fl (Rat.divInt n d) ≤ 1 :=
  ⟨h.1.1, h.1.2, fl_le.2 ⟨(ln_le b16_two).2 h.2.1, (ln_le b16_two).2 h.2.2⟩⟩
theorem rowOK_of {g : Nat} {a b : FH} (ha : a.isRate = true) (hb : b.isRate = true) : RowOK 1 (rowOf g a b) := ⟨rfl, fun k hk => by
  have hk2 : k < 2 := hk
  rcases (show k = 0 ∨ k = 1 by omega) with rfl | rfl
  · exact ha
  · exact hb⟩

set_option linter.unusedSimpArgs false in
set_option maxRecDepth 100000 in
set_option maxHeartbeats 4000000 in
theorem small_v (w : World) : Calls Tryz.prog 29 #[] w (SmallP w) := by
  have hE := (Env.start w).blk 24 #[.int .i64 0, .int .i64 0, .slice none 0 0] (g := w.heap.size) rfl
  obtain ⟨W0, hW0⟩ : ∃ W0, W0 = w.alloc (.cells #[.int .i64 0, .int .i64 0, .slice none 0 0] 24) := ⟨_, rfl⟩
  rw [← hW0] at hE
  have HW0 := Lib.hid hW0
  clear hW0
  go_enter Tryz.func29, Tryz.ntmps29
  go_upto_region 1 with (fail)
  rw [← HW0.out]
  go_wp2_with fail
  have hc := law_quick 1 10 W0 (by decide) (by decide) (by decide) (by decide) (by decide)
  refine hc.mono ?_
  clear hc
  rintro e w1 ⟨sa, Aa, na, ca, ta, Ba, ma, da, rfl, ha, hb⟩
  replace hE := hE.step hb
  clear hb
  replace hE := hE.fv ha
  clear ha
  go_wp2_with fail
  have hc := law_quick 1 5 w1 (by decide) (by decide) (by decide) (by decide) (by decide)
  refine hc.mono ?_
  clear hc
  rintro e w2 ⟨sb, Ab, nb, cb, tb, Bb, mb, db, rfl, hb, hb⟩
  replace hE := hE.step hb
  clear hb
  replace hE := hE.fv hb
  clear hb
  go_wp2_with fail
  obtain ⟨g3, hg3⟩ : ∃ g3, g3 = w2.heap.size := ⟨_, rfl⟩
  have hl3_0 : w.heap.size < g3 := by rw [hg3]; exact (hE.here.1.1.2).lt
  replace hE := hE.blk 40 #[.bool sa, .slice Aa na ca, .bool ta, .slice Ba ma da, .bool sb, .slice Ab nb cb, .bool tb, .slice Bb mb db] (g := g3) hg3.symm
  generalize w2.alloc (.cells #[.bool sa, .slice Aa na ca, .bool ta, .slice Ba ma da, .bool sb, .slice Ab nb cb, .bool tb, .slice Bb mb db] 40) = W3 at hE ⊢
  rw [← hg3]
  clear hg3
  have hc := law_quick 1 8 W3 (by decide) (by decide) (by decide) (by decide) (by decide)
  refine hc.mono ?_
  clear hc
  rintro e w4 ⟨sc, Ac, nc, cc, tc, Bc, mc, dc, rfl, hc, hb⟩
  replace hE := hE.step hb
  clear hb
  replace hE := hE.fv hc
  clear hc
  go_wp2_with fail
  have hc := law_quick 1 2 w4 (by decide) (by decide) (by decide) (by decide) (by decide)
  refine hc.mono ?_
  clear hc
  rintro e w5 ⟨sd, Ad, nd, cd, td, Bd, md, dd, rfl, hd, hb⟩
  replace hE := hE.step hb
  clear hb
  replace hE := hE.fv hd
  clear hd
  go_wp2_with fail
  obtain ⟨g6, hg6⟩ : ∃ g6, g6 = w5.heap.size := ⟨_, rfl⟩
  have hl6_0 : w.heap.size < g6 := by rw [hg6]; exact (hE.here.1.1.1.1.1.2).lt
  have hl6_3 : g3 < g6 := by rw [hg6]; exact (hE.here.1.1.2).lt
  replace hE := hE.blk 40 #[.bool sc, .slice Ac nc cc, .bool tc, .slice Bc mc dc, .bool sd, .slice Ad nd cd, .bool td, .slice Bd md dd] (g := g6) hg6.symm
  generalize w5.alloc (.cells #[.bool sc, .slice Ac nc cc, .bool tc, .slice Bc mc dc, .bool sd, .slice Ad nd cd, .bool td, .slice Bd md dd] 40) = W6 at hE ⊢
  rw [← hg6]
  clear hg6
  have hc := law_quick 1 4 W6 (by decide) (by decide) (by decide) (by decide) (by decide)
  refine hc.mono ?_
  clear hc
  rintro e w7 ⟨se, Ae, ne, ce, te, Be, me, de, rfl, he, hb⟩
  replace hE := hE.step hb
  clear hb
  replace hE := hE.fv he
  clear he
  go_wp2_with fail
  have hc := law_quick 1 1 w7 (by decide) (by decide) (by decide) (by decide) (by decide)
  refine hc.mono ?_
  clear hc
  rintro e w8 ⟨sf, Af, nf, cf, tf, Bf, mf, df, rfl, hf, hb⟩
  replace hE := hE.step hb
  clear hb
  replace hE := hE.fv hf
  clear hf
  have k0 := (hE.here.1.1.1.1.1.1.1.1.2).c3.1
  have k1 := (hE.here.1.1.1.1.1.1.1.1.2).c3.2.1
  have k2 := (hE.here.1.1.1.1.1.1.1.1.2).c3.2.2
  have z0 := (hE.here.1.1.1.1.1.1.1.1.2).frozen 0
  have z1 := (hE.here.1.1.1.1.1.1.1.1.2).frozen 1
  have z2 := (hE.here.1.1.1.1.1.1.1.1.2).frozen 2
  obtain ⟨ga, hga⟩ : ∃ g, g = w8.heap.size := ⟨_, rfl⟩
  have hl0 : w.heap.size < ga := by rw [hga]; exact (hE.here.1.1.1.1.1.1.1.1.2).lt
  have hl3 : g3 < ga := by rw [hga]; exact (hE.here.1.1.1.1.1.2).lt
  have hl6 : g6 < ga := by rw [hga]; exact (hE.here.1.1.2).lt
  have hE := (hE.blk 40 #[.bool se, .slice Ae ne ce, .bool te, .slice Be me de, .bool sf, .slice Af nf cf, .bool tf, .slice Bf mf df] (g := ga) hga.symm).blk 47 #[.slice (some ⟨g3, 0, none⟩) 2 2, .slice (some ⟨g6, 0, none⟩) 2 2, .slice (some ⟨ga, 0, none⟩) 2 2] (g := ga + 1) (by simp [hga])
  obtain ⟨Wz, hWz⟩ : ∃ Wz, Wz = (w8.alloc (.cells #[.bool se, .slice Ae ne ce, .bool te, .slice Be me de, .bool sf, .slice Af nf cf, .bool tf, .slice Bf mf df] 40)).alloc (.cells #[.slice (some ⟨g3, 0, none⟩) 2 2, .slice (some ⟨g6, 0, none⟩) 2 2, .slice (some ⟨ga, 0, none⟩) 2 2] 47) := ⟨_, rfl⟩
  rw [← hWz] at hE
  have HWz := Lib.hid hWz
  clear hWz
  have Hga := Lib.hid hga
  clear hga
  obtain ⟨x0, x1, x2⟩ := (hE.here.1.1.1.1.1.1.1.1.1.1.2).c3
  clear k0 k1 k2 z0 z1 z2
  have z0 := (hE.here.1.1.1.1.1.1.1.1.1.1.2).frozen 0
  have z1 := (hE.here.1.1.1.1.1.1.1.1.1.1.2).frozen 1
  have z2 := (hE.here.1.1.1.1.1.1.1.1.1.1.2).frozen 2
  rw [HWz.out] at x0 x1 x2 z0 z1 z2
  rw [Hga.out] at x0 x1 x2 z0 z1 z2 HWz
  go_wp2_with fail
  rw [← Hga.out] at x0 x1 x2 z0 z1 z2 HWz ⊢
  rw [← HWz.out]
  clear x0 x1 x2 z0 z1 z2
  obtain ⟨y0, y1, y2⟩ := ((hE.here.1.1.1.1.1.1.1.1.1.1.2).s3 (.int .i64 60) (.int .i64 1) (.slice (some ⟨ga + 1, 0, none⟩) 3 3)).c3
  refine bodyPost_ret (v := .agg #[.int .i64 60, .int .i64 1, .slice (some ⟨ga + 1, 0, none⟩) 3 3]) (by simp [results, Tryz.results29, go_sem, y0, y1, y2]) rfl ?_
  refine ⟨some ⟨ga + 1, 0, none⟩, 3, tab3 (rowOf g3 (FHof (Rat.divInt 1 10) sa Aa na ca ta Ba ma da) (FHof (Rat.divInt 1 5) sb Ab nb cb tb Bb mb db)) (rowOf g6 (FHof (Rat.divInt 1 8) sc Ac nc cc tc Bc mc dc) (FHof (Rat.divInt 1 2) sd Ad nd cd td Bd md dd)) (rowOf ga (FHof (Rat.divInt 1 4) se Ae ne ce te Be me de) (FHof (Rat.divInt 1 1) sf Af nf cf tf Bf mf df)), rfl, tabM_of (T := 47) ((hE.here.2).far3 (by omega) (.int .i64 60) (.int .i64 1) (.slice (some ⟨ga + 1, 0, none⟩) 3 3)) (rowM_of ((hE.here.1.1.1.1.1.1.1.2).far3 (by omega) (.int .i64 60) (.int .i64 1) (.slice (some ⟨ga + 1, 0, none⟩) 3 3)) (FHof.rd_of ((hE.here.1.1.1.1.1.1.1.1.1.2).sep3 (hE.here.1.1.1.1.1.1.1.1.1.1.2) rfl (.int .i64 60) (.int .i64 1) (.slice (some ⟨ga + 1, 0, none⟩) 3 3) rfl rfl)) (FHof.rd_of ((hE.here.1.1.1.1.1.1.1.1.2).sep3 (hE.here.1.1.1.1.1.1.1.1.1.1.2) rfl (.int .i64 60) (.int .i64 1) (.slice (some ⟨ga + 1, 0, none⟩) 3 3) rfl rfl))) (rowM_of ((hE.here.1.1.1.1.2).far3 (by omega) (.int .i64 60) (.int .i64 1) (.slice (some ⟨ga + 1, 0, none⟩) 3 3)) (FHof.rd_of ((hE.here.1.1.1.1.1.1.2).sep3 (hE.here.1.1.1.1.1.1.1.1.1.1.2) rfl (.int .i64 60) (.int .i64 1) (.slice (some ⟨ga + 1, 0, none⟩) 3 3) rfl rfl)) (FHof.rd_of ((hE.here.1.1.1.1.1.2).sep3 (hE.here.1.1.1.1.1.1.1.1.1.1.2) rfl (.int .i64 60) (.int .i64 1) (.slice (some ⟨ga + 1, 0, none⟩) 3 3) rfl rfl))) (rowM_of ((hE.here.1.2).far3 (by omega) (.int .i64 60) (.int .i64 1) (.slice (some ⟨ga + 1, 0, none⟩) 3 3)) (FHof.rd_of ((hE.here.1.1.1.2).sep3 (hE.here.1.1.1.1.1.1.1.1.1.1.2) rfl (.int .i64 60) (.int .i64 1) (.slice (some ⟨ga + 1, 0, none⟩) 3 3) rfl rfl)) (FHof.rd_of ((hE.here.1.1.2).sep3 (hE.here.1.1.1.1.1.1.1.1.1.1.2) rfl (.int .i64 60) (.int .i64 1) (.slice (some ⟨ga + 1, 0, none⟩) 3 3) rfl rfl))), ?_, ?_, bel3 hE.bel (Nat.le_refl _) _ _ _⟩
  · refine ⟨⟨⟨by decide, by decide⟩, by decide, by decide⟩, ⟨by decide, by decide⟩, fun i hi => ?_, ?_⟩
    · rcases (show i = 0 ∨ i = 1 ∨ i = 2 by omega) with rfl | rfl | rfl
      · exact rowOK_of (FHof.rate hE.here.1.1.1.1.1.1.1.1.1.2 (rate_small (by decide +kernel)).1 (rate_small (by decide +kernel)).2.1 (rate_small (by decide +kernel)).2.2) (FHof.rate hE.here.1.1.1.1.1.1.1.1.2 (rate_small (by decide +kernel)).1 (rate_small (by decide +kernel)).2.1 (rate_small (by decide +kernel)).2.2)
      · exact rowOK_of (FHof.rate hE.here.1.1.1.1.1.1.2 (rate_small (by decide +kernel)).1 (rate_small (by decide +kernel)).2.1 (rate_small (by decide +kernel)).2.2) (FHof.rate hE.here.1.1.1.1.1.2 (rate_small (by decide +kernel)).1 (rate_small (by decide +kernel)).2.1 (rate_small (by decide +kernel)).2.2)
      · exact rowOK_of (FHof.rate hE.here.1.1.1.2 (rate_small (by decide +kernel)).1 (rate_small (by decide +kernel)).2.1 (rate_small (by decide +kernel)).2.2) (FHof.rate hE.here.1.1.2 (rate_small (by decide +kernel)).1 (rate_small (by decide +kernel)).2.1 (rate_small (by decide +kernel)).2.2)
    · exact (FHof.q_eq hE.here.1.1.2).trans (by decide +kernel)
  · exact ⟨FHof.q_eq hE.here.1.1.1.1.1.1.1.1.1.2, FHof.q_eq hE.here.1.1.1.1.1.1.1.1.2, FHof.q_eq hE.here.1.1.1.1.1.1.2, FHof.q_eq hE.here.1.1.1.1.1.2, FHof.q_eq hE.here.1.1.1.2, FHof.q_eq hE.here.1.1.2⟩
end Go.Proofs.YtgkepllfdhcdpaaGreat
namespace Go.Proofs.YtgkepllfdhcdpaaGreat
open Go.RowKit

theorem TOK.small {F S : Int} {n : Nat} {r : Nat → RH} (h : TOK F S n r) (hn : n ≤ 3) (hS : S = 1) : TabB n r :=
  ⟨by omega, fun i hi => by
    obtain ⟨h1, h2⟩ := h.2.2.1 i hi
    refine ⟨by subst hS; rw [h1]; decide, fun k hk => ?_⟩
    have h3 := h2 k hk
    unfold FH.isRate rateB at h3
    simp only [Bool.and_eq_true, decide_eq_true_eq] at h3
    omega⟩
section
variable {r : Nat → RH} (h : ((r 0).h 0).q = Rat.divInt 1 10 ∧ ((r 0).h 1).q = Rat.divInt 1 5 ∧ ((r 1).h 0).q = Rat.divInt 1 8 ∧ ((r 1).h 1).q = Rat.divInt 1 2 ∧ ((r 2).h 0).q = Rat.divInt 1 4 ∧ ((r 2).h 1).q = Rat.divInt 1 1)
include h
theorem ex_rate : fr 60 1 3 r 60 1 0 = Rat.divInt 1 2 := by
  show rt 60 1 3 r 60 1 0 = _
  unfold rt
  rw [if_neg (by decide), if_neg (by decide)]
  exact h.2.2.2.1
theorem ex_a0 : fr 60 1 3 r 60 0 0 = Rat.divInt 1 10 := by
  show rt 60 1 3 r 60 0 0 = _
  unfold rt
  rw [if_neg (by decide), if_pos (by decide)]
  exact h.1
theorem ex_a1 : fr 60 1 3 r 60 0 1 = Rat.divInt 1 2 := by
  show rt 60 1 3 r 60 0 1 = _
  unfold rt
  rw [if_neg (by decide), if_neg (by decide)]
  exact h.2.2.2.1
theorem ex_a2 : fr 60 1 3 r 60 0 2 = Rat.divInt 1 1 := by
  show rt 60 1 3 r 60 0 2 = _
  unfold rt
  rw [if_neg (by decide), if_neg (by decide)]
  exact h.2.2.2.2.2
theorem ex_b0 : fr 60 1 3 r 62 0 0 = Rat.divInt 1 4 := by
  show rt 60 1 3 r 62 0 0 = _
  unfold rt
  rw [if_neg (by decide), if_pos (by decide)]
  exact h.2.2.2.2.1
theorem ex_2 : pr (fr 60 1 3 r 60 0) 2 = Rat.divInt 9 20 := by
  simp only [pr]
  rw [ex_a0 h, ex_a1 h]
  decide +kernel
theorem ex_3 : pr (fr 60 1 3 r 60 0) 3 = Rat.divInt 0 1 := by
  simp only [pr]
  rw [ex_a0 h, ex_a1 h, ex_a2 h]
  decide +kernel
theorem ex_1 : pr (fr 60 1 3 r 60 0) 1 * fr 60 1 3 r 60 0 1 = Rat.divInt 9 20 := by
  simp only [pr]
  rw [ex_a0 h, ex_a1 h]
  decide +kernel
theorem ex_e : smr (fr 60 1 3 r 60 0) 111 = Rat.divInt 27 20 := by
  rw [smr_any (M := 2) (by rw [ex_a2 h]; decide +kernel) (by decide)]
  simp only [smr, pr]
  rw [ex_a0 h, ex_a1 h]
  decide +kernel
theorem ex_x1 : pr (fr 60 1 3 r 60 0) 1 = Rat.divInt 9 10 := by
  simp only [pr]
  rw [ex_a0 h]
  decide +kernel
theorem ex_y1 : pr (fr 60 1 3 r 62 0) 1 = Rat.divInt 3 4 := by
  simp only [pr]
  rw [ex_b0 h]
  decide +kernel
end

set_option linter.unusedSimpArgs false in
set_option maxRecDepth 100000 in
set_option maxHeartbeats 8000000 in
theorem awake_t (w : World) : Calls Tryz.prog 13 #[] w fun e w' => e = .returned (.bool true) ∧ Below w.heap.size w w' := by
  have hE := Env.start w
  go_enter Tryz.func13, Tryz.ntmps13
  go_wp2_with fail
  refine (small_v _).mono ?_
  rintro e w1 ⟨A, c, r, rfl, hT, hok, hq, hb⟩
  replace hE := (hE.step hb).tab hT
  clear hb hT
  have HB := Lib.hid (hok.small (by decide) rfl)
  have HR1 : Hid (RightP 60 1 3 r 60 1) := Lib.hid ⟨hok, by decide, by decide, by decide, by decide⟩
  have HR0 : Hid (RightP 60 1 3 r 60 0) := Lib.hid ⟨hok, by decide, by decide, by decide, by decide⟩
  have HR2 : Hid (RightP 60 1 3 r 62 0) := Lib.hid ⟨hok, by decide, by decide, by decide, by decide⟩
  have HQ := Lib.hid hq
  clear hok hq
  go_upto_region 2 with (fail)
  replace hE := ((hE.blk 24 #[.int .i64 60, .int .i64 1, .slice A 3 c] (g := w1.heap.size) rfl).blk 26 #[.int .i64 60, .int .i64 0] (g := w1.heap.size + 1) (by simp)).blk 26 #[.int .i64 62, .int .i64 0] (g := w1.heap.size + 1 + 1) (by simp)
  generalize ((w1.alloc (.cells #[.int .i64 60, .int .i64 1, .slice A 3 c] 24)).alloc (.cells #[.int .i64 60, .int .i64 0] 26)).alloc (.cells #[.int .i64 62, .int .i64 0] 26) = W1 at hE ⊢
  obtain ⟨k1, k2, k3⟩ := (hE.here.1.1.2).c3
  go_wp2_with fail
  have hc := lRate_v (c := c) hE.here.1.1.1.2 HB.out HR1.out
  rw [show (fr 60 1 3 r 60 1 0) = Rat.divInt 1 2 from ex_rate HQ.out] at hc
  refine hc.mono ?_
  clear hc
  clear k1 k2 k3
  rintro e w10 ⟨s_0, A_0, n_0, c_0, ti_0, B_0, m_0, d_0, rfl, hr, hb⟩
  replace hE := hE.step hb
  clear hb
  replace hE := hE.fv hr
  clear hr
  go_upto_region 3 with (fail)
  obtain ⟨g4, hg4⟩ : ∃ g4, g4 = w10.heap.size := ⟨_, rfl⟩
  have hl4_1 : w1.heap.size < g4 := by rw [hg4]; exact (hE.here.1.1.1.2).lt
  have hl4_2 : w1.heap.size + 1 < g4 := by rw [hg4]; exact (hE.here.1.1.2).lt
  have hl4_3 : w1.heap.size + 1 + 1 < g4 := by rw [hg4]; exact (hE.here.1.2).lt
  replace hE := hE.blk 40 #[.bool s_0, .slice A_0 n_0 c_0, .bool ti_0, .slice B_0 m_0 d_0] (g := g4) hg4.symm
  generalize w10.alloc (.cells #[.bool s_0, .slice A_0 n_0 c_0, .bool ti_0, .slice B_0 m_0 d_0] 40) = W4 at hE ⊢
  rw [← hg4]
  clear hg4
  obtain ⟨k5, k6, k7⟩ := (hE.here.1.1.1.1.2).c3
  obtain ⟨k8, k9⟩ := (hE.here.1.1.1.2).c2
  go_wp2_with fail
  have hc := lAlive_v (c := c) hE.here.1.1.1.1.1.2 HB.out HR0.out 2 (by decide)
  rw [show (pr (fr 60 1 3 r 60 0) 2) = Rat.divInt 9 20 from ex_2 HQ.out] at hc
  refine hc.mono ?_
  clear hc
  clear k5 k6 k7 k8 k9
  rintro e w11 ⟨s_1, A_1, n_1, c_1, ti_1, B_1, m_1, d_1, rfl, hr, hb⟩
  replace hE := hE.step hb
  clear hb
  replace hE := hE.fv hr
  clear hr
  go_upto_region 4 with (fail)
  obtain ⟨g10, hg10⟩ : ∃ g10, g10 = w11.heap.size := ⟨_, rfl⟩
  have hl10_1 : w1.heap.size < g10 := by rw [hg10]; exact (hE.here.1.1.1.1.1.2).lt
  have hl10_2 : w1.heap.size + 1 < g10 := by rw [hg10]; exact (hE.here.1.1.1.1.2).lt
  have hl10_3 : w1.heap.size + 1 + 1 < g10 := by rw [hg10]; exact (hE.here.1.1.1.2).lt
  have hl10_5 : g4 < g10 := by rw [hg10]; exact (hE.here.1.2).lt
  replace hE := hE.blk 40 #[.bool s_1, .slice A_1 n_1 c_1, .bool ti_1, .slice B_1 m_1 d_1] (g := g10) hg10.symm
  generalize w11.alloc (.cells #[.bool s_1, .slice A_1 n_1 c_1, .bool ti_1, .slice B_1 m_1 d_1] 40) = W10 at hE ⊢
  rw [← hg10]
  clear hg10
  obtain ⟨k11, k12, k13⟩ := (hE.here.1.1.1.1.1.1.2).c3
  obtain ⟨k14, k15⟩ := (hE.here.1.1.1.1.1.2).c2
  go_wp2_with fail
  have hc := lAlive_v (c := c) hE.here.1.1.1.1.1.1.1.2 HB.out HR0.out 3 (by decide)
  rw [show (pr (fr 60 1 3 r 60 0) 3) = Rat.divInt 0 1 from ex_3 HQ.out] at hc
  refine hc.mono ?_
  clear hc
  clear k11 k12 k13 k14 k15
  rintro e w12 ⟨s_2, A_2, n_2, c_2, ti_2, B_2, m_2, d_2, rfl, hr, hb⟩
  replace hE := hE.step hb
  clear hb
  replace hE := hE.fv hr
  clear hr
  go_upto_region 5 with (fail)
  obtain ⟨g16, hg16⟩ : ∃ g16, g16 = w12.heap.size := ⟨_, rfl⟩
  have hl16_1 : w1.heap.size < g16 := by rw [hg16]; exact (hE.here.1.1.1.1.1.1.1.2).lt
  have hl16_2 : w1.heap.size + 1 < g16 := by rw [hg16]; exact (hE.here.1.1.1.1.1.1.2).lt
  have hl16_3 : w1.heap.size + 1 + 1 < g16 := by rw [hg16]; exact (hE.here.1.1.1.1.1.2).lt
  have hl16_5 : g4 < g16 := by rw [hg16]; exact (hE.here.1.1.1.2).lt
  have hl16_7 : g10 < g16 := by rw [hg16]; exact (hE.here.1.2).lt
  replace hE := hE.blk 40 #[.bool s_2, .slice A_2 n_2 c_2, .bool ti_2, .slice B_2 m_2 d_2] (g := g16) hg16.symm
  generalize w12.alloc (.cells #[.bool s_2, .slice A_2 n_2 c_2, .bool ti_2, .slice B_2 m_2 d_2] 40) = W16 at hE ⊢
  rw [← hg16]
  clear hg16
  obtain ⟨k17, k18, k19⟩ := (hE.here.1.1.1.1.1.1.1.1.2).c3
  obtain ⟨k20, k21⟩ := (hE.here.1.1.1.1.1.1.1.2).c2
  go_wp2_with fail
  have hc := lDies_v (c := c) hE.here.1.1.1.1.1.1.1.1.1.2 HB.out HR0.out 1 (by decide)
  rw [show (pr (fr 60 1 3 r 60 0) 1 * fr 60 1 3 r 60 0 1) = Rat.divInt 9 20 from ex_1 HQ.out] at hc
  refine hc.mono ?_
  clear hc
  clear k17 k18 k19 k20 k21
  rintro e w13 ⟨s_3, A_3, n_3, c_3, ti_3, B_3, m_3, d_3, rfl, hr, hb⟩
  replace hE := hE.step hb
  clear hb
  replace hE := hE.fv hr
  clear hr
  go_upto_region 6 with (fail)
  obtain ⟨g22, hg22⟩ : ∃ g22, g22 = w13.heap.size := ⟨_, rfl⟩
  have hl22_1 : w1.heap.size < g22 := by rw [hg22]; exact (hE.here.1.1.1.1.1.1.1.1.1.2).lt
  have hl22_2 : w1.heap.size + 1 < g22 := by rw [hg22]; exact (hE.here.1.1.1.1.1.1.1.1.2).lt
  have hl22_3 : w1.heap.size + 1 + 1 < g22 := by rw [hg22]; exact (hE.here.1.1.1.1.1.1.1.2).lt
  have hl22_5 : g4 < g22 := by rw [hg22]; exact (hE.here.1.1.1.1.1.2).lt
  have hl22_7 : g10 < g22 := by rw [hg22]; exact (hE.here.1.1.1.2).lt
  have hl22_9 : g16 < g22 := by rw [hg22]; exact (hE.here.1.2).lt
  replace hE := hE.blk 40 #[.bool s_3, .slice A_3 n_3 c_3, .bool ti_3, .slice B_3 m_3 d_3] (g := g22) hg22.symm
  generalize w13.alloc (.cells #[.bool s_3, .slice A_3 n_3 c_3, .bool ti_3, .slice B_3 m_3 d_3] 40) = W22 at hE ⊢
  rw [← hg22]
  clear hg22
  obtain ⟨k23, k24, k25⟩ := (hE.here.1.1.1.1.1.1.1.1.1.1.2).c3
  obtain ⟨k26, k27⟩ := (hE.here.1.1.1.1.1.1.1.1.1.2).c2
  go_wp2_with fail
  have hc := lExpect_v (c := c) hE.here.1.1.1.1.1.1.1.1.1.1.1.2 HB.out HR0.out 111 (by decide)
  rw [show (smr (fr 60 1 3 r 60 0) 111) = Rat.divInt 27 20 from ex_e HQ.out] at hc
  refine hc.mono ?_
  clear hc
  clear k23 k24 k25 k26 k27
  rintro e w14 ⟨s_4, A_4, n_4, c_4, ti_4, B_4, m_4, d_4, rfl, hr, hb⟩
  replace hE := hE.step hb
  clear hb
  replace hE := hE.fv hr
  clear hr
  go_upto_region 7 with (fail)
  obtain ⟨g28, hg28⟩ : ∃ g28, g28 = w14.heap.size := ⟨_, rfl⟩
  have hl28_1 : w1.heap.size < g28 := by rw [hg28]; exact (hE.here.1.1.1.1.1.1.1.1.1.1.1.2).lt
  have hl28_2 : w1.heap.size + 1 < g28 := by rw [hg28]; exact (hE.here.1.1.1.1.1.1.1.1.1.1.2).lt
  have hl28_3 : w1.heap.size + 1 + 1 < g28 := by rw [hg28]; exact (hE.here.1.1.1.1.1.1.1.1.1.2).lt
  have hl28_5 : g4 < g28 := by rw [hg28]; exact (hE.here.1.1.1.1.1.1.1.2).lt
  have hl28_7 : g10 < g28 := by rw [hg28]; exact (hE.here.1.1.1.1.1.2).lt
  have hl28_9 : g16 < g28 := by rw [hg28]; exact (hE.here.1.1.1.2).lt
  have hl28_11 : g22 < g28 := by rw [hg28]; exact (hE.here.1.2).lt
  replace hE := hE.blk 40 #[.bool s_4, .slice A_4 n_4 c_4, .bool ti_4, .slice B_4 m_4 d_4] (g := g28) hg28.symm
  generalize w14.alloc (.cells #[.bool s_4, .slice A_4 n_4 c_4, .bool ti_4, .slice B_4 m_4 d_4] 40) = W28 at hE ⊢
  rw [← hg28]
  clear hg28
  obtain ⟨k29, k30, k31⟩ := (hE.here.1.1.1.1.1.1.1.1.1.1.1.1.2).c3
  obtain ⟨k32, k33⟩ := (hE.here.1.1.1.1.1.1.1.1.1.1.2).c2
  go_wp2_with fail
  have hc := lRate_v (c := c) hE.here.1.1.1.1.1.1.1.1.1.1.1.1.1.2 HB.out HR2.out
  rw [show (fr 60 1 3 r 62 0 0) = Rat.divInt 1 4 from ex_b0 HQ.out] at hc
  refine hc.mono ?_
  clear hc
  clear k29 k30 k31 k32 k33
  rintro e w15 ⟨s_5, A_5, n_5, c_5, ti_5, B_5, m_5, d_5, rfl, hr, hb⟩
  replace hE := hE.step hb
  clear hb
  replace hE := hE.fv hr
  clear hr
  go_upto_region 8 with (fail)
  obtain ⟨g34, hg34⟩ : ∃ g34, g34 = w15.heap.size := ⟨_, rfl⟩
  have hl34_1 : w1.heap.size < g34 := by rw [hg34]; exact (hE.here.1.1.1.1.1.1.1.1.1.1.1.1.1.2).lt
  have hl34_2 : w1.heap.size + 1 < g34 := by rw [hg34]; exact (hE.here.1.1.1.1.1.1.1.1.1.1.1.1.2).lt
  have hl34_3 : w1.heap.size + 1 + 1 < g34 := by rw [hg34]; exact (hE.here.1.1.1.1.1.1.1.1.1.1.1.2).lt
  have hl34_5 : g4 < g34 := by rw [hg34]; exact (hE.here.1.1.1.1.1.1.1.1.1.2).lt
  have hl34_7 : g10 < g34 := by rw [hg34]; exact (hE.here.1.1.1.1.1.1.1.2).lt
  have hl34_9 : g16 < g34 := by rw [hg34]; exact (hE.here.1.1.1.1.1.2).lt
  have hl34_11 : g22 < g34 := by rw [hg34]; exact (hE.here.1.1.1.2).lt
  have hl34_13 : g28 < g34 := by rw [hg34]; exact (hE.here.1.2).lt
  replace hE := hE.blk 40 #[.bool s_5, .slice A_5 n_5 c_5, .bool ti_5, .slice B_5 m_5 d_5] (g := g34) hg34.symm
  generalize w15.alloc (.cells #[.bool s_5, .slice A_5 n_5 c_5, .bool ti_5, .slice B_5 m_5 d_5] 40) = W34 at hE ⊢
  rw [← hg34]
  clear hg34
  obtain ⟨k35, k36, k37⟩ := (hE.here.1.1.1.1.1.1.1.1.1.1.1.1.1.1.2).c3
  obtain ⟨k38, k39⟩ := (hE.here.1.1.1.1.1.1.1.1.1.1.1.1.1.2).c2
  obtain ⟨k40, k41⟩ := (hE.here.1.1.1.1.1.1.1.1.1.1.1.1.2).c2
  go_wp2_with fail
  have hc := lBoth_v (c := c) hE.here.1.1.1.1.1.1.1.1.1.1.1.1.1.1.1.2 HB.out HR0.out HR2.out 1 (by decide)
  rw [show (pr (fr 60 1 3 r 60 0) 1 * pr (fr 60 1 3 r 62 0) 1) = Rat.divInt 27 40 from by rw [ex_x1 HQ.out, ex_y1 HQ.out]; decide +kernel] at hc
  refine hc.mono ?_
  clear hc
  clear k35 k36 k37 k38 k39 k40 k41
  rintro e w16 ⟨s_6, A_6, n_6, c_6, ti_6, B_6, m_6, d_6, rfl, hr, hb⟩
  replace hE := hE.step hb
  clear hb
  replace hE := hE.fv hr
  clear hr
  go_upto_region 9 with (fail)
  obtain ⟨g42, hg42⟩ : ∃ g42, g42 = w16.heap.size := ⟨_, rfl⟩
  have hl42_1 : w1.heap.size < g42 := by rw [hg42]; exact (hE.here.1.1.1.1.1.1.1.1.1.1.1.1.1.1.1.2).lt
  have hl42_2 : w1.heap.size + 1 < g42 := by rw [hg42]; exact (hE.here.1.1.1.1.1.1.1.1.1.1.1.1.1.1.2).lt
  have hl42_3 : w1.heap.size + 1 + 1 < g42 := by rw [hg42]; exact (hE.here.1.1.1.1.1.1.1.1.1.1.1.1.1.2).lt
  have hl42_5 : g4 < g42 := by rw [hg42]; exact (hE.here.1.1.1.1.1.1.1.1.1.1.1.2).lt
  have hl42_7 : g10 < g42 := by rw [hg42]; exact (hE.here.1.1.1.1.1.1.1.1.1.2).lt
  have hl42_9 : g16 < g42 := by rw [hg42]; exact (hE.here.1.1.1.1.1.1.1.2).lt
  have hl42_11 : g22 < g42 := by rw [hg42]; exact (hE.here.1.1.1.1.1.2).lt
  have hl42_13 : g28 < g42 := by rw [hg42]; exact (hE.here.1.1.1.2).lt
  have hl42_15 : g34 < g42 := by rw [hg42]; exact (hE.here.1.2).lt
  replace hE := hE.blk 40 #[.bool s_6, .slice A_6 n_6 c_6, .bool ti_6, .slice B_6 m_6 d_6] (g := g42) hg42.symm
  generalize w16.alloc (.cells #[.bool s_6, .slice A_6 n_6 c_6, .bool ti_6, .slice B_6 m_6 d_6] 40) = W42 at hE ⊢
  rw [← hg42]
  clear hg42
  obtain ⟨k43, k44, k45⟩ := (hE.here.1.1.1.1.1.1.1.1.1.1.1.1.1.1.1.1.2).c3
  obtain ⟨k46, k47⟩ := (hE.here.1.1.1.1.1.1.1.1.1.1.1.1.1.1.1.2).c2
  obtain ⟨k48, k49⟩ := (hE.here.1.1.1.1.1.1.1.1.1.1.1.1.1.1.2).c2
  go_wp2_with fail
  have hc := lEither_v (c := c) hE.here.1.1.1.1.1.1.1.1.1.1.1.1.1.1.1.1.1.2 HB.out HR0.out HR2.out 1 (by decide)
  rw [show (1 - (1 - pr (fr 60 1 3 r 60 0) 1) * (1 - pr (fr 60 1 3 r 62 0) 1)) = Rat.divInt 39 40 from by rw [ex_x1 HQ.out, ex_y1 HQ.out]; decide +kernel] at hc
  refine hc.mono ?_
  clear hc
  clear k43 k44 k45 k46 k47 k48 k49
  rintro e w17 ⟨s_7, A_7, n_7, c_7, ti_7, B_7, m_7, d_7, rfl, hr, hb⟩
  replace hE := hE.step hb
  clear hb
  replace hE := hE.fv hr
  clear hr
  go_upto_region 10 with (fail)
  obtain ⟨g50, hg50⟩ : ∃ g50, g50 = w17.heap.size := ⟨_, rfl⟩
  have hl50_1 : w1.heap.size < g50 := by rw [hg50]; exact (hE.here.1.1.1.1.1.1.1.1.1.1.1.1.1.1.1.1.1.2).lt
  have hl50_2 : w1.heap.size + 1 < g50 := by rw [hg50]; exact (hE.here.1.1.1.1.1.1.1.1.1.1.1.1.1.1.1.1.2).lt
  have hl50_3 : w1.heap.size + 1 + 1 < g50 := by rw [hg50]; exact (hE.here.1.1.1.1.1.1.1.1.1.1.1.1.1.1.1.2).lt
  have hl50_5 : g4 < g50 := by rw [hg50]; exact (hE.here.1.1.1.1.1.1.1.1.1.1.1.1.1.2).lt
  have hl50_7 : g10 < g50 := by rw [hg50]; exact (hE.here.1.1.1.1.1.1.1.1.1.1.1.2).lt
  have hl50_9 : g16 < g50 := by rw [hg50]; exact (hE.here.1.1.1.1.1.1.1.1.1.2).lt
  have hl50_11 : g22 < g50 := by rw [hg50]; exact (hE.here.1.1.1.1.1.1.1.2).lt
  have hl50_13 : g28 < g50 := by rw [hg50]; exact (hE.here.1.1.1.1.1.2).lt
  have hl50_15 : g34 < g50 := by rw [hg50]; exact (hE.here.1.1.1.2).lt
  have hl50_17 : g42 < g50 := by rw [hg50]; exact (hE.here.1.2).lt
  replace hE := hE.blk 40 #[.bool s_7, .slice A_7 n_7 c_7, .bool ti_7, .slice B_7 m_7 d_7] (g := g50) hg50.symm
  generalize w17.alloc (.cells #[.bool s_7, .slice A_7 n_7 c_7, .bool ti_7, .slice B_7 m_7 d_7] 40) = W50 at hE ⊢
  rw [← hg50]
  clear hg50
  obtain ⟨k51, k52, k53⟩ := (hE.here.1.1.1.1.1.1.1.1.1.1.1.1.1.1.1.1.1.1.2).c3
  obtain ⟨k54, k55⟩ := (hE.here.1.1.1.1.1.1.1.1.1.1.1.1.1.1.1.1.1.2).c2
  obtain ⟨k56, k57⟩ := (hE.here.1.1.1.1.1.1.1.1.1.1.1.1.1.1.1.1.2).c2
  go_wp2_with fail
  have hc := lLeft_v (c := c) hE.here.1.1.1.1.1.1.1.1.1.1.1.1.1.1.1.1.1.1.1.2 HB.out HR0.out HR2.out 1 (by decide)
  rw [show ((1 - pr (fr 60 1 3 r 60 0) 1) * pr (fr 60 1 3 r 62 0) 1) = Rat.divInt 3 40 from by rw [ex_x1 HQ.out, ex_y1 HQ.out]; decide +kernel] at hc
  refine hc.mono ?_
  clear hc
  clear k51 k52 k53 k54 k55 k56 k57
  rintro e w18 ⟨s_8, A_8, n_8, c_8, ti_8, B_8, m_8, d_8, rfl, hr, hb⟩
  replace hE := hE.step hb
  clear hb
  replace hE := hE.fv hr
  clear hr
  go_upto_region 11 with (fail)
  obtain ⟨g58, hg58⟩ : ∃ g58, g58 = w18.heap.size := ⟨_, rfl⟩
  have hl58_1 : w1.heap.size < g58 := by rw [hg58]; exact (hE.here.1.1.1.1.1.1.1.1.1.1.1.1.1.1.1.1.1.1.1.2).lt
  have hl58_2 : w1.heap.size + 1 < g58 := by rw [hg58]; exact (hE.here.1.1.1.1.1.1.1.1.1.1.1.1.1.1.1.1.1.1.2).lt
  have hl58_3 : w1.heap.size + 1 + 1 < g58 := by rw [hg58]; exact (hE.here.1.1.1.1.1.1.1.1.1.1.1.1.1.1.1.1.1.2).lt
  have hl58_5 : g4 < g58 := by rw [hg58]; exact (hE.here.1.1.1.1.1.1.1.1.1.1.1.1.1.1.1.2).lt
  have hl58_7 : g10 < g58 := by rw [hg58]; exact (hE.here.1.1.1.1.1.1.1.1.1.1.1.1.1.2).lt
  have hl58_9 : g16 < g58 := by rw [hg58]; exact (hE.here.1.1.1.1.1.1.1.1.1.1.1.2).lt
  have hl58_11 : g22 < g58 := by rw [hg58]; exact (hE.here.1.1.1.1.1.1.1.1.1.2).lt
  have hl58_13 : g28 < g58 := by rw [hg58]; exact (hE.here.1.1.1.1.1.1.1.2).lt
  have hl58_15 : g34 < g58 := by rw [hg58]; exact (hE.here.1.1.1.1.1.2).lt
  have hl58_17 : g42 < g58 := by rw [hg58]; exact (hE.here.1.1.1.2).lt
  have hl58_19 : g50 < g58 := by rw [hg58]; exact (hE.here.1.2).lt
  replace hE := hE.blk 40 #[.bool s_8, .slice A_8 n_8 c_8, .bool ti_8, .slice B_8 m_8 d_8] (g := g58) hg58.symm
  generalize w18.alloc (.cells #[.bool s_8, .slice A_8 n_8 c_8, .bool ti_8, .slice B_8 m_8 d_8] 40) = W58 at hE ⊢
  rw [← hg58]
  clear hg58
  obtain ⟨k59, k60, k61, k62⟩ := (hE.here.1.1.1.1.1.1.1.1.1.1.1.1.1.1.1.1.2).c4
  go_wp2_with fail
  refine (law_is (ca := c_0) (da := d_0) (n := 1) (d := 2) hE.here.1.1.1.1.1.1.1.1.1.1.1.1.1.1.1.1.1.2 (by rw [fl_le]; decide +kernel) (by decide) (by decide) (by decide) (by decide) (by decide) rfl).mono ?_
  clear k59 k60 k61 k62
  rintro e w30 ⟨rfl, hb⟩
  replace hE := hE.step hb
  clear hb
  obtain ⟨k63, k64, k65, k66⟩ := (hE.here.1.1.1.1.1.1.1.1.1.1.1.1.1.1.2).c4
  go_wp2_with fail
  refine (law_is (ca := c_1) (da := d_1) (n := 9) (d := 20) hE.here.1.1.1.1.1.1.1.1.1.1.1.1.1.1.1.2 (by rw [fl_le]; decide +kernel) (by decide) (by decide) (by decide) (by decide) (by decide) rfl).mono ?_
  clear k63 k64 k65 k66
  rintro e w31 ⟨rfl, hb⟩
  replace hE := hE.step hb
  clear hb
  obtain ⟨k67, k68, k69, k70⟩ := (hE.here.1.1.1.1.1.1.1.1.1.1.1.1.2).c4
  go_wp2_with fail
  refine (law_is (ca := c_2) (da := d_2) (n := 0) (d := 1) hE.here.1.1.1.1.1.1.1.1.1.1.1.1.1.2 (by rw [fl_le]; decide +kernel) (by decide) (by decide) (by decide) (by decide) (by decide) rfl).mono ?_
  clear k67 k68 k69 k70
  rintro e w32 ⟨rfl, hb⟩
  replace hE := hE.step hb
  clear hb
  obtain ⟨k71, k72, k73, k74⟩ := (hE.here.1.1.1.1.1.1.1.1.1.1.2).c4
  go_wp2_with fail
  refine (law_is (ca := c_3) (da := d_3) (n := 9) (d := 20) hE.here.1.1.1.1.1.1.1.1.1.1.1.2 (by rw [fl_le]; decide +kernel) (by decide) (by decide) (by decide) (by decide) (by decide) rfl).mono ?_
  clear k71 k72 k73 k74
  rintro e w33 ⟨rfl, hb⟩
  replace hE := hE.step hb
  clear hb
  obtain ⟨k75, k76, k77, k78⟩ := (hE.here.1.1.1.1.1.1.1.1.2).c4
  go_wp2_with fail
  refine (law_is (ca := c_4) (da := d_4) (n := 27) (d := 20) hE.here.1.1.1.1.1.1.1.1.1.2 (by rw [fl_le]; decide +kernel) (by decide) (by decide) (by decide) (by decide) (by decide) rfl).mono ?_
  clear k75 k76 k77 k78
  rintro e w34 ⟨rfl, hb⟩
  replace hE := hE.step hb
  clear hb
  obtain ⟨k79, k80, k81, k82⟩ := (hE.here.1.1.1.1.1.1.2).c4
  go_wp2_with fail
  refine (law_is (ca := c_5) (da := d_5) (n := 1) (d := 4) hE.here.1.1.1.1.1.1.1.2 (by rw [fl_le]; decide +kernel) (by decide) (by decide) (by decide) (by decide) (by decide) rfl).mono ?_
  clear k79 k80 k81 k82
  rintro e w35 ⟨rfl, hb⟩
  replace hE := hE.step hb
  clear hb
  obtain ⟨k83, k84, k85, k86⟩ := (hE.here.1.1.1.1.2).c4
  go_wp2_with fail
  refine (law_is (ca := c_6) (da := d_6) (n := 27) (d := 40) hE.here.1.1.1.1.1.2 (by rw [fl_le]; decide +kernel) (by decide) (by decide) (by decide) (by decide) (by decide) rfl).mono ?_
  clear k83 k84 k85 k86
  rintro e w36 ⟨rfl, hb⟩
  replace hE := hE.step hb
  clear hb
  obtain ⟨k87, k88, k89, k90⟩ := (hE.here.1.1.2).c4
  go_wp2_with fail
  refine (law_is (ca := c_7) (da := d_7) (n := 39) (d := 40) hE.here.1.1.1.2 (by rw [fl_le]; decide +kernel) (by decide) (by decide) (by decide) (by decide) (by decide) rfl).mono ?_
  clear k87 k88 k89 k90
  rintro e w37 ⟨rfl, hb⟩
  replace hE := hE.step hb
  clear hb
  obtain ⟨k91, k92, k93, k94⟩ := (hE.here.2).c4
  go_wp2_with fail
  refine (law_is (ca := c_8) (da := d_8) (n := 3) (d := 40) hE.here.1.2 (by rw [fl_le]; decide +kernel) (by decide) (by decide) (by decide) (by decide) (by decide) rfl).mono ?_
  clear k91 k92 k93 k94
  rintro e w38 ⟨rfl, hb⟩
  replace hE := hE.step hb
  clear hb
  go_wp2_with fail
  go_ret
  exact ⟨rfl, hE.bel⟩
end Go.Proofs.YtgkepllfdhcdpaaGreat
namespace Go.Proofs.YtgkepllfdhcdpaaGreat
open Go.RowKit

def LargeQ (n : Nat) (r : Nat → RH) (N Wd L : Int) (w : World) (e : Ending) (w' : World) : Prop := ∃ v, e = .returned (.bool v) ∧ (v = false ↔ TabS n r N Wd L) ∧ Below w.heap.size w w'
theorem no_tab {P : Prop} (h : ¬ P) : (true = false ↔ P) := ⟨(fun e => by cases e), fun p => absurd p h⟩
set_option linter.unusedSimpArgs false in
set_option maxRecDepth 100000 in
set_option maxHeartbeats 4000000 in
theorem large_iff (F S N Wd L : Int) (A : Option Addr) (n c : Nat) (r : Nat → RH) (w : World) (hT : TabM w A n r) (h1 : 0 ≤ N) (h2 : N ≤ 1000000) (h3 : 0 ≤ Wd) (h4 : Wd ≤ 1000000) :
    Calls Tryz.prog 12 #[.agg #[.int .i64 F, .int .i64 S, .slice A n c], .int .i64 N, .int .i64 Wd, .int .i64 L] w (LargeQ n r N Wd L w) := by
  have hE := ((Env.start w).and (TabM.stable A n r) hT).blk 24 #[.int .i64 F, .int .i64 S, .slice A n c] (g := w.heap.size) rfl
  obtain ⟨W0, hW0⟩ : ∃ W0, W0 = w.alloc (.cells #[.int .i64 F, .int .i64 S, .slice A n c] 24) := ⟨_, rfl⟩
  rw [← hW0] at hE
  have HW0 := Lib.hid hW0
  clear hW0
  go_enter Tryz.func12, Tryz.ntmps12
  go_upto_region 1 with (fail)
  rw [← HW0.out]
  obtain ⟨k1, k2, k3⟩ := hE.here.2.c3
  by_cases hn : N < (n : Int)
  · have t1 : decide (N < (n : Int)) = true := decide_eq_true hn
    have hno : ¬ TabS n r N Wd L := fun h => by have := h.1; omega
    have HN := Lib.hid hno
    clear hn hno
    go_wp2_with fail
    go_ret
    exact ⟨true, rfl, no_tab HN.out, hE.bel⟩
  · have t1 : decide (N < (n : Int)) = false := decide_eq_false hn
    have Hn := Lib.hid hn
    clear hn
    go_wp2_with fail
    clear k1 k2 k3 t1
    go_loopw [9] (fun x wr => ∃ i : Nat, i ≤ n ∧ x = .int .i64 (i : Int) ∧ Hid (∀ j, j < i → RowS (r j) Wd L) ∧ Env w (fun V => (True ∧ TabM V A n r) ∧ Blk 24 w.heap.size #[.int .i64 F, .int .i64 S, .slice A n c] V) wr) (fun x _ => n - (intOf x).toNat)
    case atStart => exact ⟨0, Nat.zero_le _, rfl, Lib.hid (fun j hj => absurd hj (by omega)), hE⟩
    case round =>
      clear hE
      obtain ⟨i, hi, rfl, HI, hE⟩ := hrel
      obtain ⟨k1, k2, k3⟩ := hE.here.2.c3
      have hn' := Hn.out
      by_cases hlt : i < n
      · obtain ⟨b, o, rfl, hblt, hc⟩ := hE.here.1.2 (by omega)
        obtain ⟨c0, hrow⟩ := hc i hlt
        obtain ⟨R, hR⟩ : ∃ R, R = r i := ⟨_, rfl⟩
        rw [← hR] at c0 hrow
        obtain ⟨Ai, ni, ci, hh⟩ := R
        dsimp only at c0
        have HR := Lib.hid hR
        clear hR hc hrow
        have t1 : decide ((i : Int) < (n : Int)) = true := decide_eq_true (by omega)
        have t2 : (i : Int) < (n : Int) := by omega
        go_wp2_with fail
        clear k1 k2 k3 c0 t1 t2
        go_loopw [10] (fun x wr => ∃ k : Nat, k ≤ ni ∧ x = .int .i64 (k : Int) ∧ Hid ((k : Int) ≤ Wd ∧ ∀ j, j < k → ((hh j).n : Int) ≤ L ∧ ((hh j).m : Int) ≤ L) ∧ Env w (fun V => (True ∧ TabM V (some ⟨b, o, none⟩) n r) ∧ Blk 24 w.heap.size #[.int .i64 F, .int .i64 S, .slice (some ⟨b, o, none⟩) n c] V) wr) (fun x _ => ni - (intOf x).toNat)
        case atStart => exact ⟨0, Nat.zero_le _, rfl, Lib.hid ⟨by omega, fun j hj => absurd hj (by omega)⟩, hE⟩
        case round =>
          clear hE
          obtain ⟨k, hk, rfl, HK, hE⟩ := hrel
          obtain ⟨k1, k2, k3⟩ := hE.here.2.c3
          obtain ⟨b', o', e', hblt, hc⟩ := hE.here.1.2 (by omega)
          injection e' with e'
          injection e' with e1 e2 e3
          subst e1 e2
          obtain ⟨c0, hrow⟩ := hc i hlt
          rw [← HR.out] at c0 hrow
          dsimp only at c0
          have t2 : (i : Int) < (n : Int) := by omega
          clear hc e3
          by_cases hkt : k < ni
          · have u1 : decide ((k : Int) < (ni : Int)) = true := decide_eq_true (by omega)
            have u2 : (k : Int) < (ni : Int) := by omega
            by_cases hw : Wd ≤ (k : Int)
            · have u3 : decide (Wd ≤ (k : Int)) = true := decide_eq_true hw
              have hno : ¬ TabS n r N Wd L := fun h => by
                have h1 := (h.2 i hlt).1
                rw [← HR.out] at h1
                dsimp only at h1
                omega
              have HN := Lib.hid hno
              clear hw hrow hno
              go_wp2_with fail
              go_ret
              exact ⟨true, rfl, no_tab HN.out, hE.bel⟩
            · have u3 : decide (Wd ≤ (k : Int)) = false := decide_eq_false hw
              obtain ⟨b2, o2, e2, hb2, hc2⟩ := hrow (show 0 < ni by omega)
              dsimp only at e2
              subst e2
              obtain ⟨hcl, -⟩ := hc2 k hkt
              dsimp only at hcl
              obtain ⟨H, hH⟩ : ∃ H, H = hh k := ⟨_, rfl⟩
              rw [← hH] at hcl
              have HH := Lib.hid hH
              clear hH hc2
              have HW := Lib.hid hw
              clear hw hrow
              obtain ⟨hs, hA, hn, hc, hf, ht, hD, hm, hd, hg⟩ := H
              obtain ⟨d0, d1, d2, d3⟩ := hcl
              dsimp only at d0 d1 d2 d3
              by_cases hl1 : L < (hn : Int)
              · have u4 : decide (L < (hn : Int)) = true := decide_eq_true hl1
                have hno : ¬ TabS n r N Wd L := fun h => by
                  have h1 := (h.2 i hlt).2
                  rw [← HR.out] at h1
                  have h2 := (h1 k hkt).1
                  dsimp only at h2
                  rw [← HH.out] at h2
                  dsimp only at h2
                  omega
                have HN := Lib.hid hno
                clear hl1 hno
                go_wp2_with fail
                go_ret
                exact ⟨true, rfl, no_tab HN.out, hE.bel⟩
              · have u4 : decide (L < (hn : Int)) = false := decide_eq_false hl1
                have HL1 := Lib.hid hl1
                clear hl1
                by_cases hl2 : L < (hm : Int)
                · have u5 : decide (L < (hm : Int)) = true := decide_eq_true hl2
                  have hno : ¬ TabS n r N Wd L := fun h => by
                    have h1 := (h.2 i hlt).2
                    rw [← HR.out] at h1
                    have h2 := (h1 k hkt).2
                    dsimp only at h2
                    rw [← HH.out] at h2
                    dsimp only at h2
                    omega
                  have HN := Lib.hid hno
                  clear hl2 hno
                  go_wp2_with fail
                  go_ret
                  exact ⟨true, rfl, no_tab HN.out, hE.bel⟩
                · have u5 : decide (L < (hm : Int)) = false := decide_eq_false hl2
                  have HL2 := Lib.hid hl2
                  clear hl2
                  have hk9 : k < 1000000 := by have := HW.out; omega
                  go_wp2_with fail
                  go_roundw
                  case rel =>
                    refine ⟨k + 1, by omega, by go_num, Lib.hid ⟨by have := HW.out; omega, fun j hj => ?_⟩, hE⟩
                    rcases Nat.lt_or_ge j k with h | h
                    · exact HK.out.2 j h
                    · obtain rfl : j = k := by omega
                      rw [← HH.out]
                      have a1 := HL1.out
                      have a2 := HL2.out
                      dsimp only
                      omega
                  case measure => simp [intOf]; omega
          · obtain rfl : k = ni := by omega
            have u1 : decide ((k : Int) < (k : Int)) = false := decide_eq_false (by omega)
            clear hrow
            go_wp2_with fail
            go_roundw
            case rel =>
              refine ⟨i + 1, by omega, by go_num, Lib.hid (fun j hj => ?_), hE⟩
              rcases Nat.lt_or_ge j i with h | h
              · exact HI.out j h
              · obtain rfl : j = i := by omega
                rw [← HR.out]
                exact HK.out
            case measure => simp [intOf]; omega
      · obtain rfl : i = n := by omega
        have t1 : decide ((i : Int) < (i : Int)) = false := decide_eq_false (by omega)
        go_wp2_with fail
        go_ret
        exact ⟨false, rfl, ⟨fun _ => ⟨by omega, HI.out⟩, fun _ => rfl⟩, hE.bel⟩


def UseQ (F S : Int) (n : Nat) (r : Nat → RH) (E Y : Int) (w : World) (e : Ending) (w' : World) : Prop := ∃ v, e = .returned (.bool v) ∧ (v = true ↔ TabS n r 25 8 2 ∧ RightP F S n r E Y) ∧ Below w.heap.size w w'
set_option linter.unusedSimpArgs false in
set_option maxRecDepth 100000 in
set_option maxHeartbeats 2000000 in
theorem usable_iff (F S E Y : Int) (A : Option Addr) (n c : Nat) (r : Nat → RH) (w : World) (hT : TabM w A n r) :
    Calls Tryz.prog 31 #[.agg #[.int .i64 F, .int .i64 S, .slice A n c], .agg #[.int .i64 E, .int .i64 Y]] w (UseQ F S n r E Y w) := by
  have hE := (((Env.start w).tab hT).blk 24 #[.int .i64 F, .int .i64 S, .slice A n c] (g := w.heap.size) rfl).blk 26 #[.int .i64 E, .int .i64 Y] (g := w.heap.size + 1) (by simp)
  obtain ⟨W0, hW0⟩ : ∃ W0, W0 = ((w.alloc (.cells #[.int .i64 F, .int .i64 S, .slice A n c] 24)).alloc (.cells #[.int .i64 E, .int .i64 Y] 26)) := ⟨_, rfl⟩
  rw [← hW0] at hE
  have HW0 := Lib.hid hW0
  clear hW0
  go_enter Tryz.func31, Tryz.ntmps31
  go_upto_region 1 with (fail)
  rw [← HW0.out]
  obtain ⟨k1, k2, k3⟩ := hE.here.1.2.c3
  obtain ⟨k4, k5⟩ := hE.here.2.c2
  go_wp2_with fail
  refine (large_iff F S 25 8 2 A n c r _ hE.here.1.1.2 (by decide) (by decide) (by decide) (by decide)).mono ?_
  rintro e w1 ⟨v, rfl, hv, hb⟩
  replace hE := hE.step hb
  clear hb k1 k2 k3 k4 k5
  cases v with
  | true =>
    have HV := Lib.hid hv
    clear hv
    go_wp2_with fail
    go_ret
    exact ⟨false, rfl, ⟨(fun h => by cases h), fun h => by have := HV.out.2 h.1; cases this⟩, hE.bel⟩
  | false =>
    have HS := Lib.hid (hv.1 rfl)
    clear hv
    obtain ⟨k1, k2, k3⟩ := hE.here.1.2.c3
    obtain ⟨k4, k5⟩ := hE.here.2.c2
    go_wp2_with fail
    refine (lright_any F S E Y A n c r _ hE.here.1.1.2 (HS.out.b (by decide) (by decide) (by decide))).mono ?_
    rintro e w2 ⟨v, rfl, hv, hb⟩
    replace hE := hE.step hb
    have HV := Lib.hid hv
    clear hb hv k1 k2 k3 k4 k5
    go_wp2_with fail
    go_ret
    exact ⟨v, rfl, ⟨fun h => ⟨HS.out, HV.out.1 h⟩, fun h => HV.out.2 h.2⟩, hE.bel⟩

theorem usable_t {F S E Y : Int} {A : Option Addr} {n c : Nat} {r : Nat → RH} {w : World} (hT : TabM w A n r) (h : TabS n r 25 8 2 ∧ RightP F S n r E Y) :
    Calls Tryz.prog 31 #[.agg #[.int .i64 F, .int .i64 S, .slice A n c], .agg #[.int .i64 E, .int .i64 Y]] w fun e w' => e = .returned (.bool true) ∧ Below w.heap.size w w' :=
  (usable_iff F S E Y A n c r w hT).mono fun _ _ ⟨v, he, hv, hb⟩ => by obtain rfl : v = true := hv.2 h; exact ⟨he, hb⟩
theorem usable_f {F S E Y : Int} {A : Option Addr} {n c : Nat} {r : Nat → RH} {w : World} (hT : TabM w A n r) (h : ¬ (TabS n r 25 8 2 ∧ RightP F S n r E Y)) :
    Calls Tryz.prog 31 #[.agg #[.int .i64 F, .int .i64 S, .slice A n c], .agg #[.int .i64 E, .int .i64 Y]] w fun e w' => e = .returned (.bool false) ∧ Below w.heap.size w w' :=
  (usable_iff F S E Y A n c r w hT).mono fun _ _ ⟨v, he, hv, hb⟩ => by
    cases v with
    | true => exact absurd (hv.1 rfl) h
    | false => exact ⟨he, hb⟩
end Go.Proofs.YtgkepllfdhcdpaaGreat
namespace Go.Proofs.YtgkepllfdhcdpaaGreat
open Go.ChangeShapes Go.WideShapes Go.ChangeAt Go.RowKit Go.Deep

theorem cBool : Tryz.prog.cellsOf 4 = 1 := by kernel_rfl
theorem cU16 : Tryz.prog.cellsOf 77 = 1 := by kernel_rfl
theorem cU16s : Tryz.prog.cellsOf 36 = 1 := by kernel_rfl
theorem cWhole : Tryz.prog.cellsOf 38 = 2 := by kernel_rfl
theorem cFrac : Tryz.prog.cellsOf 40 = 4 := by kernel_rfl
theorem cRow : Tryz.prog.cellsOf 47 = 1 := by kernel_rfl
theorem cTable : Tryz.prog.cellsOf 24 = 3 := by kernel_rfl
theorem cLife : Tryz.prog.cellsOf 26 = 2 := by kernel_rfl
instance : Inhabited FH := ⟨⟨false, none, 0, 0, fun _ => 0, false, none, 0, 0, fun _ => 0⟩⟩
instance : Inhabited RH := ⟨⟨none, 0, 0, fun _ => default⟩⟩
theorem two_of_len {α : Type} {l : List α} (h : l.length = 2) : ∃ a b, l = [a, b] := by
  match l, h with
  | [a, b], _ => exact ⟨a, b, rfl⟩
theorem four_of_len {α : Type} {l : List α} (h : l.length = 4) : ∃ a b c d, l = [a, b, c, d] := by
  match l, h with
  | [a, b, c, d], _ => exact ⟨a, b, c, d, rfl⟩
theorem cell_in {w : World} {b o : Nat} {v : Value} (h : w.cell? ⟨b, o, none⟩ = some v) : b < w.heap.size := by
  rcases Nat.lt_or_ge b w.heap.size with h1 | h1
  · exact h1
  · simp [World.cell?, Array.getElem?_eq_none h1] at h
theorem int_in {z : Int} (h : (Lit.int .i64 z).wf = true) : -9223372036854775808 ≤ z ∧ z ≤ 9223372036854775807 := by
  have := range_i64 (zs := [z]) (fun n hn => by rw [List.mem_singleton.1 hn]; exact h) 0
  simpa using this
theorem add_none (b o k : Nat) : (⟨b, o, none⟩ : Addr).add k = ⟨b, o + k, none⟩ := by
  unfold Addr.add
  by_cases h : k = 0
  · simp [h]
  · simp [h]
section
variable {H : Type} {enc : TypeId × Value → H} {W : World}
set_option maxRecDepth 100000 in
/-- The limbs of a number. -/
theorem limbs_open {fuel : Nat} {cs : List Value} {x : DataW H × List MemPlace} (h : DataW.trod enc Tryz.prog W 0 (fun _ => true) true fuel 36 cs = some x) :
    ∃ A n c f, cs = [.slice A n c] ∧ Rd W.heap.size .u16 W A n f ∧ ∀ j, j < n → f j < 65536 := by
  rcases open_ints Tryz.underlying36 Tryz.underlying77 cU16 h with ⟨e1, -⟩ | ⟨a, len, cap, zs, e1, -, hlc, hcm, hzl, -, hc, hwf⟩
  · exact ⟨none, 0, 0, fun _ => 0, e1, Rd.nil, fun j hj => absurd hj (by omega)⟩
  · replace hzl : zs.length = cap := by simpa using hzl
    have hb : ∀ j, 0 ≤ zs.getD j 0 ∧ zs.getD j 0 ≤ 65535 := fun j => by rw [List.getD_eq_getElem?_getD]; exact range_u16 hwf j
    refine ⟨some a, len, cap, fun j => (zs.getD j 0).toNat, e1, fun hn => ?_, fun j _ => by have := hb j; show (zs.getD j 0).toNat < 65536; omega⟩
    obtain ⟨b, o, rfl, hcell⟩ := ints_at hc (by omega)
    refine ⟨b, o, rfl, ?_, fun i hi => ?_⟩
    · exact cell_in (hcell 0 (by omega))
    · rw [hcell i (by omega), Int.toNat_of_nonneg (hb i).1]
set_option maxRecDepth 100000 in
/-- The two cells of a whole number. -/
theorem wcells_open {fuel : Nat} {cs : List Value} {x : DataW H × List MemPlace} (h : DataW.trod enc Tryz.prog W 0 (fun _ => true) true fuel 38 cs = some x) :
    ∃ s A n c f, cs = [.bool s, .slice A n c] ∧ Rd W.heap.size .u16 W A n f ∧ ∀ j, j < n → f j < 65536 := by
  obtain ⟨xs, k, -, -, hl, hx, hi⟩ := DataW.trod_struct Tryz.underlying38 h
  obtain ⟨c0, c1, rfl⟩ := two_of_len (hl.trans cWhole)
  obtain ⟨x0, x1, rfl⟩ := two_of_len hx
  have h0 : DataW.trod enc Tryz.prog W 0 (fun _ => true) true k 4 (([c0, c1].drop 0).take (Tryz.prog.cellsOf 4)) = some x0 := hi 0 _ rfl
  have h1 : DataW.trod enc Tryz.prog W 0 (fun _ => true) true k 36 (([c0, c1].drop 1).take (Tryz.prog.cellsOf 36)) = some x1 := hi 1 _ rfl
  rw [cBool] at h0
  rw [cU16s] at h1
  simp only [List.drop_zero, List.take_succ_cons, List.take_zero, List.drop_succ_cons] at h0 h1
  obtain ⟨s, e0, -⟩ := DataW.trod_bool Tryz.underlying4 h0
  obtain ⟨A, n, c, f, e1, r1, r2⟩ := limbs_open h1
  injection e0 with e0
  injection e1 with e1
  exact ⟨s, A, n, c, f, by rw [e0, e1], r1, r2⟩
set_option maxRecDepth 100000 in
/-- The four cells of a fraction. -/
theorem fcells_open {fuel : Nat} {cs : List Value} {x : DataW H × List MemPlace} (h : DataW.trod enc Tryz.prog W 0 (fun _ => true) true fuel 40 cs = some x) :
    ∃ q : FH, cs = [.bool q.s, .slice q.A q.n q.c, .bool q.t, .slice q.B q.m q.d] ∧ q.rd W := by
  obtain ⟨xs, k, -, -, hl, hx, hi⟩ := DataW.trod_struct Tryz.underlying40 h
  obtain ⟨c0, c1, c2, c3, rfl⟩ := four_of_len (hl.trans cFrac)
  obtain ⟨x0, x1, rfl⟩ := two_of_len hx
  have h0 : DataW.trod enc Tryz.prog W 0 (fun _ => true) true k 38 (([c0, c1, c2, c3].drop 0).take (Tryz.prog.cellsOf 38)) = some x0 := hi 0 _ rfl
  have h1 : DataW.trod enc Tryz.prog W 0 (fun _ => true) true k 38 (([c0, c1, c2, c3].drop 2).take (Tryz.prog.cellsOf 38)) = some x1 := hi 1 _ rfl
  rw [cWhole] at h0 h1
  simp only [List.drop_zero, List.take_succ_cons, List.take_zero, List.drop_succ_cons] at h0 h1
  obtain ⟨s, A, n, c, f, e0, r1, r2⟩ := wcells_open h0
  obtain ⟨t, B, m, d, g, e1, r3, r4⟩ := wcells_open h1
  injection e0 with e0 e2
  injection e2 with e2
  injection e1 with e1 e3
  injection e3 with e3
  exact ⟨⟨s, A, n, c, f, t, B, m, d, g⟩, by rw [e0, e1, e2, e3], r1, r3, r2, r4⟩
set_option maxRecDepth 100000 in
/-- A row of fractions. -/
theorem row_open {fuel : Nat} {cs : List Value} {x : DataW H × List MemPlace} (h : DataW.trod enc Tryz.prog W 0 (fun _ => true) true fuel 47 cs = some x) :
    ∃ R : RH, cs = [.slice R.A R.n R.c] ∧ RowM W R := by
  rcases open_slice Tryz.underlying47 h with ⟨e, -⟩ | ⟨a, len, cap, m, k, D, Pl, rfl, -, hlc, hcm, hm, -, hx⟩
  · exact ⟨⟨none, 0, 0, fun _ => default⟩, e, fun h0 => absurd h0 (by simp)⟩
  · replace hm : m = cap := by simpa using hm
    have hsp : 0 < len → ∃ b o, a = ⟨b, o, none⟩ := fun h0 => by
      obtain ⟨cs', h1, h2⟩ := hx 0 (by omega)
      rw [cFrac] at h1
      obtain ⟨q, rfl, hq⟩ := fcells_open h2
      obtain ⟨-, -, hc⟩ := World.cells?_some h1
      have c0 := hc 0 (by omega)
      obtain ⟨b, o, spot⟩ := a
      have hs : spot = none := by simpa [Addr.add] using World.cell?_spot c0
      exact ⟨b, o, by rw [hs]⟩
    have each : ∀ i, i < len → ∃ q : FH, (∃ b o, a = ⟨b, o, none⟩ ∧ b < W.heap.size ∧ q.cells W b (o + i * 4)) ∧ q.rd W := fun i hi => by
      obtain ⟨b, o, rfl⟩ := hsp (by omega)
      obtain ⟨cs', h1, h2⟩ := hx i (by omega)
      rw [cFrac, add_none] at h1
      obtain ⟨q, rfl, hq⟩ := fcells_open h2
      obtain ⟨-, -, hc⟩ := World.cells?_some h1
      have c0 := hc 0 (by omega)
      have c1 := hc 1 (by omega)
      have c2 := hc 2 (by omega)
      have c3 := hc 3 (by omega)
      rw [add_none] at c0 c1 c2 c3
      simp only [List.getElem?_cons_zero, List.getElem?_cons_succ, Nat.add_zero] at c0 c1 c2 c3
      exact ⟨q, ⟨b, o, rfl, cell_in c0, c0, c1, c2, c3⟩, hq⟩
    obtain ⟨h', hh⟩ := choose_lt each
    refine ⟨⟨some a, len, cap, h'⟩, rfl, fun h0 => ?_⟩
    obtain ⟨⟨b, o, rfl, hb, -⟩, -⟩ := hh 0 h0
    refine ⟨b, o, rfl, hb, fun i hi => ?_⟩
    obtain ⟨⟨b', o', e, -, hc⟩, hr⟩ := hh i hi
    cases e
    exact ⟨hc, hr⟩
set_option maxRecDepth 100000 in
/-- The rows of a table. -/
theorem rows_open {fuel : Nat} {cs : List Value} {x : DataW H × List MemPlace} (h : DataW.trod enc Tryz.prog W 0 (fun _ => true) true fuel 22 cs = some x) :
    ∃ A n c r, cs = [.slice A n c] ∧ TabM W A n r := by
  rcases open_slice1 Tryz.underlying22 cRow h with ⟨e, -⟩ | ⟨a, len, cap, m, k, V, D, Pl, rfl, -, hlc, hcm, hm, -, hx⟩
  · exact ⟨none, 0, 0, fun _ => default, e, fun h0 => absurd h0 (by omega)⟩
  · replace hm : m = cap := by simpa using hm
    have hsp : 0 < len → ∃ b o, a = ⟨b, o, none⟩ := fun h0 => by
      obtain ⟨h1, -⟩ := hx 0 (by omega)
      obtain ⟨b, o, spot⟩ := a
      have hs : spot = none := by simpa [Addr.add] using World.cell?_spot h1
      exact ⟨b, o, by rw [hs]⟩
    have each : ∀ i, i < len → ∃ R : RH, (∃ b o, a = ⟨b, o, none⟩ ∧ b < W.heap.size ∧ W.cell? ⟨b, o + i, none⟩ = some (.slice R.A R.n R.c)) ∧ RowM W R := fun i hi => by
      obtain ⟨b, o, rfl⟩ := hsp (by omega)
      obtain ⟨h1, h2⟩ := hx i (by omega)
      obtain ⟨R, e, hR⟩ := row_open h2
      injection e with e
      rw [e, add_none] at h1
      exact ⟨R, ⟨b, o, rfl, cell_in h1, h1⟩, hR⟩
    obtain ⟨r, hh⟩ := choose_lt each
    refine ⟨some a, len, cap, r, rfl, fun h0 => ?_⟩
    obtain ⟨⟨b, o, rfl, hb, -⟩, -⟩ := hh 0 h0
    refine ⟨b, o, rfl, hb, fun i hi => ?_⟩
    obtain ⟨⟨b', o', e, -, hc⟩, hr⟩ := hh i hi
    cases e
    exact ⟨hc, hr⟩
set_option maxRecDepth 100000 in
theorem table_open {b0 : Nat} {v : Value} {d : DataW H} {p : List MemPlace} (hv : Value.okWide Tryz.prog W .any b0 24 v) (h : DataW.Trod enc Tryz.prog W 0 (fun _ => true) true 24 v d p) :
    ∃ F S A n c r, v = .agg #[.int .i64 F, .int .i64 S, .slice A n c] ∧ ((-9223372036854775808 ≤ F ∧ F ≤ 9223372036854775807) ∧ (-9223372036854775808 ≤ S ∧ S ≤ 9223372036854775807)) ∧ TabM W A n r := by
  obtain ⟨v0, v1, v2, y0, y1, y2, m, rfl, rfl, rfl, h0, h1, h2⟩ := Joins.open_agg3 Tryz.underlying24 (by kernel_rfl) cTable hv h
  obtain ⟨F, e0, -, hF⟩ := DataW.trod_int Tryz.underlying3 h0
  obtain ⟨S, e1, -, hS⟩ := DataW.trod_int Tryz.underlying3 h1
  obtain ⟨A, n, c, r, e2, hr⟩ := rows_open h2
  injection e0 with e0
  injection e1 with e1
  injection e2 with e2
  subst e0 e1 e2
  exact ⟨F, S, A, n, c, r, rfl, ⟨int_in hF, int_in hS⟩, hr⟩
set_option maxRecDepth 100000 in
theorem life_open {b0 : Nat} {v : Value} {d : DataW H} {p : List MemPlace} (hv : Value.okWide Tryz.prog W .any b0 26 v) (h : DataW.Trod enc Tryz.prog W 0 (fun _ => true) true 26 v d p) :
    ∃ E Y, v = .agg #[.int .i64 E, .int .i64 Y] ∧ ((-9223372036854775808 ≤ E ∧ E ≤ 9223372036854775807) ∧ (-9223372036854775808 ≤ Y ∧ Y ≤ 9223372036854775807)) := by
  obtain ⟨v0, v1, y0, y1, m, rfl, rfl, rfl, h0, h1⟩ := Joins.open_agg2 Tryz.underlying26 (by kernel_rfl) cLife hv h
  obtain ⟨E, e0, -, hE⟩ := DataW.trod_int Tryz.underlying3 h0
  obtain ⟨Y, e1, -, hY⟩ := DataW.trod_int Tryz.underlying3 h1
  injection e0 with e0
  injection e1 with e1
  subst e0 e1
  exact ⟨E, Y, rfl, int_in hE, int_in hY⟩
end
end Go.Proofs.YtgkepllfdhcdpaaGreat
