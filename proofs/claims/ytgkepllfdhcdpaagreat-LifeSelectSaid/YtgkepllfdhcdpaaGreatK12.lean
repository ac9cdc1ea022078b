/-
  Several texts in one: The probability of dying in a year: life.person.dies. The probability of being alive: life.person.alive. The plain laws of lives: products of probabilities, sums of them. Probabilities whose denominators are short: products, complements. The laws' Large and usable: what a table that is not large has.
-/
import Derived.Test.YtgkepllfdhcdpaaGreatK11
import Derived.Test.YtgkepllfdhcdpaaGreatK10
namespace Go.Proofs.YtgkepllfdhcdpaaGreat
open Go.RowKit Go.Shelf
attribute [local go_sem] Oper.semAt_some

set_option linter.unusedSimpArgs false in
set_option maxRecDepth 100000 in
set_option maxHeartbeats 8000000 in
theorem ldies_v {F S E Y : Int} {A : Option Addr} {n c : Nat} {r : Nat → RH} {w : World} (hT : TabM w A n r) (hR : RightP F S n r E Y) (k : Nat) (hk : k ≤ 9223372036854775807) :
    Calls Tryz.prog 63 #[.agg #[.int .i64 F, .int .i64 S, .slice A n c, .int .i64 E, .int .i64 Y], .int .i64 (k : Int)] w (FR (pr (fun i => rt F S n r E Y (i : Int)) k * rt F S n r E Y (k : Int)) w) := by
  obtain ⟨M, hM, hMa, hMb, hM1⟩ := last_year hR
  have hY200 := fun (Bs n0 : Nat) (h0 : w.heap.size ≤ n0) (W : World) (hb : Below w.heap.size w W) (hBs : Blk 75 Bs #[.int .i64 F, .int .i64 S, .slice A n c, .int .i64 E, .int .i64 Y] W) => years_seq (5 - 1) (by decide) Bs n0 h0 hT hR M (by omega) hMa hMb W hb hBs
  have hRts := rt_rates hT hR 200
  change Calls _ _ _ _ (FR (pr (fun i : Nat => rt F S n r E Y (i : Int)) k * (fun i : Nat => rt F S n r E Y (i : Int)) k) w)
  generalize hf : (fun i : Nat => rt F S n r E Y (i : Int)) = f at *
  have hfM : f M = 1 := by rw [← hf]; exact hM1
  refine (callsIn_wide (n := 5)).1 ?_
  have hro : Fence.wide.round = none := rfl
  refine callsIn_of_wp_marks Tryz.func63 rfl trivial ?_ hro
  simp only [Tryz.ntmps63, List.size_toArray, List.length_cons, List.length_nil, Nat.reduceAdd, Nat.reduceSub, Array.replicate_succ, Array.replicate_zero, List.push_toArray, List.append_toArray, List.nil_append, List.cons_append]
  have hE := (((Env.start w).blk 75 #[.int .i64 F, .int .i64 S, .slice A n c, .int .i64 E, .int .i64 Y] (g := w.heap.size) rfl).blk 3 #[.int .i64 (k : Int)] (g := w.heap.size + 1) (by simp)).blk 40 #[.bool false, .slice none 0 0, .bool false, .slice none 0 0] (g := w.heap.size + 1 + 1) (by simp)
  obtain ⟨W0, hW0⟩ : ∃ W0, W0 = (((w.alloc (.cells #[.int .i64 F, .int .i64 S, .slice A n c, .int .i64 E, .int .i64 Y] 75)).alloc (.cells #[.int .i64 (k : Int)] 3)).alloc (.cells #[.bool false, .slice none 0 0, .bool false, .slice none 0 0] 40)) := ⟨_, rfl⟩
  rw [← hW0] at hE
  have HW0 := Lib.hid hW0
  clear hW0
  have HhT := Lib.hid hT
  clear hT
  have HhR := Lib.hid hR
  clear hR
  have HhM := Lib.hid hM
  clear hM
  have HhMa := Lib.hid hMa
  clear hMa
  have HhMb := Lib.hid hMb
  clear hMb
  have HhM1 := Lib.hid hM1
  clear hM1
  have Hhf := Lib.hid hf
  clear hf
  have HhfM := Lib.hid hfM
  clear hfM
  have HhRts := Lib.hid hRts
  clear hRts
  have Hhk := Lib.hid hk
  clear hk
  have HhY200 := Lib.hid hY200
  clear hY200
  gi_wp2
  rw [← HW0.out]
  refine ⟨trivial, (callsIn_wide.2 (ffromInt_v 1 _ (by decide) (by decide))).mono ?_⟩
  rintro e w1 ⟨sp, Ap, np, cp, tp, Bp, mp, dp, rfl, hp, hb⟩
  replace hE := (hE.step hb).fv hp
  clear hb hp
  have hE1 := hE.blk 40 #[.bool sp, .slice Ap np cp, .bool tp, .slice Bp mp dp] (g := w1.heap.size) rfl
  obtain ⟨k1, k2, k3, k4, k5⟩ := (hE1.here.1.1.1.1.2).c5
  clear hE1
  have hPl : w.heap.size + 1 + 1 < w1.heap.size := (hE.here.1.2).lt
  gi_wp2
  refine ⟨trivial, (years_in 4 F S E Y A n c _).mono ?_⟩
  rintro e w2 ⟨rfl, rfl⟩
  gi_wp2
  clear k1 k2 k3 k4 k5
  have hE := (hE.blk 40 #[.bool sp, .slice Ap np cp, .bool tp, .slice Bp mp dp] (g := w1.heap.size) rfl).blk 75 #[.int .i64 F, .int .i64 S, .slice A n c, .int .i64 E, .int .i64 Y] (g := w1.heap.size + 1) (by simp)
  have hb := hE.here.2
  generalize hPp : w1.heap.size = Pp at hE hPl ⊢
  have hsz : ((w1.alloc (.cells #[.bool sp, .slice Ap np cp, .bool tp, .slice Bp mp dp] 40)).alloc (.cells #[.int .i64 F, .int .i64 S, .slice A n c, .int .i64 E, .int .i64 Y] 75)).heap.size = Pp + 2 := by simp [hPp]
  generalize (w1.alloc (.cells #[.bool sp, .slice Ap np cp, .bool tp, .slice Bp mp dp] 40)).alloc (.cells #[.int .i64 F, .int .i64 S, .slice A n c, .int .i64 E, .int .i64 Y] 75) = Wr at hE hsz ⊢
  clear hb hPp
  have hsw : w.heap.size ≤ Wr.heap.size := by omega
  refine rangeV hro (by decide) (gf := 105) (lb := #[.pointer (some ⟨Pp + 1, 0, none⟩)]) rfl trivial (enters_of Tryz.func105 (by kernel_rfl) rfl)
    (HhY200.out (Pp + 1) w.heap.size (Nat.le_refl _) Wr hE.bel hE.here.2) KpB.t (KpB.b hsw (by omega)) (Below.refl _ _) (fun _ => rfl)
    (fun pre W => (AInv w k (w.heap.size + 1) (w.heap.size + 1 + 1) Pp (pr f pre.length) W ∧ Pp + 1 < W.heap.size) ∧ pre.length ≤ k) (fun c _ W => c = .ret ∧ RInv w (w.heap.size + 1 + 1) (pr f k * f k) W)
    (fun s W W' row h hg hr => ⟨⟨AInv.grown hsw k (w.heap.size + 1) (w.heap.size + 1 + 1) Pp _ W W' row h.1.1 hg hr, Nat.lt_of_lt_of_le h.1.2 hg.size⟩, h.2⟩) (fun c s W W' row h hg hr => ⟨h.1, RInv.grown hsw (w.heap.size + 1 + 1) (pr f k * f k) W W' row h.2 hg hr⟩)
    ⟨⟨⟨_, _, _, _, _, _, _, _, ((((Env.again hE.bel).blkI (hE.here.1.1.1.1.2)).blkI (hE.here.1.1.1.2)).fv (hE.here.1.1.2)).blkI (hE.here.1.2)⟩, by omega⟩, Nat.zero_le _⟩
    (AAx f Pp (fun g yv rv => { tmps := #[.agg #[.int .i64 F, .int .i64 S, .slice A n c, .int .i64 E, .int .i64 Y], .int .i64 (k : Int), .pointer (some ⟨w.heap.size, 0, none⟩), .pointer (some ⟨w.heap.size + 1, 0, none⟩), .pointer (some ⟨w.heap.size + 1 + 1, 0, none⟩), .pointer (some ⟨Pp, 0, none⟩), yv, .pointer (some ⟨g, 0, none⟩), .agg #[.bool sp, .slice Ap np cp, .bool tp, .slice Bp mp dp], .agg #[.int .i64 F, .int .i64 S, .slice A n c, .int .i64 E, .int .i64 Y], .func (.func 105) #[] #[.pointer (some ⟨Pp + 1, 0, none⟩)], yv, rv, undef, undef, undef, undef, undef, undef, undef, undef, undef, undef, undef], defers := [] })) (fun pre x a' => fun _ W W' row h hg hr => AAx.grown W W' row h hg hr) ?assign ?body ?done ?stop
  case assign =>
    rintro l pre ⟨xk, xs, xA, xn, xc, xt, xB, xm, xd⟩ W K ⟨⟨hI, hBs⟩, hlk⟩ ⟨hxk, hxf⟩ hK
    dsimp only at hxk hxf
    subst hxk
    have hIa := AInv.step hI ((Below.refl W.heap.size W).alloc (Nat.le_refl _) (.cells #[.bool xs, .slice xA xn xc, .bool xt, .slice xB xm xd] 40))
    have hkf := (KeepsOthers.alloc W (.cells #[.bool xs, .slice xA xn xc, .bool xt, .slice xB xm xd] 40)).from Wr.heap.size
    have hwl : w.heap.size ≤ W.heap.size := by obtain ⟨_, _, _, _, _, _, _, _, h⟩ := hI; exact h.bel.size
    have hkp : KpB w.heap.size (Pp + 1) W (W.alloc (.cells #[.bool xs, .slice xA xn xc, .bool xt, .slice xB xm xd] 40)) := KpB.grown hwl hBs (World.grownBy_alloc W _ none) (fun _ e => by cases e)
    have hfa := hxf.below ((Below.refl W.heap.size W).alloc (Nat.le_refl _) (.cells #[.bool xs, .slice xA xn xc, .bool xt, .slice xB xm xd] 40))
    have hba := Blk.new W 40 #[.bool xs, .slice xA xn xc, .bool xt, .slice xB xm xd]
    have hfin := fun a hax => hK a _ hkf hkp ⟨⟨hIa, by simp; omega⟩, hlk⟩ ⟨rfl, W.heap.size, hax, by omega, by simp, hfa, hba⟩
    have HF := Lib.hid hfin
    clear hfin hK hIa hkf hkp hfa hba hI hxf
    dsimp only [Yr.vals]
    gi_wp2
    exact HF.out _ rfl
  case body =>
    rintro l pre ⟨xk, xs, xA, xn, xc, xt, xB, xm, xd⟩ a' W ⟨⟨⟨sq, Aq, nq, cq, tq, Bq, mq, dq, hE⟩, hBs⟩, hlk⟩ ⟨hxk, g, rfl, hg1, hg2, hxf, hxb⟩ hlen
    dsimp only at hxk hxf hxb
    subst hxk
    have hE := ((hE.fv hxf).blkI hxb).trail (Trail.refl (B := Wr.heap.size) (n₀ := w.heap.size) (Bs := Pp + 1) W hBs hE.bel.size)
    clear hxf hxb
    have hmx : Tryz.prog.follows .mixedOrders = true := by kernel_rfl
    have hM := HhM.out
    have lq : fl (pr f pre.length) ≤ 256 := Nat.le_trans (pr_fl HhRts.out (show pre.length ≤ 200 by omega)) (by omega)
    have lx : fl (f pre.length) ≤ 256 := Nat.le_trans (rate_fl HhRts.out (show pre.length < 200 by omega)) (by decide)
    have lo : fl (1 - f pre.length) ≤ 256 := Nat.le_trans (other_fl HhRts.out (show pre.length < 200 by omega)) (by decide)
    have lr : fl (pr f pre.length * (1 - f pre.length)) ≤ 256 := Nat.le_trans (pr_fl (k := pre.length + 1) HhRts.out (show pre.length + 1 ≤ 200 by omega)) (by omega)
    have ld : fl (pr f pre.length * f pre.length) ≤ 256 := Nat.le_trans (prd_fl HhRts.out (show pre.length < 200 by omega)) (by omega)
    have hlen2 : (pre ++ [Yr.mk pre.length xs xA xn xc xt xB xm xd]).length = pre.length + 1 := by simp
    clear hM
    by_cases he : pre.length = k
    · have t1 : ((pre.length : Int) == (k : Int)) = true := by rw [beq_iff_eq]; omega
      have HE := Lib.hid he
      clear he
      have Hlq := Lib.hid lq
      clear lq
      have Hlx := Lib.hid lx
      clear lx
      have Hlo := Lib.hid lo
      clear lo
      have Hlr := Lib.hid lr
      clear lr
      have Hhlen2 := Lib.hid hlen2
      clear hlen2
      have Hld := Lib.hid ld
      clear ld
      have k0 := (hE.here.1.1.1.1.1.1.2).c1
      obtain ⟨k1, k2, k3, k4⟩ := (hE.here.1.1.1.2).c4
      obtain ⟨k5, k6, k7, k8⟩ := (hE.here.1.2).c4
      gi_wp2
      skip
      first | refine ⟨trivial, fun _ => by omega, (CallsIn.inRound l (callsIn_wide.2 (ltimes_v (ca := cq) (da := dq) (cb := xc) (db := xd) hE.here.1.1.1.1.2 hE.here.1.1.2 Hlq.out Hlx.out Hld.out))).mono ?_⟩ | refine ⟨trivial, (CallsIn.inRound l (callsIn_wide.2 (ltimes_v (ca := cq) (da := dq) (cb := xc) (db := xd) hE.here.1.1.1.1.2 hE.here.1.1.2 Hlq.out Hlx.out Hld.out))).mono ?_⟩ | refine ⟨trivial, trivial, (CallsIn.inRound l (callsIn_wide.2 (ltimes_v (ca := cq) (da := dq) (cb := xc) (db := xd) hE.here.1.1.1.1.2 hE.here.1.1.2 Hlq.out Hlx.out Hld.out))).mono ?_⟩ | refine ⟨trivial, trivial, fun _ => by omega, (CallsIn.inRound l (callsIn_wide.2 (ltimes_v (ca := cq) (da := dq) (cb := xc) (db := xd) hE.here.1.1.1.1.2 hE.here.1.1.2 Hlq.out Hlx.out Hld.out))).mono ?_⟩
      rintro e w1 ⟨sr, Ar, nr, cr, tr, Br, mr, dr, rfl, hr, hb⟩
      replace hE := hE.step hb
      clear hb
      replace hE := hE.fv hr
      clear hr
      clear k0 k1 k2 k3 k4 k5 k6 k7 k8
      have hgl2 : w.heap.size ≤ w.heap.size + 1 + 1 := by omega
      obtain ⟨x2_0, x2_1, x2_2, x2_3⟩ := (hE.here.1.1.1.1.1.1.2).c4
      have f2_0 := (hE.here.1.1.1.1.1.1.2).frozen 0
      have f2_1 := (hE.here.1.1.1.1.1.1.2).frozen 1
      have f2_2 := (hE.here.1.1.1.1.1.1.2).frozen 2
      have f2_3 := (hE.here.1.1.1.1.1.1.2).frozen 3
      replace hE := (((((((((Env.again (bel4 hE.bel hgl2 (.bool sr) (.slice Ar nr cr) (.bool tr) (.slice Br mr dr))).blkI ((hE.here.1.1.1.1.1.1.1.2).far4 (R := w.heap.size + 1 + 1) (by omega) (.bool sr) (.slice Ar nr cr) (.bool tr) (.slice Br mr dr))).blkI ((hE.here.1.1.1.1.1.1.2).s4 (.bool sr) (.slice Ar nr cr) (.bool tr) (.slice Br mr dr))).fv ((hE.here.1.1.1.1.1.2).sep4 hE.here.1.1.1.1.1.1.2 rfl (.bool sr) (.slice Ar nr cr) (.bool tr) (.slice Br mr dr) rfl rfl rfl)).blkI ((hE.here.1.1.1.1.2).far4 (R := w.heap.size + 1 + 1) (by omega) (.bool sr) (.slice Ar nr cr) (.bool tr) (.slice Br mr dr))).fv ((hE.here.1.1.1.2).sep4 hE.here.1.1.1.1.1.1.2 rfl (.bool sr) (.slice Ar nr cr) (.bool tr) (.slice Br mr dr) rfl rfl rfl)).blkI ((hE.here.1.1.2).far4 (R := w.heap.size + 1 + 1) (by omega) (.bool sr) (.slice Ar nr cr) (.bool tr) (.slice Br mr dr))).trail ((hE.here.1.2).set4 ⟨by omega, by omega, by omega⟩ (.bool sr) (.slice Ar nr cr) (.bool tr) (.slice Br mr dr))).fv ((hE.here.2).sep4 hE.here.1.1.1.1.1.1.2 rfl (.bool sr) (.slice Ar nr cr) (.bool tr) (.slice Br mr dr) rfl rfl rfl))
      gi_wp2
      clear x2_0 x2_1 x2_2 x2_3 f2_0 f2_1 f2_2 f2_3 hgl2
      generalize ((((w1.setCell ⟨w.heap.size + 1 + 1, 0, none⟩ (.bool sr)).setCell ⟨w.heap.size + 1 + 1, 1, none⟩ (.slice Ar nr cr)).setCell ⟨w.heap.size + 1 + 1, 2, none⟩ (.bool tr)).setCell ⟨w.heap.size + 1 + 1, 3, none⟩ (.slice Br mr dr)) = W2 at hE ⊢
      have hI2 : RInv w (w.heap.size + 1 + 1) (pr f pre.length * f pre.length) W2 := ⟨_, _, _, _, _, _, _, _, ((Env.again hE.bel).fv (hE.here.2)).blkI (hE.here.1.1.1.1.1.1.2)⟩
      rw [HE.out] at hI2
      exact ⟨(hE.here.1.2).keeps, rfl, hI2⟩
    · have t1 : ((pre.length : Int) == (k : Int)) = false := by rw [beq_eq_false_iff_ne]; omega
      have HE := Lib.hid he
      clear he
      have Hlq := Lib.hid lq
      clear lq
      have Hlx := Lib.hid lx
      clear lx
      have Hlo := Lib.hid lo
      clear lo
      have Hlr := Lib.hid lr
      clear lr
      have Hhlen2 := Lib.hid hlen2
      clear hlen2
      have Hld := Lib.hid ld
      clear ld
      have k0 := (hE.here.1.1.1.1.1.1.2).c1
      gi_wp2
      clear k0 t1
      refine wpIn_region_any (by assumption) ?_
      replace hE := hE.drew
      change wpAnyIn _ _ _ _ _ _ _ _ _ (W.drew)
      generalize W.drew = wd at hE ⊢
      refine wpAnyIn_ready (rs := [0, 1]) (by kernel_rfl) (by simp) ?_
      refine AllReadyIn.cons rfl (fun K hK => ?_) ?_
      · skip
        obtain ⟨k3, k4, k5, k6⟩ := (hE.here.1.1.1.2).c4
        obtain ⟨k7, k8, k9, k10⟩ := (hE.here.1.2).c4
        go_simp
        refine hK _ _ ?_
        clear hK K
        try simp only [Act.put, List.setIfInBounds_toArray, List.set_cons_zero, List.set_cons_succ, List.getElem_toArray, List.getElem_cons_succ, List.getElem_cons_zero]
        clear k3 k4 k5 k6 k7 k8 k9 k10
        refine wpAnyIn_ready (rs := [1]) (by kernel_rfl) (by simp) ?_
        refine AllReadyIn.cons rfl (fun K hK => ?_) ?_
        · skip
          obtain ⟨k11, k12, k13, k14⟩ := (hE.here.1.1.1.2).c4
          obtain ⟨k15, k16, k17, k18⟩ := (hE.here.1.2).c4
          go_simp
          refine hK _ _ ?_
          clear hK K
          try simp only [Act.put, List.setIfInBounds_toArray, List.set_cons_zero, List.set_cons_succ, List.getElem_toArray, List.getElem_cons_succ, List.getElem_cons_zero]
          clear k11 k12 k13 k14 k15 k16 k17 k18
          refine wpAnyIn_ready (rs := [2]) (by kernel_rfl) (by simp) ?_
          refine AllReadyIn.cons rfl (fun K hK => ?_) ?_
          · skip
            go_simp
            skip
            first | refine ⟨trivial, fun _ => by omega, (CallsIn.inRound l (callsIn_wide.2 (lother_v (ca := xc) (da := xd) hE.here.1.1.2 Hlx.out Hlo.out))).mono ?_⟩ | refine ⟨trivial, (CallsIn.inRound l (callsIn_wide.2 (lother_v (ca := xc) (da := xd) hE.here.1.1.2 Hlx.out Hlo.out))).mono ?_⟩ | refine ⟨trivial, trivial, (CallsIn.inRound l (callsIn_wide.2 (lother_v (ca := xc) (da := xd) hE.here.1.1.2 Hlx.out Hlo.out))).mono ?_⟩ | refine ⟨trivial, trivial, fun _ => by omega, (CallsIn.inRound l (callsIn_wide.2 (lother_v (ca := xc) (da := xd) hE.here.1.1.2 Hlx.out Hlo.out))).mono ?_⟩
            rintro e w19 ⟨so, Ao, no, co, ti, Bo, mo, dob, rfl, ho, hb⟩
            replace hE := hE.step hb
            clear hb
            replace hE := hE.fv ho
            clear ho
            refine hK _ _ ?_
            clear hK K
            try simp only [Act.put, List.setIfInBounds_toArray, List.set_cons_zero, List.set_cons_succ, List.getElem_toArray, List.getElem_cons_succ, List.getElem_cons_zero]
            refine wpAnyIn_ready (rs := [3]) (by kernel_rfl) (by simp) ?_
            refine AllReadyIn.cons rfl (fun K hK => ?_) ?_
            · skip
              go_simp
              skip
              first | refine ⟨trivial, fun _ => by omega, (CallsIn.inRound l (callsIn_wide.2 (ltimes_v (ca := cq) (da := dq) (cb := co) (db := dob) hE.here.1.1.1.1.1.2 hE.here.2 Hlq.out Hlo.out Hlr.out))).mono ?_⟩ | refine ⟨trivial, (CallsIn.inRound l (callsIn_wide.2 (ltimes_v (ca := cq) (da := dq) (cb := co) (db := dob) hE.here.1.1.1.1.1.2 hE.here.2 Hlq.out Hlo.out Hlr.out))).mono ?_⟩ | refine ⟨trivial, trivial, (CallsIn.inRound l (callsIn_wide.2 (ltimes_v (ca := cq) (da := dq) (cb := co) (db := dob) hE.here.1.1.1.1.1.2 hE.here.2 Hlq.out Hlo.out Hlr.out))).mono ?_⟩ | refine ⟨trivial, trivial, fun _ => by omega, (CallsIn.inRound l (callsIn_wide.2 (ltimes_v (ca := cq) (da := dq) (cb := co) (db := dob) hE.here.1.1.1.1.1.2 hE.here.2 Hlq.out Hlo.out Hlr.out))).mono ?_⟩
              rintro e w20 ⟨sz, Az, nz, cz, tz, Bz, mz, dz, rfl, hz, hb⟩
              replace hE := hE.step hb
              clear hb
              replace hE := hE.fv hz
              clear hz
              refine hK _ _ ?_
              clear hK K
              try simp only [Act.put, List.setIfInBounds_toArray, List.set_cons_zero, List.set_cons_succ, List.getElem_toArray, List.getElem_cons_succ, List.getElem_cons_zero]
              refine wpAnyIn_ready (rs := [4]) (by kernel_rfl) (by simp) ?_
              refine AllReadyIn.cons rfl (fun K hK => ?_) ?_
              · skip
                have hgl21 : w.heap.size ≤ Pp := by omega
                obtain ⟨x21_0, x21_1, x21_2, x21_3⟩ := (hE.here.1.1.1.1.1.2).c4
                have f21_0 := (hE.here.1.1.1.1.1.2).frozen 0
                have f21_1 := (hE.here.1.1.1.1.1.2).frozen 1
                have f21_2 := (hE.here.1.1.1.1.1.2).frozen 2
                have f21_3 := (hE.here.1.1.1.1.1.2).frozen 3
                replace hE := ((((((((((Env.again (bel4 hE.bel hgl21 (.bool sz) (.slice Az nz cz) (.bool tz) (.slice Bz mz dz))).blkI ((hE.here.1.1.1.1.1.1.1.1.2).far4 (R := Pp) (by omega) (.bool sz) (.slice Az nz cz) (.bool tz) (.slice Bz mz dz))).blkI ((hE.here.1.1.1.1.1.1.1.2).far4 (R := Pp) (by omega) (.bool sz) (.slice Az nz cz) (.bool tz) (.slice Bz mz dz))).fv ((hE.here.1.1.1.1.1.1.2).sep4 hE.here.1.1.1.1.1.2 rfl (.bool sz) (.slice Az nz cz) (.bool tz) (.slice Bz mz dz) rfl rfl rfl)).blkI ((hE.here.1.1.1.1.1.2).s4 (.bool sz) (.slice Az nz cz) (.bool tz) (.slice Bz mz dz))).fv ((hE.here.1.1.1.1.2).sep4 hE.here.1.1.1.1.1.2 rfl (.bool sz) (.slice Az nz cz) (.bool tz) (.slice Bz mz dz) rfl rfl rfl)).blkI ((hE.here.1.1.1.2).far4 (R := Pp) (by omega) (.bool sz) (.slice Az nz cz) (.bool tz) (.slice Bz mz dz))).trail ((hE.here.1.1.2).set4 ⟨by omega, by omega, by omega⟩ (.bool sz) (.slice Az nz cz) (.bool tz) (.slice Bz mz dz))).fv ((hE.here.1.2).sep4 hE.here.1.1.1.1.1.2 rfl (.bool sz) (.slice Az nz cz) (.bool tz) (.slice Bz mz dz) rfl rfl rfl)).fv ((hE.here.2).sep4 hE.here.1.1.1.1.1.2 rfl (.bool sz) (.slice Az nz cz) (.bool tz) (.slice Bz mz dz) rfl rfl rfl))
                go_simp
                clear x21_0 x21_1 x21_2 x21_3 f21_0 f21_1 f21_2 f21_3 hgl21
                generalize ((((w20.setCell ⟨Pp, 0, none⟩ (.bool sz)).setCell ⟨Pp, 1, none⟩ (.slice Az nz cz)).setCell ⟨Pp, 2, none⟩ (.bool tz)).setCell ⟨Pp, 3, none⟩ (.slice Bz mz dz)) = W21 at hE ⊢
                refine hK _ _ ?_
                clear hK K
                try simp only [Act.put, List.setIfInBounds_toArray, List.set_cons_zero, List.set_cons_succ, List.getElem_toArray, List.getElem_cons_succ, List.getElem_cons_zero]
                refine wpAnyIn_done (by kernel_rfl) ?_ _
                refine ⟨(hE.here.1.1.2).keeps, (hE.here.1.1.2).kp, ⟨?_, (hE.here.1.1.2).hs⟩, ?_⟩
                · show AInv _ _ _ _ _ (pr f (pre ++ [Yr.mk pre.length xs xA xn xc xt xB xm xd]).length) _
                  rw [Hhlen2.out]
                  exact ⟨_, _, _, _, _, _, _, _, ((((Env.again hE.bel).blkI (hE.here.1.1.1.1.1.1.1.1.2)).blkI (hE.here.1.1.1.1.1.1.1.2)).fv (hE.here.2)).blkI (hE.here.1.1.1.1.1.2)⟩
                · show (pre ++ [Yr.mk pre.length xs xA xn xc xt xB xm xd]).length ≤ k
                  rw [Hhlen2.out]; have := HE.out; omega
              exact AllReadyIn.nil
            exact AllReadyIn.nil
          exact AllReadyIn.nil
        exact AllReadyIn.nil
      refine AllReadyIn.cons rfl (fun K hK => ?_) ?_
      · skip
        obtain ⟨k22, k23, k24, k25⟩ := (hE.here.1.1.1.2).c4
        obtain ⟨k26, k27, k28, k29⟩ := (hE.here.1.2).c4
        go_simp
        refine hK _ _ ?_
        clear hK K
        try simp only [Act.put, List.setIfInBounds_toArray, List.set_cons_zero, List.set_cons_succ, List.getElem_toArray, List.getElem_cons_succ, List.getElem_cons_zero]
        clear k22 k23 k24 k25 k26 k27 k28 k29
        refine wpAnyIn_ready (rs := [0, 2]) (by kernel_rfl) (by simp) ?_
        refine AllReadyIn.cons rfl (fun K hK => ?_) ?_
        · skip
          obtain ⟨k30, k31, k32, k33⟩ := (hE.here.1.1.1.2).c4
          obtain ⟨k34, k35, k36, k37⟩ := (hE.here.1.2).c4
          go_simp
          refine hK _ _ ?_
          clear hK K
          try simp only [Act.put, List.setIfInBounds_toArray, List.set_cons_zero, List.set_cons_succ, List.getElem_toArray, List.getElem_cons_succ, List.getElem_cons_zero]
          clear k30 k31 k32 k33 k34 k35 k36 k37
          refine wpAnyIn_ready (rs := [2]) (by kernel_rfl) (by simp) ?_
          refine AllReadyIn.cons rfl (fun K hK => ?_) ?_
          · skip
            go_simp
            skip
            first | refine ⟨trivial, fun _ => by omega, (CallsIn.inRound l (callsIn_wide.2 (lother_v (ca := xc) (da := xd) hE.here.1.1.2 Hlx.out Hlo.out))).mono ?_⟩ | refine ⟨trivial, (CallsIn.inRound l (callsIn_wide.2 (lother_v (ca := xc) (da := xd) hE.here.1.1.2 Hlx.out Hlo.out))).mono ?_⟩ | refine ⟨trivial, trivial, (CallsIn.inRound l (callsIn_wide.2 (lother_v (ca := xc) (da := xd) hE.here.1.1.2 Hlx.out Hlo.out))).mono ?_⟩ | refine ⟨trivial, trivial, fun _ => by omega, (CallsIn.inRound l (callsIn_wide.2 (lother_v (ca := xc) (da := xd) hE.here.1.1.2 Hlx.out Hlo.out))).mono ?_⟩
            rintro e w38 ⟨so, Ao, no, co, ti, Bo, mo, dob, rfl, ho, hb⟩
            replace hE := hE.step hb
            clear hb
            replace hE := hE.fv ho
            clear ho
            refine hK _ _ ?_
            clear hK K
            try simp only [Act.put, List.setIfInBounds_toArray, List.set_cons_zero, List.set_cons_succ, List.getElem_toArray, List.getElem_cons_succ, List.getElem_cons_zero]
            refine wpAnyIn_ready (rs := [3]) (by kernel_rfl) (by simp) ?_
            refine AllReadyIn.cons rfl (fun K hK => ?_) ?_
            · skip
              go_simp
              skip
              first | refine ⟨trivial, fun _ => by omega, (CallsIn.inRound l (callsIn_wide.2 (ltimes_v (ca := cq) (da := dq) (cb := co) (db := dob) hE.here.1.1.1.1.1.2 hE.here.2 Hlq.out Hlo.out Hlr.out))).mono ?_⟩ | refine ⟨trivial, (CallsIn.inRound l (callsIn_wide.2 (ltimes_v (ca := cq) (da := dq) (cb := co) (db := dob) hE.here.1.1.1.1.1.2 hE.here.2 Hlq.out Hlo.out Hlr.out))).mono ?_⟩ | refine ⟨trivial, trivial, (CallsIn.inRound l (callsIn_wide.2 (ltimes_v (ca := cq) (da := dq) (cb := co) (db := dob) hE.here.1.1.1.1.1.2 hE.here.2 Hlq.out Hlo.out Hlr.out))).mono ?_⟩ | refine ⟨trivial, trivial, fun _ => by omega, (CallsIn.inRound l (callsIn_wide.2 (ltimes_v (ca := cq) (da := dq) (cb := co) (db := dob) hE.here.1.1.1.1.1.2 hE.here.2 Hlq.out Hlo.out Hlr.out))).mono ?_⟩
              rintro e w39 ⟨sz, Az, nz, cz, tz, Bz, mz, dz, rfl, hz, hb⟩
              replace hE := hE.step hb
              clear hb
              replace hE := hE.fv hz
              clear hz
              refine hK _ _ ?_
              clear hK K
              try simp only [Act.put, List.setIfInBounds_toArray, List.set_cons_zero, List.set_cons_succ, List.getElem_toArray, List.getElem_cons_succ, List.getElem_cons_zero]
              refine wpAnyIn_ready (rs := [4]) (by kernel_rfl) (by simp) ?_
              refine AllReadyIn.cons rfl (fun K hK => ?_) ?_
              · skip
                have hgl40 : w.heap.size ≤ Pp := by omega
                obtain ⟨x40_0, x40_1, x40_2, x40_3⟩ := (hE.here.1.1.1.1.1.2).c4
                have f40_0 := (hE.here.1.1.1.1.1.2).frozen 0
                have f40_1 := (hE.here.1.1.1.1.1.2).frozen 1
                have f40_2 := (hE.here.1.1.1.1.1.2).frozen 2
                have f40_3 := (hE.here.1.1.1.1.1.2).frozen 3
                replace hE := ((((((((((Env.again (bel4 hE.bel hgl40 (.bool sz) (.slice Az nz cz) (.bool tz) (.slice Bz mz dz))).blkI ((hE.here.1.1.1.1.1.1.1.1.2).far4 (R := Pp) (by omega) (.bool sz) (.slice Az nz cz) (.bool tz) (.slice Bz mz dz))).blkI ((hE.here.1.1.1.1.1.1.1.2).far4 (R := Pp) (by omega) (.bool sz) (.slice Az nz cz) (.bool tz) (.slice Bz mz dz))).fv ((hE.here.1.1.1.1.1.1.2).sep4 hE.here.1.1.1.1.1.2 rfl (.bool sz) (.slice Az nz cz) (.bool tz) (.slice Bz mz dz) rfl rfl rfl)).blkI ((hE.here.1.1.1.1.1.2).s4 (.bool sz) (.slice Az nz cz) (.bool tz) (.slice Bz mz dz))).fv ((hE.here.1.1.1.1.2).sep4 hE.here.1.1.1.1.1.2 rfl (.bool sz) (.slice Az nz cz) (.bool tz) (.slice Bz mz dz) rfl rfl rfl)).blkI ((hE.here.1.1.1.2).far4 (R := Pp) (by omega) (.bool sz) (.slice Az nz cz) (.bool tz) (.slice Bz mz dz))).trail ((hE.here.1.1.2).set4 ⟨by omega, by omega, by omega⟩ (.bool sz) (.slice Az nz cz) (.bool tz) (.slice Bz mz dz))).fv ((hE.here.1.2).sep4 hE.here.1.1.1.1.1.2 rfl (.bool sz) (.slice Az nz cz) (.bool tz) (.slice Bz mz dz) rfl rfl rfl)).fv ((hE.here.2).sep4 hE.here.1.1.1.1.1.2 rfl (.bool sz) (.slice Az nz cz) (.bool tz) (.slice Bz mz dz) rfl rfl rfl))
                go_simp
                clear x40_0 x40_1 x40_2 x40_3 f40_0 f40_1 f40_2 f40_3 hgl40
                generalize ((((w39.setCell ⟨Pp, 0, none⟩ (.bool sz)).setCell ⟨Pp, 1, none⟩ (.slice Az nz cz)).setCell ⟨Pp, 2, none⟩ (.bool tz)).setCell ⟨Pp, 3, none⟩ (.slice Bz mz dz)) = W40 at hE ⊢
                refine hK _ _ ?_
                clear hK K
                try simp only [Act.put, List.setIfInBounds_toArray, List.set_cons_zero, List.set_cons_succ, List.getElem_toArray, List.getElem_cons_succ, List.getElem_cons_zero]
                refine wpAnyIn_done (by kernel_rfl) ?_ _
                refine ⟨(hE.here.1.1.2).keeps, (hE.here.1.1.2).kp, ⟨?_, (hE.here.1.1.2).hs⟩, ?_⟩
                · show AInv _ _ _ _ _ (pr f (pre ++ [Yr.mk pre.length xs xA xn xc xt xB xm xd]).length) _
                  rw [Hhlen2.out]
                  exact ⟨_, _, _, _, _, _, _, _, ((((Env.again hE.bel).blkI (hE.here.1.1.1.1.1.1.1.1.2)).blkI (hE.here.1.1.1.1.1.1.1.2)).fv (hE.here.2)).blkI (hE.here.1.1.1.1.1.2)⟩
                · show (pre ++ [Yr.mk pre.length xs xA xn xc xt xB xm xd]).length ≤ k
                  rw [Hhlen2.out]; have := HE.out; omega
              exact AllReadyIn.nil
            exact AllReadyIn.nil
          exact AllReadyIn.nil
        refine AllReadyIn.cons rfl (fun K hK => ?_) ?_
        · skip
          go_simp
          skip
          first | refine ⟨trivial, fun _ => by omega, (CallsIn.inRound l (callsIn_wide.2 (lother_v (ca := xc) (da := xd) hE.here.1.1.2 Hlx.out Hlo.out))).mono ?_⟩ | refine ⟨trivial, (CallsIn.inRound l (callsIn_wide.2 (lother_v (ca := xc) (da := xd) hE.here.1.1.2 Hlx.out Hlo.out))).mono ?_⟩ | refine ⟨trivial, trivial, (CallsIn.inRound l (callsIn_wide.2 (lother_v (ca := xc) (da := xd) hE.here.1.1.2 Hlx.out Hlo.out))).mono ?_⟩ | refine ⟨trivial, trivial, fun _ => by omega, (CallsIn.inRound l (callsIn_wide.2 (lother_v (ca := xc) (da := xd) hE.here.1.1.2 Hlx.out Hlo.out))).mono ?_⟩
          rintro e w41 ⟨so, Ao, no, co, ti, Bo, mo, dob, rfl, ho, hb⟩
          replace hE := hE.step hb
          clear hb
          replace hE := hE.fv ho
          clear ho
          refine hK _ _ ?_
          clear hK K
          try simp only [Act.put, List.setIfInBounds_toArray, List.set_cons_zero, List.set_cons_succ, List.getElem_toArray, List.getElem_cons_succ, List.getElem_cons_zero]
          refine wpAnyIn_ready (rs := [0]) (by kernel_rfl) (by simp) ?_
          refine AllReadyIn.cons rfl (fun K hK => ?_) ?_
          · skip
            obtain ⟨k42, k43, k44, k45⟩ := (hE.here.1.1.1.1.2).c4
            obtain ⟨k46, k47, k48, k49⟩ := (hE.here.1.1.2).c4
            go_simp
            refine hK _ _ ?_
            clear hK K
            try simp only [Act.put, List.setIfInBounds_toArray, List.set_cons_zero, List.set_cons_succ, List.getElem_toArray, List.getElem_cons_succ, List.getElem_cons_zero]
            clear k42 k43 k44 k45 k46 k47 k48 k49
            refine wpAnyIn_ready (rs := [3]) (by kernel_rfl) (by simp) ?_
            refine AllReadyIn.cons rfl (fun K hK => ?_) ?_
            · skip
              go_simp
              skip
              first | refine ⟨trivial, fun _ => by omega, (CallsIn.inRound l (callsIn_wide.2 (ltimes_v (ca := cq) (da := dq) (cb := co) (db := dob) hE.here.1.1.1.1.1.2 hE.here.2 Hlq.out Hlo.out Hlr.out))).mono ?_⟩ | refine ⟨trivial, (CallsIn.inRound l (callsIn_wide.2 (ltimes_v (ca := cq) (da := dq) (cb := co) (db := dob) hE.here.1.1.1.1.1.2 hE.here.2 Hlq.out Hlo.out Hlr.out))).mono ?_⟩ | refine ⟨trivial, trivial, (CallsIn.inRound l (callsIn_wide.2 (ltimes_v (ca := cq) (da := dq) (cb := co) (db := dob) hE.here.1.1.1.1.1.2 hE.here.2 Hlq.out Hlo.out Hlr.out))).mono ?_⟩ | refine ⟨trivial, trivial, fun _ => by omega, (CallsIn.inRound l (callsIn_wide.2 (ltimes_v (ca := cq) (da := dq) (cb := co) (db := dob) hE.here.1.1.1.1.1.2 hE.here.2 Hlq.out Hlo.out Hlr.out))).mono ?_⟩
              rintro e w50 ⟨sz, Az, nz, cz, tz, Bz, mz, dz, rfl, hz, hb⟩
              replace hE := hE.step hb
              clear hb
              replace hE := hE.fv hz
              clear hz
              refine hK _ _ ?_
              clear hK K
              try simp only [Act.put, List.setIfInBounds_toArray, List.set_cons_zero, List.set_cons_succ, List.getElem_toArray, List.getElem_cons_succ, List.getElem_cons_zero]
              refine wpAnyIn_ready (rs := [4]) (by kernel_rfl) (by simp) ?_
              refine AllReadyIn.cons rfl (fun K hK => ?_) ?_
              · skip
                have hgl51 : w.heap.size ≤ Pp := by omega
                obtain ⟨x51_0, x51_1, x51_2, x51_3⟩ := (hE.here.1.1.1.1.1.2).c4
                have f51_0 := (hE.here.1.1.1.1.1.2).frozen 0
                have f51_1 := (hE.here.1.1.1.1.1.2).frozen 1
                have f51_2 := (hE.here.1.1.1.1.1.2).frozen 2
                have f51_3 := (hE.here.1.1.1.1.1.2).frozen 3
                replace hE := ((((((((((Env.again (bel4 hE.bel hgl51 (.bool sz) (.slice Az nz cz) (.bool tz) (.slice Bz mz dz))).blkI ((hE.here.1.1.1.1.1.1.1.1.2).far4 (R := Pp) (by omega) (.bool sz) (.slice Az nz cz) (.bool tz) (.slice Bz mz dz))).blkI ((hE.here.1.1.1.1.1.1.1.2).far4 (R := Pp) (by omega) (.bool sz) (.slice Az nz cz) (.bool tz) (.slice Bz mz dz))).fv ((hE.here.1.1.1.1.1.1.2).sep4 hE.here.1.1.1.1.1.2 rfl (.bool sz) (.slice Az nz cz) (.bool tz) (.slice Bz mz dz) rfl rfl rfl)).blkI ((hE.here.1.1.1.1.1.2).s4 (.bool sz) (.slice Az nz cz) (.bool tz) (.slice Bz mz dz))).fv ((hE.here.1.1.1.1.2).sep4 hE.here.1.1.1.1.1.2 rfl (.bool sz) (.slice Az nz cz) (.bool tz) (.slice Bz mz dz) rfl rfl rfl)).blkI ((hE.here.1.1.1.2).far4 (R := Pp) (by omega) (.bool sz) (.slice Az nz cz) (.bool tz) (.slice Bz mz dz))).trail ((hE.here.1.1.2).set4 ⟨by omega, by omega, by omega⟩ (.bool sz) (.slice Az nz cz) (.bool tz) (.slice Bz mz dz))).fv ((hE.here.1.2).sep4 hE.here.1.1.1.1.1.2 rfl (.bool sz) (.slice Az nz cz) (.bool tz) (.slice Bz mz dz) rfl rfl rfl)).fv ((hE.here.2).sep4 hE.here.1.1.1.1.1.2 rfl (.bool sz) (.slice Az nz cz) (.bool tz) (.slice Bz mz dz) rfl rfl rfl))
                go_simp
                clear x51_0 x51_1 x51_2 x51_3 f51_0 f51_1 f51_2 f51_3 hgl51
                generalize ((((w50.setCell ⟨Pp, 0, none⟩ (.bool sz)).setCell ⟨Pp, 1, none⟩ (.slice Az nz cz)).setCell ⟨Pp, 2, none⟩ (.bool tz)).setCell ⟨Pp, 3, none⟩ (.slice Bz mz dz)) = W51 at hE ⊢
                refine hK _ _ ?_
                clear hK K
                try simp only [Act.put, List.setIfInBounds_toArray, List.set_cons_zero, List.set_cons_succ, List.getElem_toArray, List.getElem_cons_succ, List.getElem_cons_zero]
                refine wpAnyIn_done (by kernel_rfl) ?_ _
                refine ⟨(hE.here.1.1.2).keeps, (hE.here.1.1.2).kp, ⟨?_, (hE.here.1.1.2).hs⟩, ?_⟩
                · show AInv _ _ _ _ _ (pr f (pre ++ [Yr.mk pre.length xs xA xn xc xt xB xm xd]).length) _
                  rw [Hhlen2.out]
                  exact ⟨_, _, _, _, _, _, _, _, ((((Env.again hE.bel).blkI (hE.here.1.1.1.1.1.1.1.1.2)).blkI (hE.here.1.1.1.1.1.1.1.2)).fv (hE.here.2)).blkI (hE.here.1.1.1.1.1.2)⟩
                · show (pre ++ [Yr.mk pre.length xs xA xn xc xt xB xm xd]).length ≤ k
                  rw [Hhlen2.out]; have := HE.out; omega
              exact AllReadyIn.nil
            exact AllReadyIn.nil
          exact AllReadyIn.nil
        exact AllReadyIn.nil
      exact AllReadyIn.nil
  case done =>
    rintro D ys W hD hS ⟨⟨hI, hBs⟩, hlk⟩ hK
    have hz : (0 : Rat) = pr f k * f k := by
      rw [hS.length] at hlk
      rw [pr_stop HhfM.out k (by omega), Rat.zero_mul]
    obtain ⟨sq, Aq, nq, cq, tq, Bq, mq, dq, hE⟩ := hI
    have hE := hE.def_ hK
    clear hK
    gi_wp2
    skip
    first | refine ⟨trivial, fun _ => by omega, (callsIn_wide.2 (ffromInt_v 0 _ (by decide) (by decide))).mono ?_⟩ | refine ⟨trivial, (callsIn_wide.2 (ffromInt_v 0 _ (by decide) (by decide))).mono ?_⟩ | refine ⟨trivial, trivial, (callsIn_wide.2 (ffromInt_v 0 _ (by decide) (by decide))).mono ?_⟩ | refine ⟨trivial, trivial, fun _ => by omega, (callsIn_wide.2 (ffromInt_v 0 _ (by decide) (by decide))).mono ?_⟩
    rintro e w52 ⟨sr, Ar, nr, cr, tr, Br, mr, dr, rfl, hr, hb⟩
    replace hE := hE.step hb
    clear hb
    replace hE := hE.fv hr
    clear hr
    have hgl53 : w.heap.size ≤ w.heap.size + 1 + 1 := by omega
    obtain ⟨x53_0, x53_1, x53_2, x53_3⟩ := (hE.here.1.1.1.1.2).c4
    have f53_0 := (hE.here.1.1.1.1.2).frozen 0
    have f53_1 := (hE.here.1.1.1.1.2).frozen 1
    have f53_2 := (hE.here.1.1.1.1.2).frozen 2
    have f53_3 := (hE.here.1.1.1.1.2).frozen 3
    replace hE := (((((((Env.again (bel4 hE.bel hgl53 (.bool sr) (.slice Ar nr cr) (.bool tr) (.slice Br mr dr))).blkI ((hE.here.1.1.1.1.1.2).far4 (R := w.heap.size + 1 + 1) (by omega) (.bool sr) (.slice Ar nr cr) (.bool tr) (.slice Br mr dr))).blkI ((hE.here.1.1.1.1.2).s4 (.bool sr) (.slice Ar nr cr) (.bool tr) (.slice Br mr dr))).fv ((hE.here.1.1.1.2).sep4 hE.here.1.1.1.1.2 rfl (.bool sr) (.slice Ar nr cr) (.bool tr) (.slice Br mr dr) rfl rfl rfl)).blkI ((hE.here.1.1.2).far4 (R := w.heap.size + 1 + 1) (by omega) (.bool sr) (.slice Ar nr cr) (.bool tr) (.slice Br mr dr))).def_ ((heap_set4 (by omega) (.bool sr) (.slice Ar nr cr) (.bool tr) (.slice Br mr dr)).trans (hE.here.1.2))).fv ((hE.here.2).sep4 hE.here.1.1.1.1.2 rfl (.bool sr) (.slice Ar nr cr) (.bool tr) (.slice Br mr dr) rfl rfl rfl))
    gi_wp2
    clear x53_0 x53_1 x53_2 x53_3 f53_0 f53_1 f53_2 f53_3 hgl53
    generalize ((((w52.setCell ⟨w.heap.size + 1 + 1, 0, none⟩ (.bool sr)).setCell ⟨w.heap.size + 1 + 1, 1, none⟩ (.slice Ar nr cr)).setCell ⟨w.heap.size + 1 + 1, 2, none⟩ (.bool tr)).setCell ⟨w.heap.size + 1 + 1, 3, none⟩ (.slice Br mr dr)) = W53 at hE ⊢
    have hfv := hE.here.2
    rw [show (((0 : Int) : Rat)) = 0 from rfl, hz] at hfv
    obtain ⟨hB2, hV2, hb2⟩ := leave_frac (hE.here.1.1.1.1.2) hfv hE.bel (show w.heap.size ≤ D by omega) (show D ≠ w.heap.size + 1 + 1 by omega) (hE.here.1.2) (.deferred none)
    refine ⟨by simp, .inl ⟨_, _, rfl, run_takeDeferred (hE.here.1.2), ?_⟩⟩
    obtain ⟨y0, y1, y2, y3⟩ := hB2.c4
    exact ⟨.agg #[.bool sr, .slice Ar nr cr, .bool tr, .slice Br mr dr], by simp [results, Tryz.results63, go_sem, y0, y1, y2, y3], sr, Ar, nr, cr, tr, Br, mr, dr, rfl, hV2, hb2⟩
  case stop =>
    rintro D c pre W hD _ ⟨rfl, sr, Ar, nr, cr, tr, Br, mr, dr, hE⟩ hK
    gi_wp2
    obtain ⟨hB2, hV2, hb2⟩ := leave_frac hE.here.2 hE.here.1.2 hE.bel (show w.heap.size ≤ D by omega) (show D ≠ w.heap.size + 1 + 1 by omega) hK (.deferred none)
    refine ⟨by simp, .inl ⟨_, _, rfl, run_takeDeferred hK, ?_⟩⟩
    obtain ⟨y0, y1, y2, y3⟩ := hB2.c4
    exact ⟨.agg #[.bool sr, .slice Ar nr cr, .bool tr, .slice Br mr dr], by simp [results, Tryz.results63, go_sem, y0, y1, y2, y3], sr, Ar, nr, cr, tr, Br, mr, dr, rfl, hV2, hb2⟩
end Go.Proofs.YtgkepllfdhcdpaaGreat
namespace Go.Proofs.YtgkepllfdhcdpaaGreat
open Go.RowKit Go.Shelf
attribute [local go_sem] Oper.semAt_some

set_option linter.unusedSimpArgs false in
set_option maxRecDepth 100000 in
set_option maxHeartbeats 8000000 in
theorem lalive_v {F S E Y : Int} {A : Option Addr} {n c : Nat} {r : Nat → RH} {w : World} (hT : TabM w A n r) (hR : RightP F S n r E Y) (k : Nat) (hk : k ≤ 9223372036854775807) :
    Calls Tryz.prog 62 #[.agg #[.int .i64 F, .int .i64 S, .slice A n c, .int .i64 E, .int .i64 Y], .int .i64 (k : Int)] w (FR (pr (fun i => rt F S n r E Y (i : Int)) k) w) := by
  obtain ⟨M, hM, hMa, hMb, hM1⟩ := last_year hR
  have hY200 := fun (Bs n0 : Nat) (h0 : w.heap.size ≤ n0) (W : World) (hb : Below w.heap.size w W) (hBs : Blk 75 Bs #[.int .i64 F, .int .i64 S, .slice A n c, .int .i64 E, .int .i64 Y] W) => years_seq (5 - 1) (by decide) Bs n0 h0 hT hR M (by omega) hMa hMb W hb hBs
  have hRts := rt_rates hT hR 200
  generalize hf : (fun i : Nat => rt F S n r E Y (i : Int)) = f at *
  have hfM : f M = 1 := by rw [← hf]; exact hM1
  refine (callsIn_wide (n := 5)).1 ?_
  have hro : Fence.wide.round = none := rfl
  refine callsIn_of_wp_marks Tryz.func62 rfl trivial ?_ hro
  simp only [Tryz.ntmps62, List.size_toArray, List.length_cons, List.length_nil, Nat.reduceAdd, Nat.reduceSub, Array.replicate_succ, Array.replicate_zero, List.push_toArray, List.append_toArray, List.nil_append, List.cons_append]
  have hE := (((Env.start w).blk 75 #[.int .i64 F, .int .i64 S, .slice A n c, .int .i64 E, .int .i64 Y] (g := w.heap.size) rfl).blk 3 #[.int .i64 (k : Int)] (g := w.heap.size + 1) (by simp)).blk 40 #[.bool false, .slice none 0 0, .bool false, .slice none 0 0] (g := w.heap.size + 1 + 1) (by simp)
  obtain ⟨W0, hW0⟩ : ∃ W0, W0 = (((w.alloc (.cells #[.int .i64 F, .int .i64 S, .slice A n c, .int .i64 E, .int .i64 Y] 75)).alloc (.cells #[.int .i64 (k : Int)] 3)).alloc (.cells #[.bool false, .slice none 0 0, .bool false, .slice none 0 0] 40)) := ⟨_, rfl⟩
  rw [← hW0] at hE
  have HW0 := Lib.hid hW0
  clear hW0
  have HhT := Lib.hid hT
  clear hT
  have HhR := Lib.hid hR
  clear hR
  have HhM := Lib.hid hM
  clear hM
  have HhMa := Lib.hid hMa
  clear hMa
  have HhMb := Lib.hid hMb
  clear hMb
  have HhM1 := Lib.hid hM1
  clear hM1
  have Hhf := Lib.hid hf
  clear hf
  have HhfM := Lib.hid hfM
  clear hfM
  have HhRts := Lib.hid hRts
  clear hRts
  have Hhk := Lib.hid hk
  clear hk
  have HhY200 := Lib.hid hY200
  clear hY200
  gi_wp2
  rw [← HW0.out]
  refine ⟨trivial, (callsIn_wide.2 (ffromInt_v 1 _ (by decide) (by decide))).mono ?_⟩
  rintro e w1 ⟨sp, Ap, np, cp, tp, Bp, mp, dp, rfl, hp, hb⟩
  replace hE := (hE.step hb).fv hp
  clear hb hp
  have hE1 := hE.blk 40 #[.bool sp, .slice Ap np cp, .bool tp, .slice Bp mp dp] (g := w1.heap.size) rfl
  obtain ⟨k1, k2, k3, k4, k5⟩ := (hE1.here.1.1.1.1.2).c5
  clear hE1
  have hPl : w.heap.size + 1 + 1 < w1.heap.size := (hE.here.1.2).lt
  gi_wp2
  refine ⟨trivial, (years_in 4 F S E Y A n c _).mono ?_⟩
  rintro e w2 ⟨rfl, rfl⟩
  gi_wp2
  clear k1 k2 k3 k4 k5
  have hE := (hE.blk 40 #[.bool sp, .slice Ap np cp, .bool tp, .slice Bp mp dp] (g := w1.heap.size) rfl).blk 75 #[.int .i64 F, .int .i64 S, .slice A n c, .int .i64 E, .int .i64 Y] (g := w1.heap.size + 1) (by simp)
  have hb := hE.here.2
  generalize hPp : w1.heap.size = Pp at hE hPl ⊢
  have hsz : ((w1.alloc (.cells #[.bool sp, .slice Ap np cp, .bool tp, .slice Bp mp dp] 40)).alloc (.cells #[.int .i64 F, .int .i64 S, .slice A n c, .int .i64 E, .int .i64 Y] 75)).heap.size = Pp + 2 := by simp [hPp]
  generalize (w1.alloc (.cells #[.bool sp, .slice Ap np cp, .bool tp, .slice Bp mp dp] 40)).alloc (.cells #[.int .i64 F, .int .i64 S, .slice A n c, .int .i64 E, .int .i64 Y] 75) = Wr at hE hsz ⊢
  clear hb hPp
  have hsw : w.heap.size ≤ Wr.heap.size := by omega
  refine rangeV hro (by decide) (gf := 105) (lb := #[.pointer (some ⟨Pp + 1, 0, none⟩)]) rfl trivial (enters_of Tryz.func105 (by kernel_rfl) rfl)
    (HhY200.out (Pp + 1) w.heap.size (Nat.le_refl _) Wr hE.bel hE.here.2) KpB.t (KpB.b hsw (by omega)) (Below.refl _ _) (fun _ => rfl)
    (fun pre W => (AInv w k (w.heap.size + 1) (w.heap.size + 1 + 1) Pp (pr f pre.length) W ∧ Pp + 1 < W.heap.size) ∧ pre.length ≤ k) (fun c _ W => c = .exit 0 ∧ AInv w k (w.heap.size + 1) (w.heap.size + 1 + 1) Pp (pr f k) W)
    (fun s W W' row h hg hr => ⟨⟨AInv.grown hsw k (w.heap.size + 1) (w.heap.size + 1 + 1) Pp _ W W' row h.1.1 hg hr, Nat.lt_of_lt_of_le h.1.2 hg.size⟩, h.2⟩) (fun c s W W' row h hg hr => ⟨h.1, AInv.grown hsw k (w.heap.size + 1) (w.heap.size + 1 + 1) Pp (pr f k) W W' row h.2 hg hr⟩)
    ⟨⟨⟨_, _, _, _, _, _, _, _, ((((Env.again hE.bel).blkI (hE.here.1.1.1.1.2)).blkI (hE.here.1.1.1.2)).fv (hE.here.1.1.2)).blkI (hE.here.1.2)⟩, by omega⟩, Nat.zero_le _⟩
    (AAx f Pp (fun g yv rv => { tmps := #[.agg #[.int .i64 F, .int .i64 S, .slice A n c, .int .i64 E, .int .i64 Y], .int .i64 (k : Int), .pointer (some ⟨w.heap.size, 0, none⟩), .pointer (some ⟨w.heap.size + 1, 0, none⟩), .pointer (some ⟨w.heap.size + 1 + 1, 0, none⟩), .pointer (some ⟨Pp, 0, none⟩), yv, .pointer (some ⟨g, 0, none⟩), .agg #[.bool sp, .slice Ap np cp, .bool tp, .slice Bp mp dp], .agg #[.int .i64 F, .int .i64 S, .slice A n c, .int .i64 E, .int .i64 Y], .func (.func 105) #[] #[.pointer (some ⟨Pp + 1, 0, none⟩)], yv, rv, undef, undef, undef, undef, undef, undef, undef, undef], defers := [] })) (fun pre x a' => fun _ W W' row h hg hr => AAx.grown W W' row h hg hr) ?assign ?body ?done ?stop
  case assign =>
    rintro l pre ⟨xk, xs, xA, xn, xc, xt, xB, xm, xd⟩ W K ⟨⟨hI, hBs⟩, hlk⟩ ⟨hxk, hxf⟩ hK
    dsimp only at hxk hxf
    subst hxk
    have hIa := AInv.step hI ((Below.refl W.heap.size W).alloc (Nat.le_refl _) (.cells #[.bool xs, .slice xA xn xc, .bool xt, .slice xB xm xd] 40))
    have hkf := (KeepsOthers.alloc W (.cells #[.bool xs, .slice xA xn xc, .bool xt, .slice xB xm xd] 40)).from Wr.heap.size
    have hwl : w.heap.size ≤ W.heap.size := by obtain ⟨_, _, _, _, _, _, _, _, h⟩ := hI; exact h.bel.size
    have hkp : KpB w.heap.size (Pp + 1) W (W.alloc (.cells #[.bool xs, .slice xA xn xc, .bool xt, .slice xB xm xd] 40)) := KpB.grown hwl hBs (World.grownBy_alloc W _ none) (fun _ e => by cases e)
    have hfa := hxf.below ((Below.refl W.heap.size W).alloc (Nat.le_refl _) (.cells #[.bool xs, .slice xA xn xc, .bool xt, .slice xB xm xd] 40))
    have hba := Blk.new W 40 #[.bool xs, .slice xA xn xc, .bool xt, .slice xB xm xd]
    have hfin := fun a hax => hK a _ hkf hkp ⟨⟨hIa, by simp; omega⟩, hlk⟩ ⟨rfl, W.heap.size, hax, by omega, by simp, hfa, hba⟩
    have HF := Lib.hid hfin
    clear hfin hK hIa hkf hkp hfa hba hI hxf
    dsimp only [Yr.vals]
    gi_wp2
    exact HF.out _ rfl
  case body =>
    rintro l pre ⟨xk, xs, xA, xn, xc, xt, xB, xm, xd⟩ a' W ⟨⟨⟨sq, Aq, nq, cq, tq, Bq, mq, dq, hE⟩, hBs⟩, hlk⟩ ⟨hxk, g, rfl, hg1, hg2, hxf, hxb⟩ hlen
    dsimp only at hxk hxf hxb
    subst hxk
    have hE := ((hE.fv hxf).blkI hxb).trail (Trail.refl (B := Wr.heap.size) (n₀ := w.heap.size) (Bs := Pp + 1) W hBs hE.bel.size)
    clear hxf hxb
    have hmx : Tryz.prog.follows .mixedOrders = true := by kernel_rfl
    have hM := HhM.out
    have lq : fl (pr f pre.length) ≤ 256 := Nat.le_trans (pr_fl HhRts.out (show pre.length ≤ 200 by omega)) (by omega)
    have lx : fl (f pre.length) ≤ 256 := Nat.le_trans (rate_fl HhRts.out (show pre.length < 200 by omega)) (by decide)
    have lo : fl (1 - f pre.length) ≤ 256 := Nat.le_trans (other_fl HhRts.out (show pre.length < 200 by omega)) (by decide)
    have lr : fl (pr f pre.length * (1 - f pre.length)) ≤ 256 := Nat.le_trans (pr_fl (k := pre.length + 1) HhRts.out (show pre.length + 1 ≤ 200 by omega)) (by omega)
    have hlen2 : (pre ++ [Yr.mk pre.length xs xA xn xc xt xB xm xd]).length = pre.length + 1 := by simp
    clear hM
    by_cases he : pre.length = k
    · have t1 : ((pre.length : Int) == (k : Int)) = true := by rw [beq_iff_eq]; omega
      have HE := Lib.hid he
      clear he
      have Hlq := Lib.hid lq
      clear lq
      have Hlx := Lib.hid lx
      clear lx
      have Hlo := Lib.hid lo
      clear lo
      have Hlr := Lib.hid lr
      clear lr
      have Hhlen2 := Lib.hid hlen2
      clear hlen2
      have k0 := (hE.here.1.1.1.1.1.1.2).c1
      gi_wp2
      have hI2 : AInv w k (w.heap.size + 1) (w.heap.size + 1 + 1) Pp (pr f pre.length) W := ⟨_, _, _, _, _, _, _, _, ((((Env.again hE.bel).blkI (hE.here.1.1.1.1.1.1.2)).blkI (hE.here.1.1.1.1.1.2)).fv (hE.here.1.1.1.1.2)).blkI (hE.here.1.1.1.2)⟩
      rw [HE.out] at hI2
      exact ⟨KeepsFrom.refl _ _, rfl, hI2⟩
    · have t1 : ((pre.length : Int) == (k : Int)) = false := by rw [beq_eq_false_iff_ne]; omega
      have HE := Lib.hid he
      clear he
      have Hlq := Lib.hid lq
      clear lq
      have Hlx := Lib.hid lx
      clear lx
      have Hlo := Lib.hid lo
      clear lo
      have Hlr := Lib.hid lr
      clear lr
      have Hhlen2 := Lib.hid hlen2
      clear hlen2
      have k0 := (hE.here.1.1.1.1.1.1.2).c1
      gi_wp2
      clear k0 t1
      refine wpIn_region_any (by assumption) ?_
      replace hE := hE.drew
      change wpAnyIn _ _ _ _ _ _ _ _ _ (W.drew)
      generalize W.drew = wd at hE ⊢
      refine wpAnyIn_ready (rs := [0, 1]) (by kernel_rfl) (by simp) ?_
      refine AllReadyIn.cons rfl (fun K hK => ?_) ?_
      · skip
        obtain ⟨k1, k2, k3, k4⟩ := (hE.here.1.1.1.2).c4
        obtain ⟨k5, k6, k7, k8⟩ := (hE.here.1.2).c4
        go_simp
        refine hK _ _ ?_
        clear hK K
        try simp only [Act.put, List.setIfInBounds_toArray, List.set_cons_zero, List.set_cons_succ, List.getElem_toArray, List.getElem_cons_succ, List.getElem_cons_zero]
        clear k1 k2 k3 k4 k5 k6 k7 k8
        refine wpAnyIn_ready (rs := [1]) (by kernel_rfl) (by simp) ?_
        refine AllReadyIn.cons rfl (fun K hK => ?_) ?_
        · skip
          obtain ⟨k9, k10, k11, k12⟩ := (hE.here.1.1.1.2).c4
          obtain ⟨k13, k14, k15, k16⟩ := (hE.here.1.2).c4
          go_simp
          refine hK _ _ ?_
          clear hK K
          try simp only [Act.put, List.setIfInBounds_toArray, List.set_cons_zero, List.set_cons_succ, List.getElem_toArray, List.getElem_cons_succ, List.getElem_cons_zero]
          clear k9 k10 k11 k12 k13 k14 k15 k16
          refine wpAnyIn_ready (rs := [2]) (by kernel_rfl) (by simp) ?_
          refine AllReadyIn.cons rfl (fun K hK => ?_) ?_
          · skip
            go_simp
            skip
            first | refine ⟨trivial, fun _ => by omega, (CallsIn.inRound l (callsIn_wide.2 (lother_v (ca := xc) (da := xd) hE.here.1.1.2 Hlx.out Hlo.out))).mono ?_⟩ | refine ⟨trivial, (CallsIn.inRound l (callsIn_wide.2 (lother_v (ca := xc) (da := xd) hE.here.1.1.2 Hlx.out Hlo.out))).mono ?_⟩ | refine ⟨trivial, trivial, (CallsIn.inRound l (callsIn_wide.2 (lother_v (ca := xc) (da := xd) hE.here.1.1.2 Hlx.out Hlo.out))).mono ?_⟩ | refine ⟨trivial, trivial, fun _ => by omega, (CallsIn.inRound l (callsIn_wide.2 (lother_v (ca := xc) (da := xd) hE.here.1.1.2 Hlx.out Hlo.out))).mono ?_⟩
            rintro e w17 ⟨so, Ao, no, co, ti, Bo, mo, dob, rfl, ho, hb⟩
            replace hE := hE.step hb
            clear hb
            replace hE := hE.fv ho
            clear ho
            refine hK _ _ ?_
            clear hK K
            try simp only [Act.put, List.setIfInBounds_toArray, List.set_cons_zero, List.set_cons_succ, List.getElem_toArray, List.getElem_cons_succ, List.getElem_cons_zero]
            refine wpAnyIn_ready (rs := [3]) (by kernel_rfl) (by simp) ?_
            refine AllReadyIn.cons rfl (fun K hK => ?_) ?_
            · skip
              go_simp
              skip
              first | refine ⟨trivial, fun _ => by omega, (CallsIn.inRound l (callsIn_wide.2 (ltimes_v (ca := cq) (da := dq) (cb := co) (db := dob) hE.here.1.1.1.1.1.2 hE.here.2 Hlq.out Hlo.out Hlr.out))).mono ?_⟩ | refine ⟨trivial, (CallsIn.inRound l (callsIn_wide.2 (ltimes_v (ca := cq) (da := dq) (cb := co) (db := dob) hE.here.1.1.1.1.1.2 hE.here.2 Hlq.out Hlo.out Hlr.out))).mono ?_⟩ | refine ⟨trivial, trivial, (CallsIn.inRound l (callsIn_wide.2 (ltimes_v (ca := cq) (da := dq) (cb := co) (db := dob) hE.here.1.1.1.1.1.2 hE.here.2 Hlq.out Hlo.out Hlr.out))).mono ?_⟩ | refine ⟨trivial, trivial, fun _ => by omega, (CallsIn.inRound l (callsIn_wide.2 (ltimes_v (ca := cq) (da := dq) (cb := co) (db := dob) hE.here.1.1.1.1.1.2 hE.here.2 Hlq.out Hlo.out Hlr.out))).mono ?_⟩
              rintro e w18 ⟨sz, Az, nz, cz, tz, Bz, mz, dz, rfl, hz, hb⟩
              replace hE := hE.step hb
              clear hb
              replace hE := hE.fv hz
              clear hz
              refine hK _ _ ?_
              clear hK K
              try simp only [Act.put, List.setIfInBounds_toArray, List.set_cons_zero, List.set_cons_succ, List.getElem_toArray, List.getElem_cons_succ, List.getElem_cons_zero]
              refine wpAnyIn_ready (rs := [4]) (by kernel_rfl) (by simp) ?_
              refine AllReadyIn.cons rfl (fun K hK => ?_) ?_
              · skip
                have hgl19 : w.heap.size ≤ Pp := by omega
                obtain ⟨x19_0, x19_1, x19_2, x19_3⟩ := (hE.here.1.1.1.1.1.2).c4
                have f19_0 := (hE.here.1.1.1.1.1.2).frozen 0
                have f19_1 := (hE.here.1.1.1.1.1.2).frozen 1
                have f19_2 := (hE.here.1.1.1.1.1.2).frozen 2
                have f19_3 := (hE.here.1.1.1.1.1.2).frozen 3
                replace hE := ((((((((((Env.again (bel4 hE.bel hgl19 (.bool sz) (.slice Az nz cz) (.bool tz) (.slice Bz mz dz))).blkI ((hE.here.1.1.1.1.1.1.1.1.2).far4 (R := Pp) (by omega) (.bool sz) (.slice Az nz cz) (.bool tz) (.slice Bz mz dz))).blkI ((hE.here.1.1.1.1.1.1.1.2).far4 (R := Pp) (by omega) (.bool sz) (.slice Az nz cz) (.bool tz) (.slice Bz mz dz))).fv ((hE.here.1.1.1.1.1.1.2).sep4 hE.here.1.1.1.1.1.2 rfl (.bool sz) (.slice Az nz cz) (.bool tz) (.slice Bz mz dz) rfl rfl rfl)).blkI ((hE.here.1.1.1.1.1.2).s4 (.bool sz) (.slice Az nz cz) (.bool tz) (.slice Bz mz dz))).fv ((hE.here.1.1.1.1.2).sep4 hE.here.1.1.1.1.1.2 rfl (.bool sz) (.slice Az nz cz) (.bool tz) (.slice Bz mz dz) rfl rfl rfl)).blkI ((hE.here.1.1.1.2).far4 (R := Pp) (by omega) (.bool sz) (.slice Az nz cz) (.bool tz) (.slice Bz mz dz))).trail ((hE.here.1.1.2).set4 ⟨by omega, by omega, by omega⟩ (.bool sz) (.slice Az nz cz) (.bool tz) (.slice Bz mz dz))).fv ((hE.here.1.2).sep4 hE.here.1.1.1.1.1.2 rfl (.bool sz) (.slice Az nz cz) (.bool tz) (.slice Bz mz dz) rfl rfl rfl)).fv ((hE.here.2).sep4 hE.here.1.1.1.1.1.2 rfl (.bool sz) (.slice Az nz cz) (.bool tz) (.slice Bz mz dz) rfl rfl rfl))
                go_simp
                clear x19_0 x19_1 x19_2 x19_3 f19_0 f19_1 f19_2 f19_3 hgl19
                generalize ((((w18.setCell ⟨Pp, 0, none⟩ (.bool sz)).setCell ⟨Pp, 1, none⟩ (.slice Az nz cz)).setCell ⟨Pp, 2, none⟩ (.bool tz)).setCell ⟨Pp, 3, none⟩ (.slice Bz mz dz)) = W19 at hE ⊢
                refine hK _ _ ?_
                clear hK K
                try simp only [Act.put, List.setIfInBounds_toArray, List.set_cons_zero, List.set_cons_succ, List.getElem_toArray, List.getElem_cons_succ, List.getElem_cons_zero]
                refine wpAnyIn_done (by kernel_rfl) ?_ _
                refine ⟨(hE.here.1.1.2).keeps, (hE.here.1.1.2).kp, ⟨?_, (hE.here.1.1.2).hs⟩, ?_⟩
                · show AInv _ _ _ _ _ (pr f (pre ++ [Yr.mk pre.length xs xA xn xc xt xB xm xd]).length) _
                  rw [Hhlen2.out]
                  exact ⟨_, _, _, _, _, _, _, _, ((((Env.again hE.bel).blkI (hE.here.1.1.1.1.1.1.1.1.2)).blkI (hE.here.1.1.1.1.1.1.1.2)).fv (hE.here.2)).blkI (hE.here.1.1.1.1.1.2)⟩
                · show (pre ++ [Yr.mk pre.length xs xA xn xc xt xB xm xd]).length ≤ k
                  rw [Hhlen2.out]; have := HE.out; omega
              exact AllReadyIn.nil
            exact AllReadyIn.nil
          exact AllReadyIn.nil
        exact AllReadyIn.nil
      refine AllReadyIn.cons rfl (fun K hK => ?_) ?_
      · skip
        obtain ⟨k20, k21, k22, k23⟩ := (hE.here.1.1.1.2).c4
        obtain ⟨k24, k25, k26, k27⟩ := (hE.here.1.2).c4
        go_simp
        refine hK _ _ ?_
        clear hK K
        try simp only [Act.put, List.setIfInBounds_toArray, List.set_cons_zero, List.set_cons_succ, List.getElem_toArray, List.getElem_cons_succ, List.getElem_cons_zero]
        clear k20 k21 k22 k23 k24 k25 k26 k27
        refine wpAnyIn_ready (rs := [0, 2]) (by kernel_rfl) (by simp) ?_
        refine AllReadyIn.cons rfl (fun K hK => ?_) ?_
        · skip
          obtain ⟨k28, k29, k30, k31⟩ := (hE.here.1.1.1.2).c4
          obtain ⟨k32, k33, k34, k35⟩ := (hE.here.1.2).c4
          go_simp
          refine hK _ _ ?_
          clear hK K
          try simp only [Act.put, List.setIfInBounds_toArray, List.set_cons_zero, List.set_cons_succ, List.getElem_toArray, List.getElem_cons_succ, List.getElem_cons_zero]
          clear k28 k29 k30 k31 k32 k33 k34 k35
          refine wpAnyIn_ready (rs := [2]) (by kernel_rfl) (by simp) ?_
          refine AllReadyIn.cons rfl (fun K hK => ?_) ?_
          · skip
            go_simp
            skip
            first | refine ⟨trivial, fun _ => by omega, (CallsIn.inRound l (callsIn_wide.2 (lother_v (ca := xc) (da := xd) hE.here.1.1.2 Hlx.out Hlo.out))).mono ?_⟩ | refine ⟨trivial, (CallsIn.inRound l (callsIn_wide.2 (lother_v (ca := xc) (da := xd) hE.here.1.1.2 Hlx.out Hlo.out))).mono ?_⟩ | refine ⟨trivial, trivial, (CallsIn.inRound l (callsIn_wide.2 (lother_v (ca := xc) (da := xd) hE.here.1.1.2 Hlx.out Hlo.out))).mono ?_⟩ | refine ⟨trivial, trivial, fun _ => by omega, (CallsIn.inRound l (callsIn_wide.2 (lother_v (ca := xc) (da := xd) hE.here.1.1.2 Hlx.out Hlo.out))).mono ?_⟩
            rintro e w36 ⟨so, Ao, no, co, ti, Bo, mo, dob, rfl, ho, hb⟩
            replace hE := hE.step hb
            clear hb
            replace hE := hE.fv ho
            clear ho
            refine hK _ _ ?_
            clear hK K
            try simp only [Act.put, List.setIfInBounds_toArray, List.set_cons_zero, List.set_cons_succ, List.getElem_toArray, List.getElem_cons_succ, List.getElem_cons_zero]
            refine wpAnyIn_ready (rs := [3]) (by kernel_rfl) (by simp) ?_
            refine AllReadyIn.cons rfl (fun K hK => ?_) ?_
            · skip
              go_simp
              skip
              first | refine ⟨trivial, fun _ => by omega, (CallsIn.inRound l (callsIn_wide.2 (ltimes_v (ca := cq) (da := dq) (cb := co) (db := dob) hE.here.1.1.1.1.1.2 hE.here.2 Hlq.out Hlo.out Hlr.out))).mono ?_⟩ | refine ⟨trivial, (CallsIn.inRound l (callsIn_wide.2 (ltimes_v (ca := cq) (da := dq) (cb := co) (db := dob) hE.here.1.1.1.1.1.2 hE.here.2 Hlq.out Hlo.out Hlr.out))).mono ?_⟩ | refine ⟨trivial, trivial, (CallsIn.inRound l (callsIn_wide.2 (ltimes_v (ca := cq) (da := dq) (cb := co) (db := dob) hE.here.1.1.1.1.1.2 hE.here.2 Hlq.out Hlo.out Hlr.out))).mono ?_⟩ | refine ⟨trivial, trivial, fun _ => by omega, (CallsIn.inRound l (callsIn_wide.2 (ltimes_v (ca := cq) (da := dq) (cb := co) (db := dob) hE.here.1.1.1.1.1.2 hE.here.2 Hlq.out Hlo.out Hlr.out))).mono ?_⟩
              rintro e w37 ⟨sz, Az, nz, cz, tz, Bz, mz, dz, rfl, hz, hb⟩
              replace hE := hE.step hb
              clear hb
              replace hE := hE.fv hz
              clear hz
              refine hK _ _ ?_
              clear hK K
              try simp only [Act.put, List.setIfInBounds_toArray, List.set_cons_zero, List.set_cons_succ, List.getElem_toArray, List.getElem_cons_succ, List.getElem_cons_zero]
              refine wpAnyIn_ready (rs := [4]) (by kernel_rfl) (by simp) ?_
              refine AllReadyIn.cons rfl (fun K hK => ?_) ?_
              · skip
                have hgl38 : w.heap.size ≤ Pp := by omega
                obtain ⟨x38_0, x38_1, x38_2, x38_3⟩ := (hE.here.1.1.1.1.1.2).c4
                have f38_0 := (hE.here.1.1.1.1.1.2).frozen 0
                have f38_1 := (hE.here.1.1.1.1.1.2).frozen 1
                have f38_2 := (hE.here.1.1.1.1.1.2).frozen 2
                have f38_3 := (hE.here.1.1.1.1.1.2).frozen 3
                replace hE := ((((((((((Env.again (bel4 hE.bel hgl38 (.bool sz) (.slice Az nz cz) (.bool tz) (.slice Bz mz dz))).blkI ((hE.here.1.1.1.1.1.1.1.1.2).far4 (R := Pp) (by omega) (.bool sz) (.slice Az nz cz) (.bool tz) (.slice Bz mz dz))).blkI ((hE.here.1.1.1.1.1.1.1.2).far4 (R := Pp) (by omega) (.bool sz) (.slice Az nz cz) (.bool tz) (.slice Bz mz dz))).fv ((hE.here.1.1.1.1.1.1.2).sep4 hE.here.1.1.1.1.1.2 rfl (.bool sz) (.slice Az nz cz) (.bool tz) (.slice Bz mz dz) rfl rfl rfl)).blkI ((hE.here.1.1.1.1.1.2).s4 (.bool sz) (.slice Az nz cz) (.bool tz) (.slice Bz mz dz))).fv ((hE.here.1.1.1.1.2).sep4 hE.here.1.1.1.1.1.2 rfl (.bool sz) (.slice Az nz cz) (.bool tz) (.slice Bz mz dz) rfl rfl rfl)).blkI ((hE.here.1.1.1.2).far4 (R := Pp) (by omega) (.bool sz) (.slice Az nz cz) (.bool tz) (.slice Bz mz dz))).trail ((hE.here.1.1.2).set4 ⟨by omega, by omega, by omega⟩ (.bool sz) (.slice Az nz cz) (.bool tz) (.slice Bz mz dz))).fv ((hE.here.1.2).sep4 hE.here.1.1.1.1.1.2 rfl (.bool sz) (.slice Az nz cz) (.bool tz) (.slice Bz mz dz) rfl rfl rfl)).fv ((hE.here.2).sep4 hE.here.1.1.1.1.1.2 rfl (.bool sz) (.slice Az nz cz) (.bool tz) (.slice Bz mz dz) rfl rfl rfl))
                go_simp
                clear x38_0 x38_1 x38_2 x38_3 f38_0 f38_1 f38_2 f38_3 hgl38
                generalize ((((w37.setCell ⟨Pp, 0, none⟩ (.bool sz)).setCell ⟨Pp, 1, none⟩ (.slice Az nz cz)).setCell ⟨Pp, 2, none⟩ (.bool tz)).setCell ⟨Pp, 3, none⟩ (.slice Bz mz dz)) = W38 at hE ⊢
                refine hK _ _ ?_
                clear hK K
                try simp only [Act.put, List.setIfInBounds_toArray, List.set_cons_zero, List.set_cons_succ, List.getElem_toArray, List.getElem_cons_succ, List.getElem_cons_zero]
                refine wpAnyIn_done (by kernel_rfl) ?_ _
                refine ⟨(hE.here.1.1.2).keeps, (hE.here.1.1.2).kp, ⟨?_, (hE.here.1.1.2).hs⟩, ?_⟩
                · show AInv _ _ _ _ _ (pr f (pre ++ [Yr.mk pre.length xs xA xn xc xt xB xm xd]).length) _
                  rw [Hhlen2.out]
                  exact ⟨_, _, _, _, _, _, _, _, ((((Env.again hE.bel).blkI (hE.here.1.1.1.1.1.1.1.1.2)).blkI (hE.here.1.1.1.1.1.1.1.2)).fv (hE.here.2)).blkI (hE.here.1.1.1.1.1.2)⟩
                · show (pre ++ [Yr.mk pre.length xs xA xn xc xt xB xm xd]).length ≤ k
                  rw [Hhlen2.out]; have := HE.out; omega
              exact AllReadyIn.nil
            exact AllReadyIn.nil
          exact AllReadyIn.nil
        refine AllReadyIn.cons rfl (fun K hK => ?_) ?_
        · skip
          go_simp
          skip
          first | refine ⟨trivial, fun _ => by omega, (CallsIn.inRound l (callsIn_wide.2 (lother_v (ca := xc) (da := xd) hE.here.1.1.2 Hlx.out Hlo.out))).mono ?_⟩ | refine ⟨trivial, (CallsIn.inRound l (callsIn_wide.2 (lother_v (ca := xc) (da := xd) hE.here.1.1.2 Hlx.out Hlo.out))).mono ?_⟩ | refine ⟨trivial, trivial, (CallsIn.inRound l (callsIn_wide.2 (lother_v (ca := xc) (da := xd) hE.here.1.1.2 Hlx.out Hlo.out))).mono ?_⟩ | refine ⟨trivial, trivial, fun _ => by omega, (CallsIn.inRound l (callsIn_wide.2 (lother_v (ca := xc) (da := xd) hE.here.1.1.2 Hlx.out Hlo.out))).mono ?_⟩
          rintro e w39 ⟨so, Ao, no, co, ti, Bo, mo, dob, rfl, ho, hb⟩
          replace hE := hE.step hb
          clear hb
          replace hE := hE.fv ho
          clear ho
          refine hK _ _ ?_
          clear hK K
          try simp only [Act.put, List.setIfInBounds_toArray, List.set_cons_zero, List.set_cons_succ, List.getElem_toArray, List.getElem_cons_succ, List.getElem_cons_zero]
          refine wpAnyIn_ready (rs := [0]) (by kernel_rfl) (by simp) ?_
          refine AllReadyIn.cons rfl (fun K hK => ?_) ?_
          · skip
            obtain ⟨k40, k41, k42, k43⟩ := (hE.here.1.1.1.1.2).c4
            obtain ⟨k44, k45, k46, k47⟩ := (hE.here.1.1.2).c4
            go_simp
            refine hK _ _ ?_
            clear hK K
            try simp only [Act.put, List.setIfInBounds_toArray, List.set_cons_zero, List.set_cons_succ, List.getElem_toArray, List.getElem_cons_succ, List.getElem_cons_zero]
            clear k40 k41 k42 k43 k44 k45 k46 k47
            refine wpAnyIn_ready (rs := [3]) (by kernel_rfl) (by simp) ?_
            refine AllReadyIn.cons rfl (fun K hK => ?_) ?_
            · skip
              go_simp
              skip
              first | refine ⟨trivial, fun _ => by omega, (CallsIn.inRound l (callsIn_wide.2 (ltimes_v (ca := cq) (da := dq) (cb := co) (db := dob) hE.here.1.1.1.1.1.2 hE.here.2 Hlq.out Hlo.out Hlr.out))).mono ?_⟩ | refine ⟨trivial, (CallsIn.inRound l (callsIn_wide.2 (ltimes_v (ca := cq) (da := dq) (cb := co) (db := dob) hE.here.1.1.1.1.1.2 hE.here.2 Hlq.out Hlo.out Hlr.out))).mono ?_⟩ | refine ⟨trivial, trivial, (CallsIn.inRound l (callsIn_wide.2 (ltimes_v (ca := cq) (da := dq) (cb := co) (db := dob) hE.here.1.1.1.1.1.2 hE.here.2 Hlq.out Hlo.out Hlr.out))).mono ?_⟩ | refine ⟨trivial, trivial, fun _ => by omega, (CallsIn.inRound l (callsIn_wide.2 (ltimes_v (ca := cq) (da := dq) (cb := co) (db := dob) hE.here.1.1.1.1.1.2 hE.here.2 Hlq.out Hlo.out Hlr.out))).mono ?_⟩
              rintro e w48 ⟨sz, Az, nz, cz, tz, Bz, mz, dz, rfl, hz, hb⟩
              replace hE := hE.step hb
              clear hb
              replace hE := hE.fv hz
              clear hz
              refine hK _ _ ?_
              clear hK K
              try simp only [Act.put, List.setIfInBounds_toArray, List.set_cons_zero, List.set_cons_succ, List.getElem_toArray, List.getElem_cons_succ, List.getElem_cons_zero]
              refine wpAnyIn_ready (rs := [4]) (by kernel_rfl) (by simp) ?_
              refine AllReadyIn.cons rfl (fun K hK => ?_) ?_
              · skip
                have hgl49 : w.heap.size ≤ Pp := by omega
                obtain ⟨x49_0, x49_1, x49_2, x49_3⟩ := (hE.here.1.1.1.1.1.2).c4
                have f49_0 := (hE.here.1.1.1.1.1.2).frozen 0
                have f49_1 := (hE.here.1.1.1.1.1.2).frozen 1
                have f49_2 := (hE.here.1.1.1.1.1.2).frozen 2
                have f49_3 := (hE.here.1.1.1.1.1.2).frozen 3
                replace hE := ((((((((((Env.again (bel4 hE.bel hgl49 (.bool sz) (.slice Az nz cz) (.bool tz) (.slice Bz mz dz))).blkI ((hE.here.1.1.1.1.1.1.1.1.2).far4 (R := Pp) (by omega) (.bool sz) (.slice Az nz cz) (.bool tz) (.slice Bz mz dz))).blkI ((hE.here.1.1.1.1.1.1.1.2).far4 (R := Pp) (by omega) (.bool sz) (.slice Az nz cz) (.bool tz) (.slice Bz mz dz))).fv ((hE.here.1.1.1.1.1.1.2).sep4 hE.here.1.1.1.1.1.2 rfl (.bool sz) (.slice Az nz cz) (.bool tz) (.slice Bz mz dz) rfl rfl rfl)).blkI ((hE.here.1.1.1.1.1.2).s4 (.bool sz) (.slice Az nz cz) (.bool tz) (.slice Bz mz dz))).fv ((hE.here.1.1.1.1.2).sep4 hE.here.1.1.1.1.1.2 rfl (.bool sz) (.slice Az nz cz) (.bool tz) (.slice Bz mz dz) rfl rfl rfl)).blkI ((hE.here.1.1.1.2).far4 (R := Pp) (by omega) (.bool sz) (.slice Az nz cz) (.bool tz) (.slice Bz mz dz))).trail ((hE.here.1.1.2).set4 ⟨by omega, by omega, by omega⟩ (.bool sz) (.slice Az nz cz) (.bool tz) (.slice Bz mz dz))).fv ((hE.here.1.2).sep4 hE.here.1.1.1.1.1.2 rfl (.bool sz) (.slice Az nz cz) (.bool tz) (.slice Bz mz dz) rfl rfl rfl)).fv ((hE.here.2).sep4 hE.here.1.1.1.1.1.2 rfl (.bool sz) (.slice Az nz cz) (.bool tz) (.slice Bz mz dz) rfl rfl rfl))
                go_simp
                clear x49_0 x49_1 x49_2 x49_3 f49_0 f49_1 f49_2 f49_3 hgl49
                generalize ((((w48.setCell ⟨Pp, 0, none⟩ (.bool sz)).setCell ⟨Pp, 1, none⟩ (.slice Az nz cz)).setCell ⟨Pp, 2, none⟩ (.bool tz)).setCell ⟨Pp, 3, none⟩ (.slice Bz mz dz)) = W49 at hE ⊢
                refine hK _ _ ?_
                clear hK K
                try simp only [Act.put, List.setIfInBounds_toArray, List.set_cons_zero, List.set_cons_succ, List.getElem_toArray, List.getElem_cons_succ, List.getElem_cons_zero]
                refine wpAnyIn_done (by kernel_rfl) ?_ _
                refine ⟨(hE.here.1.1.2).keeps, (hE.here.1.1.2).kp, ⟨?_, (hE.here.1.1.2).hs⟩, ?_⟩
                · show AInv _ _ _ _ _ (pr f (pre ++ [Yr.mk pre.length xs xA xn xc xt xB xm xd]).length) _
                  rw [Hhlen2.out]
                  exact ⟨_, _, _, _, _, _, _, _, ((((Env.again hE.bel).blkI (hE.here.1.1.1.1.1.1.1.1.2)).blkI (hE.here.1.1.1.1.1.1.1.2)).fv (hE.here.2)).blkI (hE.here.1.1.1.1.1.2)⟩
                · show (pre ++ [Yr.mk pre.length xs xA xn xc xt xB xm xd]).length ≤ k
                  rw [Hhlen2.out]; have := HE.out; omega
              exact AllReadyIn.nil
            exact AllReadyIn.nil
          exact AllReadyIn.nil
        exact AllReadyIn.nil
      exact AllReadyIn.nil
  case done =>
    rintro D ys W hD hS ⟨⟨hI, hBs⟩, hlk⟩ hK
    have hz : pr f ys.length = pr f k := by
      rw [hS.length] at hlk ⊢
      rw [pr_stop HhfM.out (M + 1) (by omega), pr_stop HhfM.out k (by omega)]
    rw [hz] at hI
    obtain ⟨sq, Aq, nq, cq, tq, Bq, mq, dq, hE⟩ := hI
    have hE := hE.def_ hK
    clear hK
    obtain ⟨k1, k2, k3, k4⟩ := (hE.here.1.2).c4
    have hgl50 : w.heap.size ≤ w.heap.size + 1 + 1 := by omega
    obtain ⟨x50_0, x50_1, x50_2, x50_3⟩ := (hE.here.1.1.1.2).c4
    have f50_0 := (hE.here.1.1.1.2).frozen 0
    have f50_1 := (hE.here.1.1.1.2).frozen 1
    have f50_2 := (hE.here.1.1.1.2).frozen 2
    have f50_3 := (hE.here.1.1.1.2).frozen 3
    replace hE := ((((((Env.again (bel4 hE.bel hgl50 (.bool sq) (.slice Aq nq cq) (.bool tq) (.slice Bq mq dq))).blkI ((hE.here.1.1.1.1.2).far4 (R := w.heap.size + 1 + 1) (by omega) (.bool sq) (.slice Aq nq cq) (.bool tq) (.slice Bq mq dq))).blkI ((hE.here.1.1.1.2).s4 (.bool sq) (.slice Aq nq cq) (.bool tq) (.slice Bq mq dq))).fv ((hE.here.1.1.2).sep4 hE.here.1.1.1.2 rfl (.bool sq) (.slice Aq nq cq) (.bool tq) (.slice Bq mq dq) rfl rfl rfl)).blkI ((hE.here.1.2).far4 (R := w.heap.size + 1 + 1) (by omega) (.bool sq) (.slice Aq nq cq) (.bool tq) (.slice Bq mq dq))).def_ ((heap_set4 (by omega) (.bool sq) (.slice Aq nq cq) (.bool tq) (.slice Bq mq dq)).trans (hE.here.2)))
    gi_wp2
    clear x50_0 x50_1 x50_2 x50_3 f50_0 f50_1 f50_2 f50_3 hgl50
    generalize ((((W.setCell ⟨w.heap.size + 1 + 1, 0, none⟩ (.bool sq)).setCell ⟨w.heap.size + 1 + 1, 1, none⟩ (.slice Aq nq cq)).setCell ⟨w.heap.size + 1 + 1, 2, none⟩ (.bool tq)).setCell ⟨w.heap.size + 1 + 1, 3, none⟩ (.slice Bq mq dq)) = W50 at hE ⊢
    clear k1 k2 k3 k4
    obtain ⟨hB2, hV2, hb2⟩ := leave_frac (hE.here.1.1.1.2) (hE.here.1.1.2) hE.bel (show w.heap.size ≤ D by omega) (show D ≠ w.heap.size + 1 + 1 by omega) (hE.here.2) (.deferred none)
    refine ⟨by simp, .inl ⟨_, _, rfl, run_takeDeferred (hE.here.2), ?_⟩⟩
    obtain ⟨y0, y1, y2, y3⟩ := hB2.c4
    exact ⟨.agg #[.bool sq, .slice Aq nq cq, .bool tq, .slice Bq mq dq], by simp [results, Tryz.results62, go_sem, y0, y1, y2, y3], sq, Aq, nq, cq, tq, Bq, mq, dq, rfl, hV2, hb2⟩
  case stop =>
    rintro D c pre W hD _ ⟨rfl, hI⟩ hK
    obtain ⟨sq, Aq, nq, cq, tq, Bq, mq, dq, hE⟩ := hI
    have hE := hE.def_ hK
    clear hK
    obtain ⟨k1, k2, k3, k4⟩ := (hE.here.1.2).c4
    have hgl51 : w.heap.size ≤ w.heap.size + 1 + 1 := by omega
    obtain ⟨x51_0, x51_1, x51_2, x51_3⟩ := (hE.here.1.1.1.2).c4
    have f51_0 := (hE.here.1.1.1.2).frozen 0
    have f51_1 := (hE.here.1.1.1.2).frozen 1
    have f51_2 := (hE.here.1.1.1.2).frozen 2
    have f51_3 := (hE.here.1.1.1.2).frozen 3
    replace hE := ((((((Env.again (bel4 hE.bel hgl51 (.bool sq) (.slice Aq nq cq) (.bool tq) (.slice Bq mq dq))).blkI ((hE.here.1.1.1.1.2).far4 (R := w.heap.size + 1 + 1) (by omega) (.bool sq) (.slice Aq nq cq) (.bool tq) (.slice Bq mq dq))).blkI ((hE.here.1.1.1.2).s4 (.bool sq) (.slice Aq nq cq) (.bool tq) (.slice Bq mq dq))).fv ((hE.here.1.1.2).sep4 hE.here.1.1.1.2 rfl (.bool sq) (.slice Aq nq cq) (.bool tq) (.slice Bq mq dq) rfl rfl rfl)).blkI ((hE.here.1.2).far4 (R := w.heap.size + 1 + 1) (by omega) (.bool sq) (.slice Aq nq cq) (.bool tq) (.slice Bq mq dq))).def_ ((heap_set4 (by omega) (.bool sq) (.slice Aq nq cq) (.bool tq) (.slice Bq mq dq)).trans (hE.here.2)))
    gi_wp2
    clear x51_0 x51_1 x51_2 x51_3 f51_0 f51_1 f51_2 f51_3 hgl51
    generalize ((((W.setCell ⟨w.heap.size + 1 + 1, 0, none⟩ (.bool sq)).setCell ⟨w.heap.size + 1 + 1, 1, none⟩ (.slice Aq nq cq)).setCell ⟨w.heap.size + 1 + 1, 2, none⟩ (.bool tq)).setCell ⟨w.heap.size + 1 + 1, 3, none⟩ (.slice Bq mq dq)) = W51 at hE ⊢
    clear k1 k2 k3 k4
    obtain ⟨hB2, hV2, hb2⟩ := leave_frac (hE.here.1.1.1.2) (hE.here.1.1.2) hE.bel (show w.heap.size ≤ D by omega) (show D ≠ w.heap.size + 1 + 1 by omega) (hE.here.2) (.deferred none)
    refine ⟨by simp, .inl ⟨_, _, rfl, run_takeDeferred (hE.here.2), ?_⟩⟩
    obtain ⟨y0, y1, y2, y3⟩ := hB2.c4
    exact ⟨.agg #[.bool sq, .slice Aq nq cq, .bool tq, .slice Bq mq dq], by simp [results, Tryz.results62, go_sem, y0, y1, y2, y3], sq, Aq, nq, cq, tq, Bq, mq, dq, rfl, hV2, hb2⟩
end Go.Proofs.YtgkepllfdhcdpaaGreat
namespace Go.Proofs.YtgkepllfdhcdpaaGreat

theorem pr_one (f : Nat → Rat) : pr f 1 = 1 - f 0 := by simp only [pr]; grind
theorem pr_more (f : Nat → Rat) (m : Nat) : ∀ n, pr f (m + n) = pr f m * pr (fun i => f (m + i)) n
  | 0 => by simp only [pr, Nat.add_zero]; grind
  | n + 1 => by
    rw [← Nat.add_assoc]
    simp only [pr]
    rw [pr_more f m n]
    grind
theorem pr_less (f : Nat → Rat) (n : Nat) : pr f n - pr f n * f n = pr f (n + 1) := by simp only [pr]; grind
theorem pr_congr {f g : Nat → Rat} : ∀ {n : Nat}, (∀ i, i < n → f i = g i) → pr f n = pr g n
  | 0, _ => rfl
  | n + 1, h => by
    simp only [pr]
    rw [pr_congr fun i hi => h i (by omega), h n (by omega)]
theorem smr_congr {f g : Nat → Rat} (h : ∀ i, f i = g i) : ∀ n, smr f n = smr g n
  | 0 => rfl
  | n + 1 => by
    simp only [smr]
    rw [smr_congr h n, pr_congr (n := n + 1) fun i _ => h i]
theorem smr_first (f : Nat → Rat) : ∀ n, smr f (n + 1) = pr f 1 * (1 + smr (fun i => f (1 + i)) n)
  | 0 => by simp only [smr]; grind
  | n + 1 => by
    have h1 : smr f (n + 1 + 1) = smr f (n + 1) + pr f (n + 1 + 1) := rfl
    have h2 := pr_more f 1 (n + 1)
    rw [h1, smr_first f n, show n + 1 + 1 = 1 + (n + 1) by omega, h2]
    simp only [smr]
    grind
/-- Beyond the last year nothing is added. -/
theorem smr_stop {f : Nat → Rat} {j : Nat} (h : ∀ k, j < k → pr f k = 0) : ∀ d, smr f (j + d) = smr f j
  | 0 => rfl
  | d + 1 => by
    rw [← Nat.add_assoc]
    simp only [smr]
    rw [smr_stop h d, h (j + d + 1) (by omega)]
    grind
theorem pr_mono {f g : Nat → Rat} {N : Nat} (hf : Rts f N) (hg : Rts g N) (h : ∀ i, i < N → f i ≤ g i) : ∀ k, k ≤ N → pr g k ≤ pr f k
  | 0, _ => by simp only [pr]; exact Rat.le_refl
  | k + 1, hk => by
    have h1 := pr_mono hf hg h k (by omega)
    have h2 := (pr_01 hg k (by omega)).1
    have h3 := h k (by omega)
    obtain ⟨a0, a1, _⟩ := hf k (by omega)
    simp only [pr]
    have e1 : 0 ≤ (pr f k - pr g k) * (1 - f k) := Rat.mul_nonneg (by grind) (by grind)
    have e2 : 0 ≤ pr g k * (g k - f k) := Rat.mul_nonneg h2 (by grind)
    grind
theorem smr_mono {f g : Nat → Rat} {N : Nat} (hf : Rts f N) (hg : Rts g N) (h : ∀ i, i < N → f i ≤ g i) : ∀ k, k ≤ N → smr g k ≤ smr f k
  | 0, _ => by simp only [smr]; exact Rat.le_refl
  | k + 1, hk => by
    have h1 := smr_mono hf hg h k (by omega)
    have h2 := pr_mono hf hg h (k + 1) hk
    simp only [smr]
    grind
/-- The rates of a life some years later. -/
theorem rt_later (F S : Int) (n : Nat) (r : Nat → RH) (E Y : Int) (m k : Nat) : rt F S n r E (Y + (m : Int)) (k : Int) = rt F S n r E Y ((m + k : Nat) : Int) := by
  unfold rt
  rw [show Y + (m : Int) + (k : Int) = Y + ((m + k : Nat) : Int) by omega]
theorem smr_fl {f : Nat → Rat} {n k : Nat} (h : Rts f n) (hk : k ≤ n) (h9 : k ≤ 1000) : fl (smr f k) ≤ k + 1 := by
  obtain ⟨h1, h2⟩ := smr_01 h k hk
  refine fl_bound (dpr_pos f k) (smr_dv f k) (M := 1001) (by grind) ?_ (by decide) ((ln_le b16_two).2 ?_)
  · have : (k : Rat) ≤ (1001 : Rat) := by exact_mod_cast (show k ≤ 1001 by omega)
    grind
  · rw [Nat.pow_succ]
    have h3 := dpr_lt h k hk
    have hp : 0 < b16 ^ k := Nat.pow_pos (by decide)
    have h4 : b16 ^ k * 1002 ≤ b16 ^ k * b16 := Nat.mul_le_mul_left _ (by decide)
    omega
end Go.Proofs.YtgkepllfdhcdpaaGreat
namespace Go.Proofs.YtgkepllfdhcdpaaGreat

/-- A probability with a denominator of at most j limbs and one more. -/
def Sm (q : Rat) (j : Nat) : Prop := 0 ≤ q ∧ q ≤ 1 ∧ ∃ D, 0 < D ∧ Dv q D ∧ D ≤ b16 ^ j
theorem Sm.fl {q : Rat} {j : Nat} (h : Sm q j) : fl q ≤ j + 1 := by
  obtain ⟨h1, h2, D, h3, h4, h5⟩ := h
  exact fl_of h3 h4 h1 h2 h5
theorem Sm.l {q : Rat} {j : Nat} (h : Sm q j) (hj : j ≤ 255) : Go.Proofs.YtgkepllfdhcdpaaGreat.fl q ≤ 256 := Nat.le_trans h.fl (by omega)
theorem Sm.mul {p q : Rat} {i j : Nat} (h : Sm p i) (k : Sm q j) : Sm (p * q) (i + j) := by
  obtain ⟨h1, h2, D, h3, h4, h5⟩ := h
  obtain ⟨k1, k2, E, k3, k4, k5⟩ := k
  refine ⟨Rat.mul_nonneg h1 k1, ?_, D * E, Nat.mul_pos h3 k3, h4.mul k4, ?_⟩
  · have := Rat.mul_nonneg h1 (show 0 ≤ 1 - q by grind)
    grind
  · rw [Nat.pow_add]
    exact Nat.mul_le_mul h5 k5
theorem Sm.no {q : Rat} {j : Nat} (h : Sm q j) : Sm (1 - q) j := by
  obtain ⟨h1, h2, D, h3, h4, h5⟩ := h
  exact ⟨by grind, by grind, D, h3, ((Dv.int 1).more (Nat.one_dvd _)).sub h4, h5⟩
theorem Sm.more {q : Rat} {i j : Nat} (h : Sm q i) (hij : i ≤ j) : Sm q j := by
  obtain ⟨h1, h2, D, h3, h4, h5⟩ := h
  exact ⟨h1, h2, D, h3, h4, Nat.le_trans h5 (Nat.pow_le_pow_right (by decide) hij)⟩
theorem Sm.zero : Sm 0 0 := ⟨by decide, by decide, 1, by decide, Dv.int 0, by decide⟩
theorem Sm.one : Sm 1 0 := ⟨by decide, by decide, 1, by decide, Dv.int 1, by decide⟩
theorem Rts.sm {f : Nat → Rat} {n k : Nat} (h : Rts f n) (hk : k < n) : Sm (f k) 1 := by
  obtain ⟨h3, h4, h5⟩ := h k hk
  exact ⟨h3, h4, (f k).den, (f k).den_pos, Dv.self (f k), by rw [Nat.pow_one]; omega⟩
theorem pr_sm {f : Nat → Rat} {n k : Nat} (h : Rts f n) (hk : k ≤ n) : Sm (pr f k) k :=
  ⟨(pr_01 h k hk).1, (pr_01 h k hk).2, dpr f k, dpr_pos f k, pr_dv f k, dpr_lt h k hk⟩
/-- Where the rate is 1 in the year M: products of any length. -/
theorem pr_any {f : Nat → Rat} {M : Nat} (h : Rts f 200) (hM : M ≤ 111) (h1 : f M = 1) (k : Nat) : Sm (pr f k) 112 := by
  by_cases hk : k ≤ M
  · exact (pr_sm h (show k ≤ 200 by omega)).more (by omega)
  · rw [pr_stop h1 k (by omega)]
    exact Sm.zero.more (by omega)
theorem prd_any {f : Nat → Rat} {M : Nat} (h : Rts f 200) (hM : M ≤ 111) (h1 : f M = 1) (k : Nat) : Sm (pr f k * f k) 113 := by
  by_cases hk : k ≤ M
  · exact ((pr_sm h (show k ≤ 200 by omega)).mul (h.sm (show k < 200 by omega))).more (by omega)
  · rw [pr_stop h1 k (by omega), Rat.zero_mul]
    exact Sm.zero.more (by omega)
theorem smr_any {f : Nat → Rat} {M : Nat} (h1 : f M = 1) {K : Nat} (hK : M ≤ K) : smr f K = smr f M := by
  have h := smr_stop (f := f) (j := M) (fun k hk => pr_stop h1 k hk) (K - M)
  rwa [show M + (K - M) = K by omega] at h
theorem smr_short {f : Nat → Rat} {M K : Nat} (h : Rts f 200) (hM : M ≤ 111) (h1 : f M = 1) (hK : M ≤ K) : fl (smr f K) ≤ 112 := by
  rw [smr_any h1 hK]
  exact Nat.le_trans (smr_fl h (by omega) (by omega)) (by omega)
end Go.Proofs.YtgkepllfdhcdpaaGreat
namespace Go.Proofs.YtgkepllfdhcdpaaGreat
open Go.RowKit

/-- A table that is not large. -/
def RowS (R : RH) (Wd L : Int) : Prop := (R.n : Int) ≤ Wd ∧ ∀ k, k < R.n → ((R.h k).n : Int) ≤ L ∧ ((R.h k).m : Int) ≤ L
def TabS (n : Nat) (r : Nat → RH) (N Wd L : Int) : Prop := (n : Int) ≤ N ∧ ∀ i, i < n → RowS (r i) Wd L
theorem TabS.b {n : Nat} {r : Nat → RH} {N Wd L : Int} (h : TabS n r N Wd L) (h1 : N ≤ 1000000) (h2 : Wd ≤ 1000000) (h3 : L ≤ 1000000) : TabB n r :=
  ⟨by have := h.1; omega, fun i hi => ⟨by have := (h.2 i hi).1; omega, fun k hk => by have := (h.2 i hi).2 k hk; omega⟩⟩
def LargeP (n : Nat) (r : Nat → RH) (N Wd L : Int) (w : World) (e : Ending) (w' : World) : Prop := ∃ v, e = .returned (.bool v) ∧ (v = false → TabS n r N Wd L) ∧ Below w.heap.size w w'
theorem no_true {P : Prop} : (true = false → P) := fun h => by cases h

set_option linter.unusedSimpArgs false in
set_option maxRecDepth 100000 in
set_option maxHeartbeats 4000000 in
theorem large_any (F S N Wd L : Int) (A : Option Addr) (n c : Nat) (r : Nat → RH) (w : World) (hT : TabM w A n r) (h1 : 0 ≤ N) (h2 : N ≤ 1000000) (h3 : 0 ≤ Wd) (h4 : Wd ≤ 1000000) :
    Calls Tryz.prog 12 #[.agg #[.int .i64 F, .int .i64 S, .slice A n c], .int .i64 N, .int .i64 Wd, .int .i64 L] w (LargeP n r N Wd L w) := by
  have hE := ((Env.start w).and (TabM.stable A n r) hT).blk 24 #[.int .i64 F, .int .i64 S, .slice A n c] (g := w.heap.size) rfl
  obtain ⟨W0, hW0⟩ : ∃ W0, W0 = w.alloc (.cells #[.int .i64 F, .int .i64 S, .slice A n c] 24) := ⟨_, rfl⟩
  rw [← hW0] at hE
  have HW0 := Lib.hid hW0
  clear hW0
  go_enter Tryz.func12, Tryz.ntmps12
  go_upto_region 1 with (fail)
  rw [← HW0.out]
  obtain ⟨k1, k2, k3⟩ := hE.here.2.c3
  by_cases hn : N < (n : Int)
  · have t1 : decide (N < (n : Int)) = true := decide_eq_true hn
    clear hn
    go_wp2_with fail
    go_ret
    exact ⟨true, rfl, no_true, hE.bel⟩
  · have t1 : decide (N < (n : Int)) = false := decide_eq_false hn
    have Hn := Lib.hid hn
    clear hn
    go_wp2_with fail
    clear k1 k2 k3 t1
    go_loopw [9] (fun x wr => ∃ i : Nat, i ≤ n ∧ x = .int .i64 (i : Int) ∧ Hid (∀ j, j < i → RowS (r j) Wd L) ∧ Env w (fun V => (True ∧ TabM V A n r) ∧ Blk 24 w.heap.size #[.int .i64 F, .int .i64 S, .slice A n c] V) wr) (fun x _ => n - (intOf x).toNat)
    case atStart => exact ⟨0, Nat.zero_le _, rfl, Lib.hid (fun j hj => absurd hj (by omega)), hE⟩
    case round =>
      clear hE
      obtain ⟨i, hi, rfl, HI, hE⟩ := hrel
      obtain ⟨k1, k2, k3⟩ := hE.here.2.c3
      have hn' := Hn.out
      by_cases hlt : i < n
      · obtain ⟨b, o, rfl, hblt, hc⟩ := hE.here.1.2 (by omega)
        obtain ⟨c0, hrow⟩ := hc i hlt
        obtain ⟨R, hR⟩ : ∃ R, R = r i := ⟨_, rfl⟩
        rw [← hR] at c0 hrow
        obtain ⟨Ai, ni, ci, hh⟩ := R
        dsimp only at c0
        have HR := Lib.hid hR
        clear hR hc hrow
        have t1 : decide ((i : Int) < (n : Int)) = true := decide_eq_true (by omega)
        have t2 : (i : Int) < (n : Int) := by omega
        go_wp2_with fail
        clear k1 k2 k3 c0 t1 t2
        go_loopw [10] (fun x wr => ∃ k : Nat, k ≤ ni ∧ x = .int .i64 (k : Int) ∧ Hid ((k : Int) ≤ Wd ∧ ∀ j, j < k → ((hh j).n : Int) ≤ L ∧ ((hh j).m : Int) ≤ L) ∧ Env w (fun V => (True ∧ TabM V (some ⟨b, o, none⟩) n r) ∧ Blk 24 w.heap.size #[.int .i64 F, .int .i64 S, .slice (some ⟨b, o, none⟩) n c] V) wr) (fun x _ => ni - (intOf x).toNat)
        case atStart => exact ⟨0, Nat.zero_le _, rfl, Lib.hid ⟨by omega, fun j hj => absurd hj (by omega)⟩, hE⟩
        case round =>
          clear hE
          obtain ⟨k, hk, rfl, HK, hE⟩ := hrel
          obtain ⟨k1, k2, k3⟩ := hE.here.2.c3
          obtain ⟨b', o', e', hblt, hc⟩ := hE.here.1.2 (by omega)
          injection e' with e'
          injection e' with e1 e2 e3
          subst e1 e2
          obtain ⟨c0, hrow⟩ := hc i hlt
          rw [← HR.out] at c0 hrow
          dsimp only at c0
          have t2 : (i : Int) < (n : Int) := by omega
          clear hc e3
          by_cases hkt : k < ni
          · have u1 : decide ((k : Int) < (ni : Int)) = true := decide_eq_true (by omega)
            have u2 : (k : Int) < (ni : Int) := by omega
            by_cases hw : Wd ≤ (k : Int)
            · have u3 : decide (Wd ≤ (k : Int)) = true := decide_eq_true hw
              clear hw hrow
              go_wp2_with fail
              go_ret
              exact ⟨true, rfl, no_true, hE.bel⟩
            · have u3 : decide (Wd ≤ (k : Int)) = false := decide_eq_false hw
              obtain ⟨b2, o2, e2, hb2, hc2⟩ := hrow (show 0 < ni by omega)
              dsimp only at e2
              subst e2
              obtain ⟨hcl, -⟩ := hc2 k hkt
              dsimp only at hcl
              obtain ⟨H, hH⟩ : ∃ H, H = hh k := ⟨_, rfl⟩
              rw [← hH] at hcl
              have HH := Lib.hid hH
              clear hH hc2
              have HW := Lib.hid hw
              clear hw hrow
              obtain ⟨hs, hA, hn, hc, hf, ht, hD, hm, hd, hg⟩ := H
              obtain ⟨d0, d1, d2, d3⟩ := hcl
              dsimp only at d0 d1 d2 d3
              by_cases hl1 : L < (hn : Int)
              · have u4 : decide (L < (hn : Int)) = true := decide_eq_true hl1
                clear hl1
                go_wp2_with fail
                go_ret
                exact ⟨true, rfl, no_true, hE.bel⟩
              · have u4 : decide (L < (hn : Int)) = false := decide_eq_false hl1
                have HL1 := Lib.hid hl1
                clear hl1
                by_cases hl2 : L < (hm : Int)
                · have u5 : decide (L < (hm : Int)) = true := decide_eq_true hl2
                  clear hl2
                  go_wp2_with fail
                  go_ret
                  exact ⟨true, rfl, no_true, hE.bel⟩
                · have u5 : decide (L < (hm : Int)) = false := decide_eq_false hl2
                  have HL2 := Lib.hid hl2
                  clear hl2
                  have hk9 : k < 1000000 := by have := HW.out; omega
                  go_wp2_with fail
                  go_roundw
                  case rel =>
                    refine ⟨k + 1, by omega, by go_num, Lib.hid ⟨by have := HW.out; omega, fun j hj => ?_⟩, hE⟩
                    rcases Nat.lt_or_ge j k with h | h
                    · exact HK.out.2 j h
                    · obtain rfl : j = k := by omega
                      rw [← HH.out]
                      have a1 := HL1.out
                      have a2 := HL2.out
                      dsimp only
                      omega
                  case measure => simp [intOf]; omega
          · obtain rfl : k = ni := by omega
            have u1 : decide ((k : Int) < (k : Int)) = false := decide_eq_false (by omega)
            clear hrow
            go_wp2_with fail
            go_roundw
            case rel =>
              refine ⟨i + 1, by omega, by go_num, Lib.hid (fun j hj => ?_), hE⟩
              rcases Nat.lt_or_ge j i with h | h
              · exact HI.out j h
              · obtain rfl : j = i := by omega
                rw [← HR.out]
                exact HK.out
            case measure => simp [intOf]; omega
      · obtain rfl : i = n := by omega
        have t1 : decide ((i : Int) < (i : Int)) = false := decide_eq_false (by omega)
        go_wp2_with fail
        go_ret
        exact ⟨false, rfl, fun _ => ⟨by omega, HI.out⟩, hE.bel⟩

/-- later: a life n years later. -/
theorem later_v (E Y m : Int) (w : World) (h1 : 0 ≤ Y) (h2 : Y ≤ 1000000) (h3 : 0 ≤ m) (h4 : m ≤ 1000000) :
    Calls Tryz.prog 37 #[.agg #[.int .i64 E, .int .i64 Y], .int .i64 m] w fun e w' => e = .returned (.agg #[.int .i64 E, .int .i64 (Y + m)]) ∧ Below w.heap.size w w' := by
  have o1 : IntKind.i64.wrap (Y + m) = Y + m := by rw [IntKind.wrap_i64]; omega
  have hb : Below w.heap.size w ((w.alloc (.cells #[.int .i64 E, .int .i64 Y] 26)).alloc (.cells #[.int .i64 0, .int .i64 0] 26)) := ((Below.refl _ w).alloc (Nat.le_refl _) _).alloc (by simp) _
  have hB := Blk.new (w.alloc (.cells #[.int .i64 E, .int .i64 Y] 26)) 26 #[.int .i64 0, .int .i64 0]
  rw [World.size_alloc] at hB
  obtain ⟨W0, hW0⟩ : ∃ W0, W0 = ((w.alloc (.cells #[.int .i64 E, .int .i64 Y] 26)).alloc (.cells #[.int .i64 0, .int .i64 0] 26)) := ⟨_, rfl⟩
  have hA : Blk 26 w.heap.size #[.int .i64 E, .int .i64 Y] W0 := by
    rw [hW0]
    exact (Blk.new w 26 #[.int .i64 E, .int .i64 Y]).below ((Below.refl _ _).alloc (Nat.le_refl _) _) (by simp)
  rw [← hW0] at hb hB
  have HW0 := Lib.hid hW0
  clear hW0
  go_enter Tryz.func37, Tryz.ntmps37
  go_upto_region 1 with (fail)
  rw [← HW0.out]
  obtain ⟨k1, k2⟩ := hA.c2
  obtain ⟨k3, k4⟩ := hB.c2
  have z0 := hB.frozen 0
  have z1 := hB.frozen 1
  go_wp2_with fail
  obtain ⟨y0, y1⟩ := (hB.s2 (.int .i64 E) (.int .i64 (Y + m))).c2
  clear k3 k4
  refine bodyPost_ret (v := .agg #[.int .i64 E, .int .i64 (Y + m)]) (by simp [results, Tryz.results37, go_sem, y0, y1]) rfl ?_
  exact ⟨rfl, bel2 hb (by omega) _ _⟩

/-- usable: the table is not large, the life right. -/
def UseP (F S : Int) (n : Nat) (r : Nat → RH) (E Y : Int) (w : World) (e : Ending) (w' : World) : Prop := ∃ v, e = .returned (.bool v) ∧ (v = true → TabS n r 25 8 2 ∧ RightP F S n r E Y) ∧ Below w.heap.size w w'
set_option linter.unusedSimpArgs false in
set_option maxRecDepth 100000 in
set_option maxHeartbeats 2000000 in
theorem usable_v (F S E Y : Int) (A : Option Addr) (n c : Nat) (r : Nat → RH) (w : World) (hT : TabM w A n r) :
    Calls Tryz.prog 31 #[.agg #[.int .i64 F, .int .i64 S, .slice A n c], .agg #[.int .i64 E, .int .i64 Y]] w (UseP F S n r E Y w) := by
  have hE := (((Env.start w).tab hT).blk 24 #[.int .i64 F, .int .i64 S, .slice A n c] (g := w.heap.size) rfl).blk 26 #[.int .i64 E, .int .i64 Y] (g := w.heap.size + 1) (by simp)
  obtain ⟨W0, hW0⟩ : ∃ W0, W0 = ((w.alloc (.cells #[.int .i64 F, .int .i64 S, .slice A n c] 24)).alloc (.cells #[.int .i64 E, .int .i64 Y] 26)) := ⟨_, rfl⟩
  rw [← hW0] at hE
  have HW0 := Lib.hid hW0
  clear hW0
  go_enter Tryz.func31, Tryz.ntmps31
  go_upto_region 1 with (fail)
  rw [← HW0.out]
  obtain ⟨k1, k2, k3⟩ := hE.here.1.2.c3
  obtain ⟨k4, k5⟩ := hE.here.2.c2
  go_wp2_with fail
  refine (large_any F S 25 8 2 A n c r _ hE.here.1.1.2 (by decide) (by decide) (by decide) (by decide)).mono ?_
  rintro e w1 ⟨v, rfl, hv, hb⟩
  replace hE := hE.step hb
  clear hb k1 k2 k3 k4 k5
  cases v with
  | true =>
    clear hv
    go_wp2_with fail
    go_ret
    exact ⟨false, rfl, (fun h => by cases h), hE.bel⟩
  | false =>
    have HS := Lib.hid (hv rfl)
    clear hv
    obtain ⟨k1, k2, k3⟩ := hE.here.1.2.c3
    obtain ⟨k4, k5⟩ := hE.here.2.c2
    go_wp2_with fail
    refine (lright_any F S E Y A n c r _ hE.here.1.1.2 (HS.out.b (by decide) (by decide) (by decide))).mono ?_
    rintro e w2 ⟨v, rfl, hv, hb⟩
    replace hE := hE.step hb
    have HV := Lib.hid hv
    clear hb hv k1 k2 k3 k4 k5
    go_wp2_with fail
    go_ret
    exact ⟨v, rfl, fun h => ⟨HS.out, HV.out.1 h⟩, hE.bel⟩
end Go.Proofs.YtgkepllfdhcdpaaGreat
