/-
  The walk of SurvivorSum.
-/
import Derived.Test.YtjgihmmeimfheaaGreatK3
import Derived.Test.YtjgihmmeimfheaaGreatK18
import Derived.Test.YtjgihmmeimfheaaGreatSVB
import Derived.Test.YtjgihmmeimfheaaGreatSvW
namespace Go.Proofs.YtjgihmmeimfheaaGreat
open Go.RowKit

set_option linter.unusedSimpArgs false in
set_option maxRecDepth 100000 in
set_option maxHeartbeats 8000000 in
theorem svsum_walk {A : Option Addr} {n c : Nat} {r : Nat → Cl} {w : World} (hM : ClM A n r w) (a : Int) :
  Calls Tryz.prog 4 #[.int .i64 a, .slice A n c] w (fun e w' => e = .returned (.bool true) ∧ Below w.heap.size w w') := by
 have HhM := Lib.hid hM
 clear hM
 have hE := Env.start w
 go_enter Tryz.func4, Tryz.ntmps4
 go_wp2_with fail
 refine hE.br (awake_v _) ?_
 clear hE
 intro w1 hE
 go_wp2_with fail
 refine (susable_v (r := r) a (HhM.out.below hE.bel)).mono ?_
 rintro e w2 ⟨v, rfl, hv, hb⟩
 replace hE := hE.step hb
 clear hb
 cases v with
 | false =>
  clear hv
  go_wp2_with fail
  go_ret
  exact ⟨rfl, hE.bel⟩
 | true =>
  obtain ⟨hn10, h0a, h1a, hok⟩ := hv.1 rfl
  clear hv
  have hw4 := hok.w (HhM.out.below hE.bel)
  have hK := hok.K
  have hwK : ∀ k, k < n → 0 ≤ wq r k ∧ 0 ≤ Kz r k := fun k hk => ⟨(hw4 k hk).1, (hK k hk).1⟩
  have Hhok := Lib.hid hok
  clear hok
  have Hhw4 := Lib.hid hw4
  clear hw4
  have HhK := Lib.hid hK
  clear hK
  have HhwK := Lib.hid hwK
  clear hwK
  go_wp2_with fail
  refine (sparts_v a ⟨h0a, h1a⟩ (HhM.out.below hE.bel) Hhok.out hn10).mono ?_
  rintro e w3 ⟨gp, cgp, p, t, rfl, ⟨hlvt, hftt, hpqp⟩, -, hRr, hb⟩
  replace hE := (hE.step hb).rwr hRr
  clear hb hRr
  have Hhlvt := Lib.hid hlvt
  clear hlvt
  have Hhpqp := Lib.hid hpqp
  clear hpqp
  go_wp2_with fail
  refine (sExact_v a ⟨h0a, h1a⟩ (HhM.out.below hE.bel) Hhok.out hn10).mono ?_
  rintro e w4 ⟨u, gx, cgx, hx, rfl, hlvu, hftu, -, hRr, hqq, hb⟩
  replace hE := ((hE.step hb).rwr hRr).fqs hqq
  clear hb hRr hqq
  have Hhlvu := Lib.hid hlvu
  clear hlvu
  go_wp2_with fail
  obtain ⟨T, hT⟩ : ∃ T, T = totZ a (wq r) (Kz r) n := ⟨_, rfl⟩
  have hut := Hhlvu.out.uniq Hhlvt.out
  subst hut
  have hsum := parts_sum Hhlvt.out Hhpqp.out
  rw [← hT] at hsum
  have hpb := fun k (hk : k < n) => parts_bound Hhlvt.out Hhpqp.out HhwK.out hk
  have htz := totZ_b (a := a) (w := wq r) (K := Kz r) (n := n) h0a (fun k hk => (HhK.out k hk).1)
  rw [← hT] at htz
  have hxl : ∀ j, j < n → fl (xq u (wq r) (Kz r) j) ≤ 52 := fun j hj => by
   unfold xq part mn; split
   · exact fl_times hftt (Hhw4.out j hj).2
   · have h2 := HhK.out j hj; exact fl_le2 (fl_int3 (by omega) (by omega)) (by decide)
  have hsz : ∀ k, k ≤ n → 0 ≤ suZ p k ∧ suZ p k ≤ (k : Int) * 1099511627776 := fun k hk => suZ_b (fun j hj => by have h1 := (hpb j (by omega)).1; have h2 := HhK.out j (by omega); omega)
  have HhT := Lib.hid hT
  clear hT
  have Hhsum := Lib.hid hsum
  clear hsum
  have Hhpb := Lib.hid hpb
  clear hpb
  have Hhtz := Lib.hid htz
  clear htz
  have Hhxl := Lib.hid hxl
  clear hxl
  have Hhsz := Lib.hid hsz
  clear hsz
  refine hE.br (ltotal_v a (HhM.out.below hE.bel) Hhok.out hn10) ?_
  clear hE
  intro w5 hE
  rw [← HhT.out]
  go_wp2_with fail
  refine hE.fr (ffromInt_v 1 _ (by decide) (by decide)) ?_
  clear hE
  intro sb Ab nb cb tb Bb mb db w6 hE
  go_upto_region 11 with (fail)
  obtain ⟨g7, hg7⟩ : ∃ g7, g7 = w6.heap.size := ⟨_, rfl⟩
  have hl7_0 : gp < g7 := by rw [hg7]; exact Rw.lt (hE.h3)
  have hl7_1 : gx < g7 := by rw [hg7]; exact Rw.lt (hE.h2)
  have hlw_g7 : w.heap.size ≤ g7 := by rw [hg7]; exact hE.bel.size
  replace hE := hE.blk 29 #[.bool sb, .slice Ab nb cb, .bool tb, .slice Bb mb db] (g := g7) hg7.symm
  generalize w6.alloc (.cells #[.bool sb, .slice Ab nb cb, .bool tb, .slice Bb mb db] 29) = W7 at hE ⊢
  rw [← hg7]
  clear hg7
  go_wp2_with fail
  go_loopw [9, 11] (fun lf x wr => ∃ k : Nat, k ≤ n ∧ lf = .int .i64 (T - suZ p k) ∧ x = .int .i64 (k : Int) ∧ Env w (fun V => (((((True ∧ Rw 3 1 gp n cgp (fun j => [.int .i64 (p j)]) V) ∧ Rw 29 4 gx n cgx (fun j => zqL (hx j)) V) ∧ FqS hx n (xq u (wq r) (Kz r)) V) ∧ FV V ((1 : Int) : Rat) sb Ab nb tb Bb mb) ∧ Blk 29 (g7) #[.bool sb, .slice Ab nb cb, .bool tb, .slice Bb mb db] V)) wr) (fun _ x _ => n - (intOf x).toNat)
  case atStart => exact ⟨0, Nat.zero_le _, by simp [suZ], rfl, hE⟩
  case round =>
   clear hE
   obtain ⟨k, hk, rfl, rfl, hE⟩ := hrel
   by_cases hlt : k < n
   rotate_left
   ·
    obtain rfl : k = n := by omega
    have t1 : decide ((k : Int) < (k : Int)) = false := decide_eq_false (by omega)
    have u1 : (T - suZ p k == 0) = true := by rw [beq_iff_eq, Hhsum.out]; omega
    go_wp2_with fail
    go_ret
    exact ⟨rfl, hE.bel⟩
   obtain ⟨b, o, rfl, hb, hc⟩ := (HhM.out.below hE.bel) (by omega)
   clear hb hc
   obtain ⟨x, hx2⟩ : ∃ x, x = r k := ⟨_, rfl⟩
   obtain ⟨y, hy⟩ : ∃ y, y = hx k := ⟨_, rfl⟩
   obtain ⟨z, hz⟩ : ∃ z, z = p k := ⟨_, rfl⟩
   obtain ⟨X, hX⟩ : ∃ X, X = xq u (wq r) (Kz r) k := ⟨_, rfl⟩
   have hyv := hE.h2 k hlt
   rw [← hy, ← hX] at hyv
   have hxk := Hhxl.out k hlt
   rw [← hX] at hxk
   obtain ⟨⟨hz0, hzK⟩, ⟨hz1, hz2⟩, hz3⟩ := Hhpb.out k hlt
   rw [← hz] at hz0 hzK hz1 hz2 hz3
   rw [← hX] at hz1 hz2
   have hxb : 0 ≤ x.K ∧ x.K ≤ 1099511627776 := by rw [hx2]; exact HhK.out k hlt
   have hzx : z ≤ x.K := by rw [hx2]; exact hzK
   have t1 : decide ((k : Int) < (n : Int)) = true := decide_eq_true (by omega)
   have t2 : (k : Int) < (n : Int) := by omega
   have hsk := Hhsz.out k hk
   have htt := Hhtz.out
   have o1 : IntKind.i64.wrap (T - suZ p k - z) = T - suZ p k - z := by rw [IntKind.wrap_i64]; omega
   have hfz : fl ((z : Int) : Rat) ≤ 3 := fl_int3 (by omega) (by omega)
   have hfu : fl (((z : Int) : Rat) - X) ≤ 56 := fl_minus hfz hxk
   have hxw : FV wr (wq r k) x.w.s x.w.A x.w.n x.w.t x.w.B x.w.m := by rw [hx2]; exact (ClM.fv (HhM.out.below hE.bel) Hhok.out hlt).2.1
   have hnz := FV.nz hxw
   have kz := Rw.cell (hE.h4) (k := k) (i := 0) (o := k) (v := .int .i64 z) hlt (by decide) (by omega) (by rw [hz]; rfl)
   have Hhx2 := Lib.hid hx2
   clear hx2
   have Hhy := Lib.hid hy
   clear hy
   have Hhz := Lib.hid hz
   clear hz
   have HhX := Lib.hid hX
   clear hX
   have Hhz1 := Lib.hid hz1
   clear hz1
   have Hhz2 := Lib.hid hz2
   clear hz2
   have Hhz3 := Lib.hid hz3
   clear hz3
   have Hhnz := Lib.hid hnz
   clear hnz
   clear hsk htt hxw
   replace hE := (hE.fv hyv).clm (HhM.out.below hE.bel)
   clear hyv hzK
   go_upto_region 15 with (fail)
   clear kz t1 o1
   go_cut [12, 13] from 70 to 83 (fun p0 p1 wx => ∃ G15 sv Av nv cv tv Bv mv dv, p0 = .pointer (some ⟨G15, 0, none⟩) ∧ p1 = .int .i64 0 ∧ (g7 < G15) ∧ Env w (fun V => (((((((((True ∧ Rw 3 1 gp n cgp (fun j => [.int .i64 (p j)]) V) ∧ Rw 29 4 gx n cgx (fun j => zqL (hx j)) V) ∧ FqS hx n (xq u (wq r) (Kz r)) V) ∧ FV V ((1 : Int) : Rat) sb Ab nb tb Bb mb) ∧ Blk 29 (g7) #[.bool sb, .slice Ab nb cb, .bool tb, .slice Bb mb db] V) ∧ FV V X y.s y.A y.n y.t y.B y.m) ∧ ClM (some ⟨b, o, none⟩) n r V) ∧ FV V (((z : Int) : Rat) - X) sv Av nv tv Bv mv) ∧ Blk 29 (G15) #[.bool sv, .slice Av nv cv, .bool tv, .slice Bv mv dv] V)) wx)
   case first =>
    replace hE := hE.drew
    refine wp_region_held_drew (S := fun V => Rw 3 1 gp n cgp (fun j => [.int .i64 (p j)]) V ∧ Rw 29 4 gx n cgx (fun j => zqL (hx j)) V) (by kernel_rfl) (⟨hE.h6, hE.h5⟩) (fun hHeld => ?_)
    generalize wr.drew = wd at *
    refine tk 0 ?_
    try simp only [PL]
    refine tk 1 ?_
    try simp only [PL]
    refine tk 2 ?_
    try simp only [PL]
    refine wpAnyH_take (i := 3) (v := ?v1_3_4) rfl (by kernel_rfl) (by kernel_rfl) (by kernel_rfl) (fun _ _ _ h => h) (Or.inl ⟨by rfl, ?hy1_3_4⟩) (by assumption) ?rest1_3_4
    case hy1_3_4 =>
     intro w hSw
     have kc := Rw.cell hSw.1 (k := k) (i := 0) (o := k) (v := .int .i64 z) hlt (by decide) (by omega) (by rw [Hhz.out]; rfl)
     clear hSw
     first | (go_simp; done) | (go_simp; with_reducible rfl)
    try simp only [PL]
    refine tk 5 ?_
    try simp only [PL]
    refine tk 6 ?_
    try simp only [PL]
    refine tk 7 ?_
    try simp only [PL]
    refine wpAnyH_take (i := 8) (v := ?v1_8_8) rfl (by kernel_rfl) (by kernel_rfl) (by kernel_rfl) (fun _ _ _ h => h) (Or.inl ⟨by rfl, ?hy1_8_8⟩) (by assumption) ?rest1_8_8
    case hy1_8_8 =>
     intro w hSw
     have kc0 := Rw.cell hSw.2 (k := k) (i := 0) (o := k * 4) (v := .bool y.s) hlt (by decide) rfl (by rw [Hhy.out]; rfl)
     have kc1 := Rw.cell hSw.2 (k := k) (i := 1) (o := k * 4 + 1) (v := .slice y.A y.n y.c) hlt (by decide) rfl (by rw [Hhy.out]; rfl)
     have kc2 := Rw.cell hSw.2 (k := k) (i := 2) (o := k * 4 + 2) (v := .bool y.t) hlt (by decide) rfl (by rw [Hhy.out]; rfl)
     have kc3 := Rw.cell hSw.2 (k := k) (i := 3) (o := k * 4 + 3) (v := .slice y.B y.m y.d) hlt (by decide) rfl (by rw [Hhy.out]; rfl)
     clear hSw
     first | (go_simp; done) | (go_simp; with_reducible rfl)
    try simp only [PL]
    refine wpAnyH_ready (rs := [4, 13]) (by kernel_rfl) (by simp) (AllReadyH.cons rfl (fun K hK => ?_) (AllReadyH.cons rfl (fun K hK => ?_) (AllReadyH.nil)))
    ·
     go_simp
     refine hE.fr (ffromInt_v z _ (by omega) (by omega)) ?_
     clear hE
     intro sf Af nf cf tf Bf mf df w8 hE
     go_wp2_with fail
     refine hK.out _ _ (⟨hE.h7, hE.h6⟩) (fun hHeld => ?_)
     clear hK K
     try simp only [PL]
     refine wpAnyH_ready (rs := [9, 13]) (by kernel_rfl) (by simp) (AllReadyH.cons rfl (fun K hK => ?_) (AllReadyH.cons rfl (fun K hK => ?_) (AllReadyH.nil)))
     ·
      go_simp
      refine hE.fr (fsub_v (ca := cf) (da := df) (cb := y.c) (db := y.d) (hE.here.2) (hE.h2) (by omega) (by omega) (by omega)) ?_
      clear hE
      intro sv Av nv cv tv Bv mv dv w9 hE
      go_wp2_with fail
      refine hK.out _ _ (⟨hE.h8, hE.h7⟩) (fun hHeld => ?_)
      clear hK K
      try simp only [PL]
      refine tk 10 ?_
      try simp only [PL]
      refine tk 11 ?_
      try simp only [PL]
      refine tk 12 ?_
      try simp only [PL]
      refine r1 13 (fun K hK => ?_)
      go_simp
      obtain ⟨g10, hg10⟩ : ∃ g10, g10 = w9.heap.size := ⟨_, rfl⟩
      have hl10_0 : gp < g10 := by rw [hg10]; exact Rw.lt (hE.h8)
      have hl10_1 : gx < g10 := by rw [hg10]; exact Rw.lt (hE.h7)
      have hl10_4 : g7 < g10 := by rw [hg10]; exact (hE.h4).lt
      have hlw_g10 : w.heap.size ≤ g10 := by rw [hg10]; exact hE.bel.size
      replace hE := hE.blk 29 #[.bool false, .slice none 0 0, .bool false, .slice none 0 0] (g := g10) hg10.symm
      generalize w9.alloc (.cells #[.bool false, .slice none 0 0, .bool false, .slice none 0 0] 29) = W10 at hE ⊢
      rw [← hg10]
      clear hg10
      refine hK.out _ _ (⟨hE.h9, hE.h8⟩) (fun hHeld => ?_)
      clear hK K
      try simp only [PL]
      refine r1 14 (fun K hK => ?_)
      have hgl11 : w.heap.size ≤ g10 := by omega
      obtain ⟨x11_0, x11_1, x11_2, x11_3⟩ := (hE.here.2).c4
      obtain ⟨f11_0, f11_1, f11_2, f11_3⟩ := hE.here.2.f4
      replace hE := (((((((((((Env.again (bel4 hE.bel hgl11 (.bool sv) (.slice Av nv cv) (.bool tv) (.slice Bv mv dv))).rwr ((hE.h9).grownB (st4_grown (hE.here.2) (.bool sv) (.slice Av nv cv) (.bool tv) (.slice Bv mv dv)) ((hE.h9).ne (hE.here.2) (by decide)))).rwr ((hE.h8).grownB (st4_grown (hE.here.2) (.bool sv) (.slice Av nv cv) (.bool tv) (.slice Bv mv dv)) (by omega))).fqs (FqS.grownB (hE.h7) (hE.here.2) rfl (st4_grown (hE.here.2) (.bool sv) (.slice Av nv cv) (.bool tv) (.slice Bv mv dv)))).fv ((hE.h6).sep4 hE.here.2 rfl (.bool sv) (.slice Av nv cv) (.bool tv) (.slice Bv mv dv) rfl rfl rfl)).blkI ((hE.h5).far4 (R := g10) (by omega) (.bool sv) (.slice Av nv cv) (.bool tv) (.slice Bv mv dv))).fv ((hE.h4).sep4 hE.here.2 rfl (.bool sv) (.slice Av nv cv) (.bool tv) (.slice Bv mv dv) rfl rfl rfl)).clm (HhM.out.below (bel4 hE.bel (by omega) (.bool sv) (.slice Av nv cv) (.bool tv) (.slice Bv mv dv)))).fv ((hE.h2).sep4 hE.here.2 rfl (.bool sv) (.slice Av nv cv) (.bool tv) (.slice Bv mv dv) rfl rfl rfl)).fv ((hE.here.1.2).sep4 hE.here.2 rfl (.bool sv) (.slice Av nv cv) (.bool tv) (.slice Bv mv dv) rfl rfl rfl)).blkI ((hE.here.2).s4 (.bool sv) (.slice Av nv cv) (.bool tv) (.slice Bv mv dv)))
      go_simp
      clear x11_0 x11_1 x11_2 x11_3 f11_0 f11_1 f11_2 f11_3 hgl11
      generalize ((((W10.setCell ⟨g10, 0, none⟩ (.bool sv)).setCell ⟨g10, 1, none⟩ (.slice Av nv cv)).setCell ⟨g10, 2, none⟩ (.bool tv)).setCell ⟨g10, 3, none⟩ (.slice Bv mv dv)) = W11 at hE ⊢
      refine hK.out _ _ (⟨hE.h9, hE.h8⟩) (fun hHeld => ?_)
      clear hK K
      try simp only [PL]
      refine tk 15 ?_
      try simp only [PL]
      refine wpAnyH_done (by kernel_rfl) ?_ _
      go_wp2_with fail
      go_meet
      exact ⟨g10, sv, Av, nv, cv, tv, Bv, mv, dv, rfl, rfl, by omega, ((((((((((Env.again hE.bel).rwr (hE.h9)).rwr (hE.h8)).fqs (hE.h7)).fv (hE.h6)).blkI (hE.h5)).fv (hE.h4)).clm (hE.h3)).fv (hE.here.1.2)).blkI (hE.here.2))⟩
     ·
      go_simp
      obtain ⟨g12, hg12⟩ : ∃ g12, g12 = w8.heap.size := ⟨_, rfl⟩
      have hl12_0 : gp < g12 := by rw [hg12]; exact Rw.lt (hE.h7)
      have hl12_1 : gx < g12 := by rw [hg12]; exact Rw.lt (hE.h6)
      have hl12_4 : g7 < g12 := by rw [hg12]; exact (hE.h3).lt
      have hlw_g12 : w.heap.size ≤ g12 := by rw [hg12]; exact hE.bel.size
      replace hE := hE.blk 29 #[.bool false, .slice none 0 0, .bool false, .slice none 0 0] (g := g12) hg12.symm
      generalize w8.alloc (.cells #[.bool false, .slice none 0 0, .bool false, .slice none 0 0] 29) = W12 at hE ⊢
      rw [← hg12]
      clear hg12
      refine hK.out _ _ (⟨hE.h8, hE.h7⟩) (fun hHeld => ?_)
      clear hK K
      try simp only [PL]
      refine r1 9 (fun K hK => ?_)
      go_simp
      refine hE.fr (fsub_v (ca := cf) (da := df) (cb := y.c) (db := y.d) (hE.here.1.2) (hE.h3) (by omega) (by omega) (by omega)) ?_
      clear hE
      intro sv Av nv cv tv Bv mv dv w13 hE
      go_wp2_with fail
      refine hK.out _ _ (⟨hE.h9, hE.h8⟩) (fun hHeld => ?_)
      clear hK K
      try simp only [PL]
      refine tk 10 ?_
      try simp only [PL]
      refine tk 11 ?_
      try simp only [PL]
      refine tk 12 ?_
      try simp only [PL]
      refine r1 14 (fun K hK => ?_)
      have hgl14 : w.heap.size ≤ g12 := by omega
      obtain ⟨x14_0, x14_1, x14_2, x14_3⟩ := (hE.here.1.2).c4
      obtain ⟨f14_0, f14_1, f14_2, f14_3⟩ := hE.here.1.2.f4
      replace hE := (((((((((((Env.again (bel4 hE.bel hgl14 (.bool sv) (.slice Av nv cv) (.bool tv) (.slice Bv mv dv))).rwr ((hE.h9).grownB (st4_grown (hE.here.1.2) (.bool sv) (.slice Av nv cv) (.bool tv) (.slice Bv mv dv)) ((hE.h9).ne (hE.here.1.2) (by decide)))).rwr ((hE.h8).grownB (st4_grown (hE.here.1.2) (.bool sv) (.slice Av nv cv) (.bool tv) (.slice Bv mv dv)) (by omega))).fqs (FqS.grownB (hE.h7) (hE.here.1.2) rfl (st4_grown (hE.here.1.2) (.bool sv) (.slice Av nv cv) (.bool tv) (.slice Bv mv dv)))).fv ((hE.h6).sep4 hE.here.1.2 rfl (.bool sv) (.slice Av nv cv) (.bool tv) (.slice Bv mv dv) rfl rfl rfl)).blkI ((hE.h5).far4 (R := g12) (by omega) (.bool sv) (.slice Av nv cv) (.bool tv) (.slice Bv mv dv))).fv ((hE.h4).sep4 hE.here.1.2 rfl (.bool sv) (.slice Av nv cv) (.bool tv) (.slice Bv mv dv) rfl rfl rfl)).clm (HhM.out.below (bel4 hE.bel (by omega) (.bool sv) (.slice Av nv cv) (.bool tv) (.slice Bv mv dv)))).fv ((hE.h2).sep4 hE.here.1.2 rfl (.bool sv) (.slice Av nv cv) (.bool tv) (.slice Bv mv dv) rfl rfl rfl)).blkI ((hE.here.1.2).s4 (.bool sv) (.slice Av nv cv) (.bool tv) (.slice Bv mv dv))).fv ((hE.here.2).sep4 hE.here.1.2 rfl (.bool sv) (.slice Av nv cv) (.bool tv) (.slice Bv mv dv) rfl rfl rfl))
      go_simp
      clear x14_0 x14_1 x14_2 x14_3 f14_0 f14_1 f14_2 f14_3 hgl14
      generalize ((((w13.setCell ⟨g12, 0, none⟩ (.bool sv)).setCell ⟨g12, 1, none⟩ (.slice Av nv cv)).setCell ⟨g12, 2, none⟩ (.bool tv)).setCell ⟨g12, 3, none⟩ (.slice Bv mv dv)) = W14 at hE ⊢
      refine hK.out _ _ (⟨hE.h9, hE.h8⟩) (fun hHeld => ?_)
      clear hK K
      try simp only [PL]
      refine tk 15 ?_
      try simp only [PL]
      refine wpAnyH_done (by kernel_rfl) ?_ _
      go_wp2_with fail
      go_meet
      exact ⟨g12, sv, Av, nv, cv, tv, Bv, mv, dv, rfl, rfl, by omega, ((((((((((Env.again hE.bel).rwr (hE.h9)).rwr (hE.h8)).fqs (hE.h7)).fv (hE.h6)).blkI (hE.h5)).fv (hE.h4)).clm (hE.h3)).fv (hE.here.2)).blkI (hE.here.1.2))⟩
    ·
     go_simp
     obtain ⟨g15, hg15⟩ : ∃ g15, g15 = wd.heap.size := ⟨_, rfl⟩
     have hl15_0 : gp < g15 := by rw [hg15]; exact Rw.lt (hE.h6)
     have hl15_1 : gx < g15 := by rw [hg15]; exact Rw.lt (hE.h5)
     have hl15_4 : g7 < g15 := by rw [hg15]; exact (hE.h2).lt
     have hlw_g15 : w.heap.size ≤ g15 := by rw [hg15]; exact hE.bel.size
     replace hE := hE.blk 29 #[.bool false, .slice none 0 0, .bool false, .slice none 0 0] (g := g15) hg15.symm
     generalize wd.alloc (.cells #[.bool false, .slice none 0 0, .bool false, .slice none 0 0] 29) = W15 at hE ⊢
     rw [← hg15]
     clear hg15
     refine hK.out _ _ (⟨hE.h7, hE.h6⟩) (fun hHeld => ?_)
     clear hK K
     try simp only [PL]
     refine r1 4 (fun K hK => ?_)
     go_simp
     refine hE.fr (ffromInt_v z _ (by omega) (by omega)) ?_
     clear hE
     intro sf Af nf cf tf Bf mf df w16 hE
     go_wp2_with fail
     refine hK.out _ _ (⟨hE.h8, hE.h7⟩) (fun hHeld => ?_)
     clear hK K
     try simp only [PL]
     refine r1 9 (fun K hK => ?_)
     go_simp
     refine hE.fr (fsub_v (ca := cf) (da := df) (cb := y.c) (db := y.d) (hE.here.2) (hE.h3) (by omega) (by omega) (by omega)) ?_
     clear hE
     intro sv Av nv cv tv Bv mv dv w17 hE
     go_wp2_with fail
     refine hK.out _ _ (⟨hE.h9, hE.h8⟩) (fun hHeld => ?_)
     clear hK K
     try simp only [PL]
     refine tk 10 ?_
     try simp only [PL]
     refine tk 11 ?_
     try simp only [PL]
     refine tk 12 ?_
     try simp only [PL]
     refine r1 14 (fun K hK => ?_)
     have hgl18 : w.heap.size ≤ g15 := by omega
     obtain ⟨x18_0, x18_1, x18_2, x18_3⟩ := (hE.h2).c4
     obtain ⟨f18_0, f18_1, f18_2, f18_3⟩ := hE.h2.f4
     replace hE := (((((((((((Env.again (bel4 hE.bel hgl18 (.bool sv) (.slice Av nv cv) (.bool tv) (.slice Bv mv dv))).rwr ((hE.h9).grownB (st4_grown (hE.h2) (.bool sv) (.slice Av nv cv) (.bool tv) (.slice Bv mv dv)) ((hE.h9).ne (hE.h2) (by decide)))).rwr ((hE.h8).grownB (st4_grown (hE.h2) (.bool sv) (.slice Av nv cv) (.bool tv) (.slice Bv mv dv)) (by omega))).fqs (FqS.grownB (hE.h7) (hE.h2) rfl (st4_grown (hE.h2) (.bool sv) (.slice Av nv cv) (.bool tv) (.slice Bv mv dv)))).fv ((hE.h6).sep4 hE.h2 rfl (.bool sv) (.slice Av nv cv) (.bool tv) (.slice Bv mv dv) rfl rfl rfl)).blkI ((hE.h5).far4 (R := g15) (by omega) (.bool sv) (.slice Av nv cv) (.bool tv) (.slice Bv mv dv))).fv ((hE.h4).sep4 hE.h2 rfl (.bool sv) (.slice Av nv cv) (.bool tv) (.slice Bv mv dv) rfl rfl rfl)).clm (HhM.out.below (bel4 hE.bel (by omega) (.bool sv) (.slice Av nv cv) (.bool tv) (.slice Bv mv dv)))).blkI ((hE.h2).s4 (.bool sv) (.slice Av nv cv) (.bool tv) (.slice Bv mv dv))).fv ((hE.here.1.2).sep4 hE.h2 rfl (.bool sv) (.slice Av nv cv) (.bool tv) (.slice Bv mv dv) rfl rfl rfl)).fv ((hE.here.2).sep4 hE.h2 rfl (.bool sv) (.slice Av nv cv) (.bool tv) (.slice Bv mv dv) rfl rfl rfl))
     go_simp
     clear x18_0 x18_1 x18_2 x18_3 f18_0 f18_1 f18_2 f18_3 hgl18
     generalize ((((w17.setCell ⟨g15, 0, none⟩ (.bool sv)).setCell ⟨g15, 1, none⟩ (.slice Av nv cv)).setCell ⟨g15, 2, none⟩ (.bool tv)).setCell ⟨g15, 3, none⟩ (.slice Bv mv dv)) = W18 at hE ⊢
     refine hK.out _ _ (⟨hE.h9, hE.h8⟩) (fun hHeld => ?_)
     clear hK K
     try simp only [PL]
     refine tk 15 ?_
     try simp only [PL]
     refine wpAnyH_done (by kernel_rfl) ?_ _
     go_wp2_with fail
     go_meet
     exact ⟨g15, sv, Av, nv, cv, tv, Bv, mv, dv, rfl, rfl, by omega, ((((((((((Env.again hE.bel).rwr (hE.h9)).rwr (hE.h8)).fqs (hE.h7)).fv (hE.h6)).blkI (hE.h5)).fv (hE.h4)).clm (hE.h3)).fv (hE.here.2)).blkI (hE.h2))⟩
   case rest =>
   clear hE
   obtain ⟨G15, sv, Av, nv, cv, tv, Bv, mv, dv, rfl, rfl, hG15_0, hE⟩ := hcut
   generalize wc = wk15 at hE ⊢
   go_upto_region 16 with (fail)
   obtain ⟨k19, k20, k21, k22⟩ := (hE.here.2).c4
   go_wp2_with fail
   refine hE.fr (fneg_v (ca := cv) (da := dv) (hE.here.1.2) (by omega)) ?_
   clear hE k19 k20 k21 k22
   intro sg Ag ng cg tg Bg mg dg w23 hE
   go_upto_region 17 with (fail)
   obtain ⟨g24, hg24⟩ : ∃ g24, g24 = w23.heap.size := ⟨_, rfl⟩
   have hl24_0 : gp < g24 := by rw [hg24]; exact Rw.lt (hE.h9)
   have hl24_1 : gx < g24 := by rw [hg24]; exact Rw.lt (hE.h8)
   have hl24_4 : g7 < g24 := by rw [hg24]; exact (hE.h5).lt
   have hl24_8 : G15 < g24 := by rw [hg24]; exact (hE.here.1.2).lt
   have hlw_g24 : w.heap.size ≤ g24 := by rw [hg24]; exact hE.bel.size
   replace hE := hE.blk 29 #[.bool sg, .slice Ag ng cg, .bool tg, .slice Bg mg dg] (g := g24) hg24.symm
   generalize w23.alloc (.cells #[.bool sg, .slice Ag ng cg, .bool tg, .slice Bg mg dg] 29) = W24 at hE ⊢
   rw [← hg24]
   clear hg24
   have hu1 : cmpQ (((z : Int) : Rat) - X) ((1 : Int) : Rat) = -1 := by rw [cmpQ_val, if_pos (show ((z : Int) : Rat) - X < ((1 : Int) : Rat) from Hhz1.out)]
   have hu2 : cmpQ (-(((z : Int) : Rat) - X)) ((1 : Int) : Rat) = -1 := by rw [cmpQ_val, if_pos (show -(((z : Int) : Rat) - X) < ((1 : Int) : Rat) by have h1 := Hhz2.out; have h2 : ((1 : Int) : Rat) = 1 := rfl; grind)]
   have Hhu1 := Lib.hid hu1
   clear hu1
   have Hhu2 := Lib.hid hu2
   clear hu2
   have u3 : decide (z < 0) = false := decide_eq_false (by omega)
   have u4 : decide (x.K < z) = false := decide_eq_false (by omega)
   have hfd : fl (-(((z : Int) : Rat) - X)) ≤ 56 := by rw [fl_neg]; exact hfu
   by_cases h0 : x.w.n = 0
   ·
    have u5 : ((x.w.n : Int) == 0) = true := beq_iff_eq.2 (by omega)
    have u6 : (x.w.n == 0) = true := beq_iff_eq.2 h0
    have hz00 : z = 0 := Hhz3.out (Hhnz.out.1 h0)
    have u7 : (z != 0) = false := by rw [bne_eq_false_iff_eq]; exact hz00
    have Hhz00 := Lib.hid hz00
    clear hz00
    have Hh0 := Lib.hid h0
    clear h0
    replace hE := hE.drew
    refine wp_region_held_drew (S := fun V => Rw 3 1 gp n cgp (fun j => [.int .i64 (p j)]) V ∧ ClM (some ⟨b, o, none⟩) n r V ∧ Blk 29 (G15) #[.bool sv, .slice Av nv cv, .bool tv, .slice Bv mv dv] V ∧ Blk 29 (g7) #[.bool sb, .slice Ab nb cb, .bool tb, .slice Bb mb db] V ∧ Blk 29 (g24) #[.bool sg, .slice Ag ng cg, .bool tg, .slice Bg mg dg] V) (by kernel_rfl) (⟨hE.h10, hE.h4, hE.h2, hE.h6, hE.here.2⟩) (fun hHeld => ?_)
    generalize W24.drew = wd at *
    refine tk 0 ?_
    try simp only [PL]
    refine tk 1 ?_
    try simp only [PL]
    refine tk 2 ?_
    try simp only [PL]
    refine tk 3 ?_
    try simp only [PL]
    refine tk 4 ?_
    try simp only [PL]
    refine tk 5 ?_
    try simp only [PL]
    refine tk 6 ?_
    try simp only [PL]
    refine tk 7 ?_
    try simp only [PL]
    refine tk 8 ?_
    try simp only [PL]
    refine tk 9 ?_
    try simp only [PL]
    refine wpAnyH_take (i := 10) (v := ?v2_10_11) rfl (by kernel_rfl) (by kernel_rfl) (by kernel_rfl) (fun _ _ _ h => h) (Or.inl ⟨by rfl, ?hy2_10_11⟩) (by assumption) ?rest2_10_11
    case hy2_10_11 =>
     intro w hSw
     have kc := Rw.cell hSw.1 (k := k) (i := 0) (o := k) (v := .int .i64 z) hlt (by decide) (by omega) (by rw [Hhz.out]; rfl)
     clear hSw
     first | (go_simp; done) | (go_simp; with_reducible rfl)
    try simp only [PL]
    refine tk 11 ?_
    try simp only [PL]
    refine tk 12 ?_
    try simp only [PL]
    refine tk 13 ?_
    try simp only [PL]
    refine tk 14 ?_
    try simp only [PL]
    refine tk 15 ?_
    try simp only [PL]
    refine tk 16 ?_
    try simp only [PL]
    refine wpAnyH_take (i := 17) (v := ?v2_17_18) rfl (by kernel_rfl) (by kernel_rfl) (by kernel_rfl) (fun _ _ _ h => h) (Or.inl ⟨by rfl, ?hy2_17_18⟩) (by assumption) ?rest2_17_18
    case hy2_17_18 =>
     intro w hSw
     have kc := Rw.cell hSw.1 (k := k) (i := 0) (o := k) (v := .int .i64 z) hlt (by decide) (by omega) (by rw [Hhz.out]; rfl)
     clear hSw
     first | (go_simp; done) | (go_simp; with_reducible rfl)
    try simp only [PL]
    refine tk 18 ?_
    try simp only [PL]
    refine tk 19 ?_
    try simp only [PL]
    refine tk 20 ?_
    try simp only [PL]
    refine tk 21 ?_
    try simp only [PL]
    refine wpAnyH_take (i := 22) (v := ?v2_22_23) rfl (by kernel_rfl) (by kernel_rfl) (by kernel_rfl) (fun _ _ _ h => h) (Or.inl ⟨by rfl, ?hy2_22_23⟩) (by assumption) ?rest2_22_23
    case hy2_22_23 =>
     intro w hSw
     obtain ⟨b2, o2, e2, -, hc2⟩ := hSw.2.1 (by omega)
     cases e2
     obtain ⟨⟨d0, d1, d2, d3, d4, d5⟩, -⟩ := hc2 k hlt
     rw [← Hhx2.out] at d0 d1 d2 d3 d4 d5
     clear hc2
     clear hSw
     first | (go_simp; done) | (go_simp; with_reducible rfl)
    try simp only [PL]
    refine tk 23 ?_
    try simp only [PL]
    refine tk 24 ?_
    try simp only [PL]
    refine tk 25 ?_
    try simp only [PL]
    refine wpAnyH_take (i := 26) (v := ?v2_26_27) rfl (by kernel_rfl) (by kernel_rfl) (by kernel_rfl) (fun _ _ _ h => h) (Or.inl ⟨by rfl, ?hy2_26_27⟩) (by assumption) ?rest2_26_27
    case hy2_26_27 =>
     intro w hSw
     have kc0 := (hSw.2.2.1).cell 0
     have kc1 := (hSw.2.2.1).cell 1
     have kc2 := (hSw.2.2.1).cell 2
     have kc3 := (hSw.2.2.1).cell 3
     clear hSw
     first | (go_simp; done) | (go_simp; with_reducible rfl)
    try simp only [PL]
    refine wpAnyH_take (i := 27) (v := ?v2_27_28) rfl (by kernel_rfl) (by kernel_rfl) (by kernel_rfl) (fun _ _ _ h => h) (Or.inl ⟨by rfl, ?hy2_27_28⟩) (by assumption) ?rest2_27_28
    case hy2_27_28 =>
     intro w hSw
     have kc0 := (hSw.2.2.2.1).cell 0
     have kc1 := (hSw.2.2.2.1).cell 1
     have kc2 := (hSw.2.2.2.1).cell 2
     have kc3 := (hSw.2.2.2.1).cell 3
     clear hSw
     first | (go_simp; done) | (go_simp; with_reducible rfl)
    try simp only [PL]
    refine r1 28 (fun K hK => ?_)
    go_simp
    refine hE.br (fcmp_v (ca := cv) (da := dv) (cb := cb) (db := db) (hE.h3) (hE.h7) (by omega) (by decide)) ?_
    clear hE
    intro w25 hE
    rw [Hhu1.out]
    go_wp2_with fail
    refine hK.out _ _ (⟨hE.h10, hE.h4, hE.h2, hE.h6, hE.here.2⟩) (fun hHeld => ?_)
    clear hK K
    try simp only [PL]
    refine tk 29 ?_
    try simp only [PL]
    refine tk 30 ?_
    try simp only [PL]
    refine tk 31 ?_
    try simp only [PL]
    refine wpAnyH_take (i := 32) (v := ?v2_32_32) rfl (by kernel_rfl) (by kernel_rfl) (by kernel_rfl) (fun _ _ _ h => h) (Or.inl ⟨by rfl, ?hy2_32_32⟩) (by assumption) ?rest2_32_32
    case hy2_32_32 =>
     intro w hSw
     have kc0 := (hSw.2.2.2.2).cell 0
     have kc1 := (hSw.2.2.2.2).cell 1
     have kc2 := (hSw.2.2.2.2).cell 2
     have kc3 := (hSw.2.2.2.2).cell 3
     clear hSw
     first | (go_simp; done) | (go_simp; with_reducible rfl)
    try simp only [PL]
    refine wpAnyH_take (i := 33) (v := ?v2_33_33) rfl (by kernel_rfl) (by kernel_rfl) (by kernel_rfl) (fun _ _ _ h => h) (Or.inl ⟨by rfl, ?hy2_33_33⟩) (by assumption) ?rest2_33_33
    case hy2_33_33 =>
     intro w hSw
     have kc0 := (hSw.2.2.2.1).cell 0
     have kc1 := (hSw.2.2.2.1).cell 1
     have kc2 := (hSw.2.2.2.1).cell 2
     have kc3 := (hSw.2.2.2.1).cell 3
     clear hSw
     first | (go_simp; done) | (go_simp; with_reducible rfl)
    try simp only [PL]
    refine r1 34 (fun K hK => ?_)
    go_simp
    refine hE.br (fcmp_v (ca := cg) (da := dg) (cb := cb) (db := db) (hE.here.1.2) (hE.h7) (by omega) (by decide)) ?_
    clear hE
    intro w26 hE
    rw [Hhu2.out]
    go_wp2_with fail
    refine hK.out _ _ (⟨hE.h10, hE.h4, hE.h2, hE.h6, hE.here.2⟩) (fun hHeld => ?_)
    clear hK K
    try simp only [PL]
    refine tk 35 ?_
    try simp only [PL]
    refine tk 36 ?_
    try simp only [PL]
    refine tk 37 ?_
    try simp only [PL]
    refine tk 38 ?_
    try simp only [PL]
    refine tk 39 ?_
    try simp only [PL]
    refine tk 40 ?_
    try simp only [PL]
    refine tk 41 ?_
    try simp only [PL]
    refine tk 42 ?_
    try simp only [PL]
    refine tk 43 ?_
    try simp only [PL]
    refine wpAnyH_take (i := 44) (v := ?v2_44_43) rfl (by kernel_rfl) (by kernel_rfl) (by kernel_rfl) (fun _ _ _ h => h) (Or.inl ⟨by rfl, ?hy2_44_43⟩) (by assumption) ?rest2_44_43
    case hy2_44_43 =>
     intro w hSw
     obtain ⟨b2, o2, e2, -, hc2⟩ := hSw.2.1 (by omega)
     cases e2
     obtain ⟨⟨d0, d1, d2, d3, d4, d5⟩, -⟩ := hc2 k hlt
     rw [← Hhx2.out] at d0 d1 d2 d3 d4 d5
     clear hc2
     clear hSw
     first | (go_simp; done) | (go_simp; with_reducible rfl)
    try simp only [PL]
    refine tk 45 ?_
    try simp only [PL]
    refine tk 46 ?_
    try simp only [PL]
    refine tk 47 ?_
    try simp only [PL]
    refine tk 48 ?_
    try simp only [PL]
    refine tk 49 ?_
    try simp only [PL]
    refine tk 50 ?_
    try simp only [PL]
    refine wpAnyH_take (i := 51) (v := ?v2_51_50) rfl (by kernel_rfl) (by kernel_rfl) (by kernel_rfl) (fun _ _ _ h => h) (Or.inl ⟨by rfl, ?hy2_51_50⟩) (by assumption) ?rest2_51_50
    case hy2_51_50 =>
     intro w hSw
     have kc := Rw.cell hSw.1 (k := k) (i := 0) (o := k) (v := .int .i64 z) hlt (by decide) (by omega) (by rw [Hhz.out]; rfl)
     clear hSw
     first | (go_simp; done) | (go_simp; with_reducible rfl)
    try simp only [PL]
    refine tk 52 ?_
    try simp only [PL]
    refine tk 53 ?_
    try simp only [PL]
    refine tk 54 ?_
    try simp only [PL]
    refine wpAnyH_done (by kernel_rfl) ?_ _
    go_wp2_with fail
    go_roundw
    case rel => exact ⟨k + 1, by omega, by rw [Hhz.out]; show _ = Value.int .i64 (T - (suZ p k + p k)); congr 1; omega, by go_num, ((((((Env.again hE.bel).rwr (hE.h10)).rwr (hE.h9)).fqs (hE.h8)).fv (hE.h7)).blkI (hE.h6))⟩
    case measure => simp [intOf]; omega
   have u5 : ((x.w.n : Int) == 0) = false := beq_eq_false_iff_ne.2 (by omega)
   have u6 : (x.w.n == 0) = false := beq_eq_false_iff_ne.2 h0
   have Hh0 := Lib.hid h0
   clear h0
   replace hE := hE.drew
   refine wp_region_held_drew (S := fun V => Rw 3 1 gp n cgp (fun j => [.int .i64 (p j)]) V ∧ ClM (some ⟨b, o, none⟩) n r V ∧ Blk 29 (G15) #[.bool sv, .slice Av nv cv, .bool tv, .slice Bv mv dv] V ∧ Blk 29 (g7) #[.bool sb, .slice Ab nb cb, .bool tb, .slice Bb mb db] V ∧ Blk 29 (g24) #[.bool sg, .slice Ag ng cg, .bool tg, .slice Bg mg dg] V) (by kernel_rfl) (⟨hE.h10, hE.h4, hE.h2, hE.h6, hE.here.2⟩) (fun hHeld => ?_)
   generalize W24.drew = wd at *
   refine tk 0 ?_
   try simp only [PL]
   refine tk 1 ?_
   try simp only [PL]
   refine tk 2 ?_
   try simp only [PL]
   refine tk 3 ?_
   try simp only [PL]
   refine tk 4 ?_
   try simp only [PL]
   refine tk 5 ?_
   try simp only [PL]
   refine tk 6 ?_
   try simp only [PL]
   refine tk 7 ?_
   try simp only [PL]
   refine tk 8 ?_
   try simp only [PL]
   refine tk 9 ?_
   try simp only [PL]
   refine wpAnyH_take (i := 10) (v := ?v3_10_11) rfl (by kernel_rfl) (by kernel_rfl) (by kernel_rfl) (fun _ _ _ h => h) (Or.inl ⟨by rfl, ?hy3_10_11⟩) (by assumption) ?rest3_10_11
   case hy3_10_11 =>
    intro w hSw
    have kc := Rw.cell hSw.1 (k := k) (i := 0) (o := k) (v := .int .i64 z) hlt (by decide) (by omega) (by rw [Hhz.out]; rfl)
    clear hSw
    first | (go_simp; done) | (go_simp; with_reducible rfl)
   try simp only [PL]
   refine tk 11 ?_
   try simp only [PL]
   refine tk 12 ?_
   try simp only [PL]
   refine tk 13 ?_
   try simp only [PL]
   refine tk 14 ?_
   try simp only [PL]
   refine tk 15 ?_
   try simp only [PL]
   refine tk 16 ?_
   try simp only [PL]
   refine wpAnyH_take (i := 17) (v := ?v3_17_18) rfl (by kernel_rfl) (by kernel_rfl) (by kernel_rfl) (fun _ _ _ h => h) (Or.inl ⟨by rfl, ?hy3_17_18⟩) (by assumption) ?rest3_17_18
   case hy3_17_18 =>
    intro w hSw
    have kc := Rw.cell hSw.1 (k := k) (i := 0) (o := k) (v := .int .i64 z) hlt (by decide) (by omega) (by rw [Hhz.out]; rfl)
    clear hSw
    first | (go_simp; done) | (go_simp; with_reducible rfl)
   try simp only [PL]
   refine tk 18 ?_
   try simp only [PL]
   refine tk 19 ?_
   try simp only [PL]
   refine tk 20 ?_
   try simp only [PL]
   refine tk 21 ?_
   try simp only [PL]
   refine wpAnyH_take (i := 22) (v := ?v3_22_23) rfl (by kernel_rfl) (by kernel_rfl) (by kernel_rfl) (fun _ _ _ h => h) (Or.inl ⟨by rfl, ?hy3_22_23⟩) (by assumption) ?rest3_22_23
   case hy3_22_23 =>
    intro w hSw
    obtain ⟨b2, o2, e2, -, hc2⟩ := hSw.2.1 (by omega)
    cases e2
    obtain ⟨⟨d0, d1, d2, d3, d4, d5⟩, -⟩ := hc2 k hlt
    rw [← Hhx2.out] at d0 d1 d2 d3 d4 d5
    clear hc2
    clear hSw
    first | (go_simp; done) | (go_simp; with_reducible rfl)
   try simp only [PL]
   refine tk 23 ?_
   try simp only [PL]
   refine tk 24 ?_
   try simp only [PL]
   refine tk 25 ?_
   try simp only [PL]
   refine wpAnyH_take (i := 26) (v := ?v3_26_27) rfl (by kernel_rfl) (by kernel_rfl) (by kernel_rfl) (fun _ _ _ h => h) (Or.inl ⟨by rfl, ?hy3_26_27⟩) (by assumption) ?rest3_26_27
   case hy3_26_27 =>
    intro w hSw
    have kc0 := (hSw.2.2.1).cell 0
    have kc1 := (hSw.2.2.1).cell 1
    have kc2 := (hSw.2.2.1).cell 2
    have kc3 := (hSw.2.2.1).cell 3
    clear hSw
    first | (go_simp; done) | (go_simp; with_reducible rfl)
   try simp only [PL]
   refine wpAnyH_take (i := 27) (v := ?v3_27_28) rfl (by kernel_rfl) (by kernel_rfl) (by kernel_rfl) (fun _ _ _ h => h) (Or.inl ⟨by rfl, ?hy3_27_28⟩) (by assumption) ?rest3_27_28
   case hy3_27_28 =>
    intro w hSw
    have kc0 := (hSw.2.2.2.1).cell 0
    have kc1 := (hSw.2.2.2.1).cell 1
    have kc2 := (hSw.2.2.2.1).cell 2
    have kc3 := (hSw.2.2.2.1).cell 3
    clear hSw
    first | (go_simp; done) | (go_simp; with_reducible rfl)
   try simp only [PL]
   refine r1 28 (fun K hK => ?_)
   go_simp
   refine hE.br (fcmp_v (ca := cv) (da := dv) (cb := cb) (db := db) (hE.h3) (hE.h7) (by omega) (by decide)) ?_
   clear hE
   intro w27 hE
   rw [Hhu1.out]
   go_wp2_with fail
   refine hK.out _ _ (⟨hE.h10, hE.h4, hE.h2, hE.h6, hE.here.2⟩) (fun hHeld => ?_)
   clear hK K
   try simp only [PL]
   refine tk 29 ?_
   try simp only [PL]
   refine tk 30 ?_
   try simp only [PL]
   refine tk 31 ?_
   try simp only [PL]
   refine wpAnyH_take (i := 32) (v := ?v3_32_32) rfl (by kernel_rfl) (by kernel_rfl) (by kernel_rfl) (fun _ _ _ h => h) (Or.inl ⟨by rfl, ?hy3_32_32⟩) (by assumption) ?rest3_32_32
   case hy3_32_32 =>
    intro w hSw
    have kc0 := (hSw.2.2.2.2).cell 0
    have kc1 := (hSw.2.2.2.2).cell 1
    have kc2 := (hSw.2.2.2.2).cell 2
    have kc3 := (hSw.2.2.2.2).cell 3
    clear hSw
    first | (go_simp; done) | (go_simp; with_reducible rfl)
   try simp only [PL]
   refine wpAnyH_take (i := 33) (v := ?v3_33_33) rfl (by kernel_rfl) (by kernel_rfl) (by kernel_rfl) (fun _ _ _ h => h) (Or.inl ⟨by rfl, ?hy3_33_33⟩) (by assumption) ?rest3_33_33
   case hy3_33_33 =>
    intro w hSw
    have kc0 := (hSw.2.2.2.1).cell 0
    have kc1 := (hSw.2.2.2.1).cell 1
    have kc2 := (hSw.2.2.2.1).cell 2
    have kc3 := (hSw.2.2.2.1).cell 3
    clear hSw
    first | (go_simp; done) | (go_simp; with_reducible rfl)
   try simp only [PL]
   refine r1 34 (fun K hK => ?_)
   go_simp
   refine hE.br (fcmp_v (ca := cg) (da := dg) (cb := cb) (db := db) (hE.here.1.2) (hE.h7) (by omega) (by decide)) ?_
   clear hE
   intro w28 hE
   rw [Hhu2.out]
   go_wp2_with fail
   refine hK.out _ _ (⟨hE.h10, hE.h4, hE.h2, hE.h6, hE.here.2⟩) (fun hHeld => ?_)
   clear hK K
   try simp only [PL]
   refine tk 35 ?_
   try simp only [PL]
   refine tk 36 ?_
   try simp only [PL]
   refine tk 37 ?_
   try simp only [PL]
   refine tk 38 ?_
   try simp only [PL]
   refine tk 39 ?_
   try simp only [PL]
   refine tk 40 ?_
   try simp only [PL]
   refine tk 41 ?_
   try simp only [PL]
   refine tk 42 ?_
   try simp only [PL]
   refine tk 43 ?_
   try simp only [PL]
   refine wpAnyH_take (i := 44) (v := ?v3_44_43) rfl (by kernel_rfl) (by kernel_rfl) (by kernel_rfl) (fun _ _ _ h => h) (Or.inl ⟨by rfl, ?hy3_44_43⟩) (by assumption) ?rest3_44_43
   case hy3_44_43 =>
    intro w hSw
    obtain ⟨b2, o2, e2, -, hc2⟩ := hSw.2.1 (by omega)
    cases e2
    obtain ⟨⟨d0, d1, d2, d3, d4, d5⟩, -⟩ := hc2 k hlt
    rw [← Hhx2.out] at d0 d1 d2 d3 d4 d5
    clear hc2
    clear hSw
    first | (go_simp; done) | (go_simp; with_reducible rfl)
   try simp only [PL]
   refine tk 45 ?_
   try simp only [PL]
   refine tk 46 ?_
   try simp only [PL]
   refine tk 47 ?_
   try simp only [PL]
   refine tu 48 ?_
   try simp only [PL]
   refine tu 49 ?_
   try simp only [PL]
   refine tu 50 ?_
   try simp only [PL]
   refine tu 51 ?_
   try simp only [PL]
   refine tu 52 ?_
   try simp only [PL]
   refine tk 53 ?_
   try simp only [PL]
   refine tk 54 ?_
   try simp only [PL]
   refine wpAnyH_done (by kernel_rfl) ?_ _
   go_wp2_with fail
   go_roundw
   case rel => exact ⟨k + 1, by omega, by rw [Hhz.out]; show _ = Value.int .i64 (T - (suZ p k + p k)); congr 1; omega, by go_num, ((((((Env.again hE.bel).rwr (hE.h10)).rwr (hE.h9)).fqs (hE.h8)).fv (hE.h7)).blkI (hE.h6))⟩
   case measure => simp [intOf]; omega
end Go.Proofs.YtjgihmmeimfheaaGreat
