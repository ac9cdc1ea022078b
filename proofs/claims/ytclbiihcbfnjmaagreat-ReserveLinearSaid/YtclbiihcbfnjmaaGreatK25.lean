/-
  Parts.
-/
import Derived.Test.YtclbiihcbfnjmaaGreatK8
import Derived.Test.YtclbiihcbfnjmaaGreatK20
import Derived.Test.YtclbiihcbfnjmaaGreatPA
import Derived.Test.YtclbiihcbfnjmaaGreatP7
import Derived.Test.YtclbiihcbfnjmaaGreatP8
import Derived.Test.YtclbiihcbfnjmaaGreatP9
import Derived.Test.YtclbiihcbfnjmaaGreatP11
set_option linter.unusedSimpArgs false
set_option maxRecDepth 100000
set_option maxHeartbeats 8000000
namespace Go.Proofs.YtclbiihcbfnjmaaGreat
section
open Go.RowKit

theorem va_ext {v : Rat} {f g L K : Nat → Rat} (h : ∀ k, k < 3 → f k = g k) {t : Nat} (ht : t ≤ 3) : va v f 3 L K t = va v g 3 L K t := by
 unfold va;rw [dd_ext h t ht, sf_congr (g := yr v f L K) (h := yr v g L K) (fun j hj => by unfold yr; rw [dd_ext h j (by omega), cc_ext h j hj]) t ht]
def exL : Nat → Rat := amt smL 3
def exK : Nat → Rat := amt smK 3
def exP : Nat → Rat := pay 2 (Rat.divInt 100 1)
theorem ex_ben : va exv exf 3 exL exK 0 = Rat.divInt 3712 5 := by decide +kernel
theorem ex_prm : va exv exf 3 exP nil0 0 = Rat.divInt 172 1 := by decide +kernel
theorem ex_equ : va exv exf 3 exL exK 0 / va exv exf 3 (pay 2 1) nil0 0 = Rat.divInt 18560 43 := by decide +kernel
theorem ex_val : va exv exf 3 (fun k => exL k - exP k) exK 0 = Rat.divInt 2852 5 ∧ va exv exf 3 (fun k => exL k - exP k) exK 1 = Rat.divInt 820 1 ∧ va exv exf 3 (fun k => exL k - exP k) exK 2 = Rat.divInt 1300 1 := by decide +kernel
theorem prem_ok {q : Rat} {s t : Bool} {A B : Option Addr} {n m : Nat} {W : World} (h : FV W q s A n t B m) (h0 : 0 ≤ q) (hl : fl q ≤ 4) (c d : Nat) : okF s n (FHof q s A n c t B m d).f t m (FHof q s A n c t B m d).g = true ∧ s = false ∧ n ≤ 4 ∧ m ≤ 4 := by
 obtain ⟨l1, l2⟩ := h.ln hl
 have hs : s = false := by rw [h.1.sgn]; exact decide_eq_false (by have := Rat.num_nonneg.2 h0; omega)
 exact ⟨okF_of h (Nat.le_trans hl (by decide)), hs, l1, l2⟩
theorem awakeP_t (w : World) :
  Calls Tryz.prog 14 #[] w (fun e w' => e = .returned (.bool true) ∧ Below w.heap.size w w') := by
 have hE := Env.start w
 go_enter Tryz.func14, Tryz.ntmps14
 go_wp2_with fail
 refine (smallP_v _).mono ?_
 rintro e w1 ⟨A, c, r, si, Ai, ni, ci, ti, Bi, mi, di, rfl, hT, hok, hq, hfv, hb⟩
 replace hE := hE.step hb;clear hb;replace hE := (hE.tab hT).fv hfv;clear hT hfv;go_wp2_with fail
 refine (psample_v _).mono ?_
 rintro e w2 ⟨sp, Ap, np, cp, tp, Bp, mp, dp, GA, GB, rfl, hp, hLi, hDe, hb⟩
 replace hE := hE.step hb;clear hb;have hT := hE.here.1.2;have hfv := hE.here.2;have hB := hok.small (by decide) rfl;have hR : RightP 60 1 3 r 60 0 := ⟨hok, by decide, by decide, by decide, by decide⟩;have hri : Rti (Rat.divInt 1 4) := ⟨by decide +kernel, by decide +kernel, by decide +kernel⟩;obtain ⟨hn1, hm1⟩ := hfv.ln hri.fl
 have hqv : 1 / (1 + (FHof (Rat.divInt 1 4) si Ai ni ci ti Bi mi di).q) = exv := by rw [FHof.q_eq hfv]; rfl
 have hfx := exf_eq hq;have hN : Cnt exv (fr 60 1 3 r 60 0) 3 := ⟨by rw [dd_ext hfx 3 (by decide)]; exact ex_cnt.1, fun k hk => by rw [dd_ext hfx k (by omega)]; exact ex_cnt.2 k hk⟩;have hpo := prem_ok hp (by decide +kernel) (by rw [fl_le]; decide +kernel) cp dp;have hpq : (FHof (Rat.divInt 100 1) sp Ap np cp tp Bp mp dp).q = Rat.divInt 100 1 := FHof.q_eq hp
 obtain ⟨b, hb⟩ : ∃ b : Bh, b = ⟨60, 1, A, 3, c, r, FHof (Rat.divInt 1 4) si Ai ni ci ti Bi mi di⟩ := ⟨_, rfl⟩
 obtain ⟨x, hx⟩ : ∃ x : Ct, x = ⟨60, 0, 2, FHof (Rat.divInt 100 1) sp Ap np cp tp Bp mp dp, some ⟨GA, 0, none⟩, 3, 3, smL, some ⟨GB, 0, none⟩, 3, 3, smK⟩ := ⟨_, rfl⟩
 have hbr : b.rd w2 := by rw [hb]; exact ⟨hT, hfv.rd⟩
 have hbb : b.bd := by rw [hb]; exact ⟨hB, by show ni ≤ 1000000; omega, by show mi ≤ 1000000; omega⟩
 have hxr : x.rd w2 := by rw [hx]; exact ⟨hp.rd, hLi, hDe⟩
 have hxb : x.bd := by rw [hx]; exact ⟨show (-9223372036854775808 : Int) ≤ 2 ∧ (2 : Int) ≤ 9223372036854775807 by decide, ⟨Nat.le_trans hpo.2.2.1 (by decide), Nat.le_trans hpo.2.2.2 (by decide)⟩, show 3 ≤ 1000000 ∧ 3 ≤ 1000000 by decide⟩
 have hamt : Amts 3 smL ∧ Amts 3 smK := ⟨⟨by decide, fun k _ => by unfold smL; split <;> decide⟩, ⟨by decide, fun k _ => by unfold smK; decide⟩⟩
 have hxo : x.ok b := by rw [hx, hb]; exact ⟨⟨hok, intB_of hfv hri⟩, hR, show (0 : Int) ≤ 2 ∧ (2 : Int) ≤ 120 by decide, hpo, hamt.1, hamt.2⟩
 have hbv : b.v = exv := by rw [hb]; exact hqv
 have hrt : b.rt x.E x.Y = fr 60 1 3 r 60 0 := by rw [hb, hx]; rfl
 have hNb : Cnt b.v (b.rt x.E x.Y) 3 := by rw [hbv, hrt]; exact hN
 have hxq : x.p.q = Rat.divInt 100 1 := by rw [hx]; exact hpq
 have hxT : x.T ≠ 0 := by rw [hx]; show (2 : Int) ≠ 0; decide
 have v1 : b.ben x 3 0 = Rat.divInt 3712 5 := by rw [← ex_ben, ← va_ext hfx (by decide)]; unfold Bh.ben; rw [hbv, hrt, hx]; rfl
 have v2 : b.prm x x.p.q 3 0 = Rat.divInt 172 1 := by rw [← ex_prm, ← va_ext hfx (by decide)]; unfold Bh.prm; rw [hbv, hrt, hxq, hx]; rfl
 have v3 : b.equ x 3 = Rat.divInt 18560 43 := by rw [← ex_equ, ← va_ext hfx (by decide), ← va_ext (L := pay 2 1) hfx (by decide)]; unfold Bh.equ Bh.ben Bh.prm; rw [hbv, hrt, hx]; rfl
 have v4 : b.val x 3 0 = Rat.divInt 2852 5 := by rw [← ex_val.1, ← va_ext hfx (by decide)]; unfold Bh.val; rw [hbv, hrt, show x.L = fun k => exL k - exP k from by funext k; unfold Ct.L; rw [hxq, hx]; rfl, hx]; rfl
 have v5 : b.val x 3 1 = Rat.divInt 820 1 := by rw [← ex_val.2.1, ← va_ext hfx (by decide)]; unfold Bh.val; rw [hbv, hrt, show x.L = fun k => exL k - exP k from by funext k; unfold Ct.L; rw [hxq, hx]; rfl, hx]; rfl
 have v6 : b.val x 3 2 = Rat.divInt 1300 1 := by rw [← ex_val.2.2, ← va_ext hfx (by decide)]; unfold Bh.val; rw [hbv, hrt, show x.L = fun k => exL k - exP k from by funext k; unfold Ct.L; rw [hxq, hx]; rfl, hx]; rfl
 have hBen := fun (W : World) (hW : Below w2.heap.size w2 W) => vbene_v (Bh.rd_below hbr hW) hbb (Ct.rd_below hxr hW) hxb hxo 3 hNb (by decide) 0 (by decide)
 simp only [v1] at hBen
 have hPrm := fun (W : World) (hW : Below w2.heap.size w2 W) => vpremt_v (Bh.rd_below hbr hW) hbb (Ct.rd_below hxr hW) hxb hxo 3 hNb (by decide) 0 (by decide)
 simp only [v2] at hPrm
 have hEqu := fun (W : World) (hW : Below w2.heap.size w2 W) => vequi_v (Bh.rd_below hbr hW) hbb (Ct.rd_below hxr hW) hxb hxo 3 hNb (by decide) hxT
 simp only [v3] at hEqu
 have hP0 := fun (W : World) (hW : Below w2.heap.size w2 W) => vpros_v (Bh.rd_below hbr hW) hbb (Ct.rd_below hxr hW) hxb hxo 3 hNb (by decide) 0 (by decide)
 simp only [v4] at hP0
 have hP1 := fun (W : World) (hW : Below w2.heap.size w2 W) => vpros_v (Bh.rd_below hbr hW) hbb (Ct.rd_below hxr hW) hxb hxo 3 hNb (by decide) 1 (by decide)
 simp only [v5] at hP1
 have hR1 := fun (W : World) (hW : Below w2.heap.size w2 W) => vretr_v (Bh.rd_below hbr hW) hbb (Ct.rd_below hxr hW) hxb hxo 3 hNb (by decide) 1 (by decide)
 simp only [v5] at hR1
 have hR2 := fun (W : World) (hW : Below w2.heap.size w2 W) => vretr_v (Bh.rd_below hbr hW) hbb (Ct.rd_below hxr hW) hxb hxo 3 hNb (by decide) 2 (by decide)
 simp only [v6] at hR2
 have hP3 := fun (W : World) (hW : Below w2.heap.size w2 W) => vpros_dead (Bh.rd_below hbr hW) hbb (Ct.rd_below hxr hW) hxb hxo 3 hNb (by decide) 3 (by decide) (by decide)
 have hRes := fun (W : World) (hW : Below w2.heap.size w2 W) => vreserves_v (Bh.rd_below hbr hW) hbb (Ct.rd_below hxr hW) hxb hxo 3 hNb (by decide) 
 subst hb hx
 dsimp only [FHof] at hBen hPrm hEqu hP0 hP1 hR1 hR2 hP3 hRes
 clear v1 v2 v3 v4 v5 v6 hxT hxq hNb hrt hbv hxo hamt hxb hxr hbb hbr hpq hpo hN hfx hqv hn1 hm1 hri hR hB hfv hT hp hLi hDe hok hq;have HhBen := Lib.hid hBen;clear hBen;have HhPrm := Lib.hid hPrm;clear hPrm;have HhEqu := Lib.hid hEqu;clear hEqu;have HhP0 := Lib.hid hP0;clear hP0;have HhP1 := Lib.hid hP1;clear hP1;have HhR1 := Lib.hid hR1;clear hR1;have HhR2 := Lib.hid hR2;clear hR2;have HhP3 := Lib.hid hP3;clear hP3;have HhRes := Lib.hid hRes;clear hRes;replace hE : Env w (fun V => True ∧ Below w2.heap.size w2 V) w2 := (Env.again hE.bel).and (fun V V' hb h => h.trans (hb.mono h.size)) (Below.refl _ _)
 go_upto_region 2 with (fail)
 obtain ⟨g1, hg1⟩ : ∃ g1, g1 = w2.heap.size := ⟨_, rfl⟩
 replace hE := hE.blk 31 #[.int .i64 60, .int .i64 1, .slice A 3 c, .bool si, .slice Ai ni ci, .bool ti, .slice Bi mi di] (g := g1) hg1.symm
 have hsz : (w2.alloc (.cells #[.int .i64 60, .int .i64 1, .slice A 3 c, .bool si, .slice Ai ni ci, .bool ti, .slice Bi mi di] 31)).heap.size = g1 + 1 := by rw [hg1, World.size_alloc]
 generalize w2.alloc (.cells #[.int .i64 60, .int .i64 1, .slice A 3 c, .bool si, .slice Ai ni ci, .bool ti, .slice Bi mi di] 31) = W1 at hE hsz ⊢
 obtain ⟨g2, hg2⟩ : ∃ g2, g2 = g1 + 1 := ⟨_, rfl⟩
 replace hE := hE.blk 36 #[.int .i64 60, .int .i64 0, .int .i64 2, .bool sp, .slice Ap np cp, .bool tp, .slice Bp mp dp, .slice (some ⟨GA, 0, none⟩) 3 3, .slice (some ⟨GB, 0, none⟩) 3 3] (g := g2) (hsz.trans hg2.symm);generalize W1.alloc (.cells #[.int .i64 60, .int .i64 0, .int .i64 2, .bool sp, .slice Ap np cp, .bool tp, .slice Bp mp dp, .slice (some ⟨GA, 0, none⟩) 3 3, .slice (some ⟨GB, 0, none⟩) 3 3] 36) = W2 at hE ⊢;rw [← hg1, ← hg2];clear hsz hg2 hg1;obtain ⟨k3, k4, k5, k6, k7, k8, k9⟩ := (hE.here.1.2).c7;have k10 := (hE.here.2).cell 0;have k11 := (hE.here.2).cell 1;have k12 := (hE.here.2).cell 2;have k13 := (hE.here.2).cell 3;have k14 := (hE.here.2).cell 4;have k15 := (hE.here.2).cell 5;have k16 := (hE.here.2).cell 6;have k17 := (hE.here.2).cell 7;have k18 := (hE.here.2).cell 8;go_wp2_with fail
 refine hE.fr (HhBen.out _ hE.h2) ?_;clear hE k3 k4 k5 k6 k7 k8 k9 k10 k11 k12 k13 k14 k15 k16 k17 k18;intro s_v0 A_v0 n_v0 c_v0 ti_v0 B_v0 m_v0 d_v0 w19 hE
 go_upto_region 3 with (fail)
 obtain ⟨g20, hg20⟩ : ∃ g20, g20 = w19.heap.size := ⟨_, rfl⟩
 replace hE := hE.blk 29 (qf4 s_v0 A_v0 n_v0 c_v0 ti_v0 B_v0 m_v0 d_v0) (g := g20) hg20.symm;generalize w19.alloc (.cells (qf4 s_v0 A_v0 n_v0 c_v0 ti_v0 B_v0 m_v0 d_v0) 29) = W20 at hE ⊢;rw [← hg20];clear hg20;obtain ⟨k21, k22, k23, k24, k25, k26, k27⟩ := (hE.h3).c7;have k28 := (hE.h2).cell 0;have k29 := (hE.h2).cell 1;have k30 := (hE.h2).cell 2;have k31 := (hE.h2).cell 3;have k32 := (hE.h2).cell 4;have k33 := (hE.h2).cell 5;have k34 := (hE.h2).cell 6;have k35 := (hE.h2).cell 7;have k36 := (hE.h2).cell 8;go_wp2_with fail
 refine hE.fr (HhPrm.out _ hE.h4) ?_;clear hE k21 k22 k23 k24 k25 k26 k27 k28 k29 k30 k31 k32 k33 k34 k35 k36;intro s_v1 A_v1 n_v1 c_v1 ti_v1 B_v1 m_v1 d_v1 w37 hE
 go_upto_region 4 with (fail)
 obtain ⟨g38, hg38⟩ : ∃ g38, g38 = w37.heap.size := ⟨_, rfl⟩
 replace hE := hE.blk 29 (qf4 s_v1 A_v1 n_v1 c_v1 ti_v1 B_v1 m_v1 d_v1) (g := g38) hg38.symm;generalize w37.alloc (.cells (qf4 s_v1 A_v1 n_v1 c_v1 ti_v1 B_v1 m_v1 d_v1) 29) = W38 at hE ⊢;rw [← hg38];clear hg38;obtain ⟨k39, k40, k41, k42, k43, k44, k45⟩ := (hE.h5).c7;have k46 := (hE.h4).cell 0;have k47 := (hE.h4).cell 1;have k48 := (hE.h4).cell 2;have k49 := (hE.h4).cell 3;have k50 := (hE.h4).cell 4;have k51 := (hE.h4).cell 5;have k52 := (hE.h4).cell 6;have k53 := (hE.h4).cell 7;have k54 := (hE.h4).cell 8;go_wp2_with fail
 refine hE.fr (HhEqu.out _ hE.h6) ?_;clear hE k39 k40 k41 k42 k43 k44 k45 k46 k47 k48 k49 k50 k51 k52 k53 k54;intro s_v2 A_v2 n_v2 c_v2 ti_v2 B_v2 m_v2 d_v2 w55 hE
 go_upto_region 5 with (fail)
 obtain ⟨g56, hg56⟩ : ∃ g56, g56 = w55.heap.size := ⟨_, rfl⟩
 replace hE := hE.blk 29 (qf4 s_v2 A_v2 n_v2 c_v2 ti_v2 B_v2 m_v2 d_v2) (g := g56) hg56.symm;generalize w55.alloc (.cells (qf4 s_v2 A_v2 n_v2 c_v2 ti_v2 B_v2 m_v2 d_v2) 29) = W56 at hE ⊢;rw [← hg56];clear hg56;obtain ⟨k57, k58, k59, k60, k61, k62, k63⟩ := (hE.h7).c7;have k64 := (hE.h6).cell 0;have k65 := (hE.h6).cell 1;have k66 := (hE.h6).cell 2;have k67 := (hE.h6).cell 3;have k68 := (hE.h6).cell 4;have k69 := (hE.h6).cell 5;have k70 := (hE.h6).cell 6;have k71 := (hE.h6).cell 7;have k72 := (hE.h6).cell 8;go_wp2_with fail
 refine hE.fr (HhP0.out _ hE.h8) ?_;clear hE k57 k58 k59 k60 k61 k62 k63 k64 k65 k66 k67 k68 k69 k70 k71 k72;intro s_v3 A_v3 n_v3 c_v3 ti_v3 B_v3 m_v3 d_v3 w73 hE
 go_upto_region 6 with (fail)
 obtain ⟨g74, hg74⟩ : ∃ g74, g74 = w73.heap.size := ⟨_, rfl⟩
 replace hE := hE.blk 29 (qf4 s_v3 A_v3 n_v3 c_v3 ti_v3 B_v3 m_v3 d_v3) (g := g74) hg74.symm;generalize w73.alloc (.cells (qf4 s_v3 A_v3 n_v3 c_v3 ti_v3 B_v3 m_v3 d_v3) 29) = W74 at hE ⊢;rw [← hg74];clear hg74;obtain ⟨k75, k76, k77, k78, k79, k80, k81⟩ := (hE.h9).c7;have k82 := (hE.h8).cell 0;have k83 := (hE.h8).cell 1;have k84 := (hE.h8).cell 2;have k85 := (hE.h8).cell 3;have k86 := (hE.h8).cell 4;have k87 := (hE.h8).cell 5;have k88 := (hE.h8).cell 6;have k89 := (hE.h8).cell 7;have k90 := (hE.h8).cell 8;go_wp2_with fail
 refine hE.fr (HhP1.out _ hE.h10) ?_;clear hE k75 k76 k77 k78 k79 k80 k81 k82 k83 k84 k85 k86 k87 k88 k89 k90;intro s_v4 A_v4 n_v4 c_v4 ti_v4 B_v4 m_v4 d_v4 w91 hE
 go_upto_region 7 with (fail)
 obtain ⟨g92, hg92⟩ : ∃ g92, g92 = w91.heap.size := ⟨_, rfl⟩
 replace hE := hE.blk 29 (qf4 s_v4 A_v4 n_v4 c_v4 ti_v4 B_v4 m_v4 d_v4) (g := g92) hg92.symm;generalize w91.alloc (.cells (qf4 s_v4 A_v4 n_v4 c_v4 ti_v4 B_v4 m_v4 d_v4) 29) = W92 at hE ⊢;rw [← hg92];clear hg92;obtain ⟨k93, k94, k95, k96, k97, k98, k99⟩ := (hE.h11).c7;have k100 := (hE.h10).cell 0;have k101 := (hE.h10).cell 1;have k102 := (hE.h10).cell 2;have k103 := (hE.h10).cell 3;have k104 := (hE.h10).cell 4;have k105 := (hE.h10).cell 5;have k106 := (hE.h10).cell 6;have k107 := (hE.h10).cell 7;have k108 := (hE.h10).cell 8;go_wp2_with fail
 refine hE.fr (HhR1.out _ hE.h12) ?_;clear hE k93 k94 k95 k96 k97 k98 k99 k100 k101 k102 k103 k104 k105 k106 k107 k108;intro s_v5 A_v5 n_v5 c_v5 ti_v5 B_v5 m_v5 d_v5 w109 hE
 go_upto_region 8 with (fail)
 obtain ⟨g110, hg110⟩ : ∃ g110, g110 = w109.heap.size := ⟨_, rfl⟩
 replace hE := hE.blk 29 (qf4 s_v5 A_v5 n_v5 c_v5 ti_v5 B_v5 m_v5 d_v5) (g := g110) hg110.symm;generalize w109.alloc (.cells (qf4 s_v5 A_v5 n_v5 c_v5 ti_v5 B_v5 m_v5 d_v5) 29) = W110 at hE ⊢;rw [← hg110];clear hg110;obtain ⟨k111, k112, k113, k114, k115, k116, k117⟩ := (hE.h13).c7;have k118 := (hE.h12).cell 0;have k119 := (hE.h12).cell 1;have k120 := (hE.h12).cell 2;have k121 := (hE.h12).cell 3;have k122 := (hE.h12).cell 4;have k123 := (hE.h12).cell 5;have k124 := (hE.h12).cell 6;have k125 := (hE.h12).cell 7;have k126 := (hE.h12).cell 8;go_wp2_with fail
 refine hE.fr (HhR2.out _ hE.here.1.1.1.1.1.1.1.1.1.1.1.1.1.1.2) ?_;clear hE k111 k112 k113 k114 k115 k116 k117 k118 k119 k120 k121 k122 k123 k124 k125 k126;intro s_v6 A_v6 n_v6 c_v6 ti_v6 B_v6 m_v6 d_v6 w127 hE
 go_upto_region 9 with (fail)
 obtain ⟨g128, hg128⟩ : ∃ g128, g128 = w127.heap.size := ⟨_, rfl⟩
 replace hE := hE.blk 29 (qf4 s_v6 A_v6 n_v6 c_v6 ti_v6 B_v6 m_v6 d_v6) (g := g128) hg128.symm;generalize w127.alloc (.cells (qf4 s_v6 A_v6 n_v6 c_v6 ti_v6 B_v6 m_v6 d_v6) 29) = W128 at hE ⊢;rw [← hg128];clear hg128;obtain ⟨k129, k130, k131, k132, k133, k134, k135⟩ := (hE.here.1.1.1.1.1.1.1.1.1.1.1.1.1.1.1.2).c7;have k136 := (hE.here.1.1.1.1.1.1.1.1.1.1.1.1.1.1.2).cell 0;have k137 := (hE.here.1.1.1.1.1.1.1.1.1.1.1.1.1.1.2).cell 1;have k138 := (hE.here.1.1.1.1.1.1.1.1.1.1.1.1.1.1.2).cell 2;have k139 := (hE.here.1.1.1.1.1.1.1.1.1.1.1.1.1.1.2).cell 3;have k140 := (hE.here.1.1.1.1.1.1.1.1.1.1.1.1.1.1.2).cell 4;have k141 := (hE.here.1.1.1.1.1.1.1.1.1.1.1.1.1.1.2).cell 5;have k142 := (hE.here.1.1.1.1.1.1.1.1.1.1.1.1.1.1.2).cell 6;have k143 := (hE.here.1.1.1.1.1.1.1.1.1.1.1.1.1.1.2).cell 7;have k144 := (hE.here.1.1.1.1.1.1.1.1.1.1.1.1.1.1.2).cell 8;go_wp2_with fail
 refine hE.br (HhP3.out _ hE.here.1.1.1.1.1.1.1.1.1.1.1.1.1.1.1.1.2) ?_;clear hE k129 k130 k131 k132 k133 k134 k135 k136 k137 k138 k139 k140 k141 k142 k143 k144;intro w145 hE
 go_upto_region 10 with (fail)
 obtain ⟨g146, hg146⟩ : ∃ g146, g146 = w145.heap.size := ⟨_, rfl⟩
 replace hE := hE.blk 29 qz4 (g := g146) hg146.symm;generalize w145.alloc (.cells qz4 29) = W146 at hE ⊢;rw [← hg146];clear hg146;obtain ⟨k147, k148, k149, k150, k151, k152, k153⟩ := (hE.here.1.1.1.1.1.1.1.1.1.1.1.1.1.1.1.1.2).c7;have k154 := (hE.here.1.1.1.1.1.1.1.1.1.1.1.1.1.1.1.2).cell 0;have k155 := (hE.here.1.1.1.1.1.1.1.1.1.1.1.1.1.1.1.2).cell 1;have k156 := (hE.here.1.1.1.1.1.1.1.1.1.1.1.1.1.1.1.2).cell 2;have k157 := (hE.here.1.1.1.1.1.1.1.1.1.1.1.1.1.1.1.2).cell 3;have k158 := (hE.here.1.1.1.1.1.1.1.1.1.1.1.1.1.1.1.2).cell 4;have k159 := (hE.here.1.1.1.1.1.1.1.1.1.1.1.1.1.1.1.2).cell 5;have k160 := (hE.here.1.1.1.1.1.1.1.1.1.1.1.1.1.1.1.2).cell 6;have k161 := (hE.here.1.1.1.1.1.1.1.1.1.1.1.1.1.1.1.2).cell 7;have k162 := (hE.here.1.1.1.1.1.1.1.1.1.1.1.1.1.1.1.2).cell 8;go_wp2_with fail
 refine (HhRes.out _ hE.here.1.1.1.1.1.1.1.1.1.1.1.1.1.1.1.1.1.2).mono ?_;clear k147 k148 k149 k150 k151 k152 k153 k154 k155 k156 k157 k158 k159 k160 k161 k162
 rintro e wr ⟨GV, hh, rfl, hF1, hF2, hb1⟩
 replace hE := hE.step hb1;clear hb1 hF1 hF2
 go_upto_region 11 with (fail)
 obtain ⟨k163, k164, k165, k166⟩ := (hE.h13).c4;go_wp2_with fail
 refine hE.br (p_is (ca := c_v0) (da := d_v0) (n := 3712) (d := 5) (hE.here.1.1.1.1.1.1.1.1.1.1.1.1.1.1.2) (by rw [fl_le]; decide +kernel) (by decide) (by decide) (by decide) (by decide) (by decide) rfl) ?_;clear hE k163 k164 k165 k166;intro w167 hE;obtain ⟨k168, k169, k170, k171⟩ := (hE.h11).c4;go_wp2_with fail
 refine hE.br (p_is (ca := c_v1) (da := d_v1) (n := 172) (d := 1) (hE.h12) (by rw [fl_le]; decide +kernel) (by decide) (by decide) (by decide) (by decide) (by decide) rfl) ?_;clear hE k168 k169 k170 k171;intro w172 hE;obtain ⟨k173, k174, k175, k176⟩ := (hE.h9).c4;go_wp2_with fail
 refine hE.br (p_is (ca := c_v2) (da := d_v2) (n := 18560) (d := 43) (hE.h10) (by rw [fl_le]; decide +kernel) (by decide) (by decide) (by decide) (by decide) (by decide) rfl) ?_;clear hE k173 k174 k175 k176;intro w177 hE;obtain ⟨k178, k179, k180, k181⟩ := (hE.h7).c4;go_wp2_with fail
 refine hE.br (p_is (ca := c_v3) (da := d_v3) (n := 2852) (d := 5) (hE.h8) (by rw [fl_le]; decide +kernel) (by decide) (by decide) (by decide) (by decide) (by decide) rfl) ?_;clear hE k178 k179 k180 k181;intro w182 hE;obtain ⟨k183, k184, k185, k186⟩ := (hE.h5).c4;go_wp2_with fail
 refine hE.br (p_is (ca := c_v4) (da := d_v4) (n := 820) (d := 1) (hE.h6) (by rw [fl_le]; decide +kernel) (by decide) (by decide) (by decide) (by decide) (by decide) rfl) ?_;clear hE k183 k184 k185 k186;intro w187 hE;obtain ⟨k188, k189, k190, k191⟩ := (hE.h3).c4;go_wp2_with fail
 refine hE.br (p_is (ca := c_v5) (da := d_v5) (n := 820) (d := 1) (hE.h4) (by rw [fl_le]; decide +kernel) (by decide) (by decide) (by decide) (by decide) (by decide) rfl) ?_;clear hE k188 k189 k190 k191;intro w192 hE;obtain ⟨k193, k194, k195, k196⟩ := (hE.here.1.2).c4;go_wp2_with fail
 refine hE.br (p_is (ca := c_v6) (da := d_v6) (n := 1300) (d := 1) (hE.h2) (by rw [fl_le]; decide +kernel) (by decide) (by decide) (by decide) (by decide) (by decide) rfl) ?_;clear hE k193 k194 k195 k196;intro w197 hE;go_wp2_with fail
 go_ret
 exact ⟨rfl, hE.bel⟩
end
section
open Go.RowKit

end
end Go.Proofs.YtclbiihcbfnjmaaGreat
