/-
  The walk of SurvivorMore.
-/
import Derived.Test.YtjgihmmeimfheaaGreatK3
import Derived.Test.YtjgihmmeimfheaaGreatK18
import Derived.Test.YtjgihmmeimfheaaGreatSVB
import Derived.Test.YtjgihmmeimfheaaGreatSvW
namespace Go.Proofs.YtjgihmmeimfheaaGreat
open Go.RowKit

theorem cmpQ_le {a b : Rat} (h : a ≤ b) : cmpQ a b ≤ 0 := by
 rw [cmpQ_val]
 split
 · decide
 ·
  split
  · decide
  · exact absurd (Rat.not_lt.1 (by assumption)) (by grind)
set_option linter.unusedSimpArgs false in
set_option maxRecDepth 100000 in
set_option maxHeartbeats 8000000 in
theorem svmore_walk {A : Option Addr} {n c : Nat} {r : Nat → Cl} {w : World} (hM : ClM A n r w) (a b : Int) :
  Calls Tryz.prog 3 #[.int .i64 a, .int .i64 b, .slice A n c] w (fun e w' => e = .returned (.bool true) ∧ Below w.heap.size w w') := by
 have HhM := Lib.hid hM
 clear hM
 have hE := Env.start w
 go_enter Tryz.func3, Tryz.ntmps3
 go_wp2_with fail
 refine hE.br (awake_v _) ?_
 clear hE
 intro w1 hE
 go_wp2_with fail
 refine (susable_v (r := r) a (HhM.out.below hE.bel)).mono ?_
 rintro e w2 ⟨v, rfl, hv, hb⟩
 replace hE := hE.step hb
 clear hb
 cases v with
 | false =>
  clear hv
  go_wp2_with fail
  go_ret
  exact ⟨rfl, hE.bel⟩
 | true =>
  obtain ⟨hn10, h0a, h1a, hok⟩ := hv.1 rfl
  clear hv
  have hw4 := hok.w (HhM.out.below hE.bel)
  have hK := hok.K
  have hwK : ∀ k, k < n → 0 ≤ wq r k ∧ 0 ≤ Kz r k := fun k hk => ⟨(hw4 k hk).1, (hK k hk).1⟩
  have Hhok := Lib.hid hok
  clear hok
  have Hhw4 := Lib.hid hw4
  clear hw4
  have HhK := Lib.hid hK
  clear hK
  have HhwK := Lib.hid hwK
  clear hwK
  go_wp2_with fail
  refine (susable_v (r := r) b (HhM.out.below hE.bel)).mono ?_
  rintro e w3 ⟨v, rfl, hv, hb⟩
  replace hE := hE.step hb
  clear hb
  cases v with
  | false =>
   clear hv
   go_wp2_with fail
   go_ret
   exact ⟨rfl, hE.bel⟩
  | true =>
   obtain ⟨-, h0b, h1b, -⟩ := hv.1 rfl
   clear hv
   by_cases hba : b < a
   ·
    have t1 : decide (b < a) = true := decide_eq_true hba
    go_wp2_with fail
    go_ret
    exact ⟨rfl, hE.bel⟩
   have t1 : decide (b < a) = false := decide_eq_false hba
   have hab : a ≤ b := by omega
   clear hba
   have Hhab := Lib.hid hab
   clear hab
   go_wp2_with fail
   refine (sLevel_v a ⟨h0a, h1a⟩ (HhM.out.below hE.bel) Hhok.out hn10).mono ?_
   rintro e w4 ⟨t, hlvt, hftt, sq, Aq, nq, cq, tq, Bq, mq, dq, rfl, hq, hb⟩
   replace hE := (hE.step hb).fv hq
   clear hb hq
   have Hhlvt := Lib.hid hlvt
   clear hlvt
   go_upto_region 6 with (fail)
   obtain ⟨g5, hg5⟩ : ∃ g5, g5 = w4.heap.size := ⟨_, rfl⟩
   have hlw_g5 : w.heap.size ≤ g5 := by rw [hg5]; exact hE.bel.size
   replace hE := hE.blk 29 #[.bool sq, .slice Aq nq cq, .bool tq, .slice Bq mq dq] (g := g5) hg5.symm
   generalize w4.alloc (.cells #[.bool sq, .slice Aq nq cq, .bool tq, .slice Bq mq dq] 29) = W5 at hE ⊢
   rw [← hg5]
   clear hg5
   go_wp2_with fail
   refine (sLevel_v b ⟨h0b, h1b⟩ (HhM.out.below hE.bel) Hhok.out hn10).mono ?_
   rintro e w6 ⟨u, hlvu, hftu, sv, Av, nv, cv, tv, Bv, mv, dv, rfl, hq, hb⟩
   replace hE := (hE.step hb).fv hq
   clear hb hq
   have Hhlvu := Lib.hid hlvu
   clear hlvu
   go_upto_region 7 with (fail)
   obtain ⟨g7, hg7⟩ : ∃ g7, g7 = w6.heap.size := ⟨_, rfl⟩
   have hl7_1 : g5 < g7 := by rw [hg7]; exact (hE.here.1.2).lt
   have hlw_g7 : w.heap.size ≤ g7 := by rw [hg7]; exact hE.bel.size
   replace hE := hE.blk 29 #[.bool sv, .slice Av nv cv, .bool tv, .slice Bv mv dv] (g := g7) hg7.symm
   generalize w6.alloc (.cells #[.bool sv, .slice Av nv cv, .bool tv, .slice Bv mv dv] 29) = W7 at hE ⊢
   rw [← hg7]
   clear hg7
   go_wp2_with fail
   refine (sExact_v a ⟨h0a, h1a⟩ (HhM.out.below hE.bel) Hhok.out hn10).mono ?_
   rintro e w8 ⟨t2, gx, cgx, hx, rfl, hlvt2, hftt2, -, hRr, hqq, hb⟩
   replace hE := ((hE.step hb).rwr hRr).fqs hqq
   clear hb hRr hqq
   have Hhlvt2 := Lib.hid hlvt2
   clear hlvt2
   have e0 := Hhlvt.out.uniq Hhlvt2.out
   subst e0
   clear Hhlvt2 hftt2
   go_wp2_with fail
   refine (sExact_v b ⟨h0b, h1b⟩ (HhM.out.below hE.bel) Hhok.out hn10).mono ?_
   rintro e w9 ⟨u2, gy, cgy, hy, rfl, hlvu2, hftu2, -, hRr, hqq, hb⟩
   replace hE := ((hE.step hb).rwr hRr).fqs hqq
   clear hb hRr hqq
   have Hhlvu2 := Lib.hid hlvu2
   clear hlvu2
   have e0 := Hhlvu.out.uniq Hhlvu2.out
   subst e0
   clear Hhlvu2 hftu2
   go_wp2_with fail
   refine (sparts_v a ⟨h0a, h1a⟩ (HhM.out.below hE.bel) Hhok.out hn10).mono ?_
   rintro e w10 ⟨gp, cgp, p, t3, rfl, ⟨hlvt3, hftt3, hpqp⟩, -, hRr, hb⟩
   replace hE := (hE.step hb).rwr hRr
   clear hb hRr
   have Hhlvt3 := Lib.hid hlvt3
   clear hlvt3
   have Hhpqp := Lib.hid hpqp
   clear hpqp
   have e0 := Hhlvt.out.uniq Hhlvt3.out
   subst e0
   clear Hhlvt3 hftt3
   go_wp2_with fail
   clear t1
   refine (sparts_v b ⟨h0b, h1b⟩ (HhM.out.below hE.bel) Hhok.out hn10).mono ?_
   rintro e w11 ⟨gz, cgz, z, u3, rfl, ⟨hlvu3, hftu3, hpqz⟩, -, hRr, hb⟩
   replace hE := (hE.step hb).rwr hRr
   clear hb hRr
   have Hhlvu3 := Lib.hid hlvu3
   clear hlvu3
   have Hhpqz := Lib.hid hpqz
   clear hpqz
   have e0 := Hhlvu.out.uniq Hhlvu3.out
   subst e0
   clear Hhlvu3 hftu3
   obtain ⟨k12, k13, k14, k15⟩ := (hE.h8).c4
   obtain ⟨k16, k17, k18, k19⟩ := (hE.h6).c4
   go_wp2_with fail
   have htu : t ≤ u := Lv.le Hhlvt.out Hhlvu.out (totZ_mono Hhab.out)
   have hxl : ∀ T, fl T ≤ 48 → ∀ j, j < n → fl (xq T (wq r) (Kz r) j) ≤ 52 := fun T hT j hj => by
    unfold xq part mn; split
    · exact fl_times hT (Hhw4.out j hj).2
    · have h2 := HhK.out j hj; exact fl_le2 (fl_int3 (by omega) (by omega)) (by decide)
   have hpt := hxl t hftt
   have hpu := hxl u hftu
   clear hxl
   have hmo := fun j (hj : j < n) => xq_mono (K := Kz r) (k := j) htu (Hhw4.out j hj).1
   have hzp := fun k (hk : k < n) => parts_bound Hhlvt.out Hhpqp.out HhwK.out hk
   have hzz := fun k (hk : k < n) => parts_bound Hhlvu.out Hhpqz.out HhwK.out hk
   have hsp : ∀ k, k ≤ n → 0 ≤ suZ p k ∧ suZ p k ≤ (k : Int) * 1099511627776 := fun k hk => suZ_b (fun j hj => by have h1 := (hzp j (by omega)).1; have h2 := HhK.out j (by omega); omega)
   have hsz : ∀ k, k ≤ n → 0 ≤ suZ z k ∧ suZ z k ≤ (k : Int) * 1099511627776 := fun k hk => suZ_b (fun j hj => by have h1 := (hzz j (by omega)).1; have h2 := HhK.out j (by omega); omega)
   have hcp := parts_sum Hhlvt.out Hhpqp.out
   have hcz := parts_sum Hhlvu.out Hhpqz.out
   have Hhpt := Lib.hid hpt
   clear hpt
   have Hhpu := Lib.hid hpu
   clear hpu
   have Hhmo := Lib.hid hmo
   clear hmo
   have Hhzp := Lib.hid hzp
   clear hzp
   have Hhzz := Lib.hid hzz
   clear hzz
   have Hhsp := Lib.hid hsp
   clear hsp
   have Hhsz := Lib.hid hsz
   clear hsz
   have Hhcp := Lib.hid hcp
   clear hcp
   have Hhcz := Lib.hid hcz
   clear hcz
   obtain ⟨v, hv⟩ : ∃ v, v = cmpQ t u := ⟨_, rfl⟩
   have hv0 : v ≤ 0 := by rw [hv]; exact cmpQ_le htu
   have Hhtu := Lib.hid htu
   clear htu
   refine hE.br (fcmp_v (ca := cq) (da := dq) (cb := cv) (db := dv) (hE.h9) (hE.h7) (by omega) (by omega)) ?_
   clear hE k12 k13 k14 k15 k16 k17 k18 k19
   intro w20 hE
   rw [← hv]
   clear hv
   have t1 : decide (0 < v) = false := decide_eq_false (by omega)
   clear hv0
   go_wp2_with fail
   go_loopw [19, 20] (fun mo x wr => ∃ k : Nat, k ≤ n ∧ mo = .int .i64 (suZ z k - suZ p k) ∧ x = .int .i64 (k : Int) ∧ Env w (fun V => ((((((True ∧ Rw 29 4 gx n cgx (fun j => zqL (hx j)) V) ∧ FqS hx n (xq t (wq r) (Kz r)) V) ∧ Rw 29 4 gy n cgy (fun j => zqL (hy j)) V) ∧ FqS hy n (xq u (wq r) (Kz r)) V) ∧ Rw 3 1 gp n cgp (fun j => [.int .i64 (p j)]) V) ∧ Rw 3 1 gz n cgz (fun j => [.int .i64 (z j)]) V)) wr) (fun _ x _ => n - (intOf x).toNat)
   case atStart => exact ⟨0, Nat.zero_le _, by simp [suZ], rfl, (((((((Env.again hE.bel).rwr (hE.h5)).fqs (hE.h4)).rwr (hE.h3)).fqs (hE.h2)).rwr (hE.here.1.2)).rwr (hE.here.2))⟩
   case round =>
    clear hE t1
    obtain ⟨k, hk, rfl, rfl, hE⟩ := hrel
    by_cases hlt : k < n
    rotate_left
    ·
     obtain rfl : k = n := by omega
     have t1 : decide ((k : Int) < (k : Int)) = false := decide_eq_false (by omega)
     go_wp2_with fail
     refine hE.br (ltotal_v b (HhM.out.below hE.bel) Hhok.out hn10) ?_
     clear hE
     intro w21 hE
     go_wp2_with fail
     refine hE.br (ltotal_v a (HhM.out.below hE.bel) Hhok.out hn10) ?_
     clear hE
     intro w22 hE
     have u1 : (suZ z k - suZ p k == totZ b (wq r) (Kz r) k - totZ a (wq r) (Kz r) k) = true := by rw [beq_iff_eq, Hhcp.out, Hhcz.out]
     have sp := Hhsp.out k (Nat.le_refl _)
     have sz := Hhsz.out k (Nat.le_refl _)
     rw [Hhcp.out] at sp
     rw [Hhcz.out] at sz
     have o1 : IntKind.i64.wrap (totZ b (wq r) (Kz r) k - totZ a (wq r) (Kz r) k) = totZ b (wq r) (Kz r) k - totZ a (wq r) (Kz r) k := by rw [IntKind.wrap_i64]; omega
     clear sp sz
     go_wp2_with fail
     go_ret
     exact ⟨rfl, hE.bel⟩
    have t1 : decide ((k : Int) < (n : Int)) = true := decide_eq_true (by omega)
    have t2 : (k : Int) < (n : Int) := by omega
    obtain ⟨x, hx2⟩ : ∃ y, y = hx k := ⟨_, rfl⟩
    obtain ⟨X, hXX⟩ : ∃ X, X = xq t (wq r) (Kz r) k := ⟨_, rfl⟩
    have hxv := hE.h4 k hlt
    rw [← hx2, ← hXX] at hxv
    obtain ⟨y, hy2⟩ : ∃ y, y = hy k := ⟨_, rfl⟩
    obtain ⟨Y, hXY⟩ : ∃ X, X = xq u (wq r) (Kz r) k := ⟨_, rfl⟩
    have hyv := hE.h2 k hlt
    rw [← hy2, ← hXY] at hyv
    have hlx := Hhpt.out k hlt
    rw [← hXX] at hlx
    have hly := Hhpu.out k hlt
    rw [← hXY] at hly
    have hle := Hhmo.out k hlt
    rw [← hXX, ← hXY] at hle
    obtain ⟨P, hP⟩ : ∃ P, P = p k := ⟨_, rfl⟩
    obtain ⟨Z, hZ⟩ : ∃ P, P = z k := ⟨_, rfl⟩
    have bp := (Hhzp.out k hlt).1
    have bz := (Hhzz.out k hlt).1
    have bk := HhK.out k hlt
    rw [← hP] at bp
    rw [← hZ] at bz
    have sp := Hhsp.out k hk
    have sz := Hhsz.out k hk
    have o1 : IntKind.i64.wrap (suZ z k - suZ p k + Z) = suZ z k - suZ p k + Z := by rw [IntKind.wrap_i64]; omega
    have o2 : IntKind.i64.wrap (suZ z k - suZ p k + Z - P) = suZ z k - suZ p k + Z - P := by rw [IntKind.wrap_i64]; omega
    clear bp bz bk sp sz
    obtain ⟨v, hv⟩ : ∃ v, v = cmpQ X Y := ⟨_, rfl⟩
    have hv0 : v ≤ 0 := by rw [hv]; exact cmpQ_le hle
    have t3 : decide (0 < v) = false := decide_eq_false (by omega)
    clear hv0 hle
    have Hhx2 := Lib.hid hx2
    clear hx2
    have Hhy2 := Lib.hid hy2
    clear hy2
    have HhXX := Lib.hid hXX
    clear hXX
    have HhXY := Lib.hid hXY
    clear hXY
    have HhP := Lib.hid hP
    clear hP
    have HhZ := Lib.hid hZ
    clear hZ
    have Hhv := Lib.hid hv
    clear hv
    replace hE := (hE.fv hxv).fv hyv
    clear hxv hyv
    go_upto_region 17 with (fail)
    replace hE := hE.drew
    refine wp_region_held_drew (S := fun V => Rw 29 4 gx n cgx (fun j => zqL (hx j)) V ∧ Rw 29 4 gy n cgy (fun j => zqL (hy j)) V) (by kernel_rfl) (⟨hE.h7, hE.h5⟩) (fun hHeld => ?_)
    generalize wr.drew = wd at *
    refine tk 0 ?_
    try simp only [PL]
    refine tk 1 ?_
    try simp only [PL]
    refine tk 2 ?_
    try simp only [PL]
    refine wpAnyH_take (i := 3) (v := ?v1_3_4) rfl (by kernel_rfl) (by kernel_rfl) (by kernel_rfl) (fun _ _ _ h => h) (Or.inl ⟨by rfl, ?hy1_3_4⟩) (by assumption) ?rest1_3_4
    case hy1_3_4 =>
     intro w hSw
     have kc0 := Rw.cell hSw.1 (k := k) (i := 0) (o := k * 4) (v := .bool x.s) hlt (by decide) rfl (by rw [Hhx2.out]; rfl)
     have kc1 := Rw.cell hSw.1 (k := k) (i := 1) (o := k * 4 + 1) (v := .slice x.A x.n x.c) hlt (by decide) rfl (by rw [Hhx2.out]; rfl)
     have kc2 := Rw.cell hSw.1 (k := k) (i := 2) (o := k * 4 + 2) (v := .bool x.t) hlt (by decide) rfl (by rw [Hhx2.out]; rfl)
     have kc3 := Rw.cell hSw.1 (k := k) (i := 3) (o := k * 4 + 3) (v := .slice x.B x.m x.d) hlt (by decide) rfl (by rw [Hhx2.out]; rfl)
     clear hSw
     first | (go_simp; done) | (go_simp; with_reducible rfl)
    try simp only [PL]
    refine tk 4 ?_
    try simp only [PL]
    refine tk 5 ?_
    try simp only [PL]
    refine tk 6 ?_
    try simp only [PL]
    refine wpAnyH_take (i := 7) (v := ?v1_7_8) rfl (by kernel_rfl) (by kernel_rfl) (by kernel_rfl) (fun _ _ _ h => h) (Or.inl ⟨by rfl, ?hy1_7_8⟩) (by assumption) ?rest1_7_8
    case hy1_7_8 =>
     intro w hSw
     have kc0 := Rw.cell hSw.2 (k := k) (i := 0) (o := k * 4) (v := .bool y.s) hlt (by decide) rfl (by rw [Hhy2.out]; rfl)
     have kc1 := Rw.cell hSw.2 (k := k) (i := 1) (o := k * 4 + 1) (v := .slice y.A y.n y.c) hlt (by decide) rfl (by rw [Hhy2.out]; rfl)
     have kc2 := Rw.cell hSw.2 (k := k) (i := 2) (o := k * 4 + 2) (v := .bool y.t) hlt (by decide) rfl (by rw [Hhy2.out]; rfl)
     have kc3 := Rw.cell hSw.2 (k := k) (i := 3) (o := k * 4 + 3) (v := .slice y.B y.m y.d) hlt (by decide) rfl (by rw [Hhy2.out]; rfl)
     clear hSw
     first | (go_simp; done) | (go_simp; with_reducible rfl)
    try simp only [PL]
    refine r1 8 (fun K hK => ?_)
    go_simp
    refine hE.br (fcmp_v (ca := x.c) (da := x.d) (cb := y.c) (db := y.d) (hE.here.1.2) (hE.here.2) (by omega) (by omega)) ?_
    clear hE
    intro w23 hE
    rw [← Hhv.out]
    go_wp2_with fail
    refine hK.out _ _ (⟨hE.h7, hE.h5⟩) (fun hHeld => ?_)
    clear hK K
    try simp only [PL]
    refine tk 9 ?_
    try simp only [PL]
    refine wpAnyH_done (by kernel_rfl) ?_ _
    go_upto_region 19 with (fail)
    replace hE := hE.drew
    refine wp_region_held_drew (S := fun V => Rw 3 1 gp n cgp (fun j => [.int .i64 (p j)]) V ∧ Rw 3 1 gz n cgz (fun j => [.int .i64 (z j)]) V) (by kernel_rfl) (⟨hE.h3, hE.h2⟩) (fun hHeld => ?_)
    generalize w23.drew = wd at *
    refine tk 0 ?_
    try simp only [PL]
    refine tk 1 ?_
    try simp only [PL]
    refine tk 2 ?_
    try simp only [PL]
    refine tk 3 ?_
    try simp only [PL]
    refine wpAnyH_take (i := 4) (v := ?v2_4_5) rfl (by kernel_rfl) (by kernel_rfl) (by kernel_rfl) (fun _ _ _ h => h) (Or.inl ⟨by rfl, ?hy2_4_5⟩) (by assumption) ?rest2_4_5
    case hy2_4_5 =>
     intro w hSw
     have kc := Rw.cell hSw.2 (k := k) (i := 0) (o := k) (v := .int .i64 Z) hlt (by decide) (by omega) (by rw [HhZ.out]; rfl)
     clear hSw
     first | (go_simp; done) | (go_simp; with_reducible rfl)
    try simp only [PL]
    refine tk 5 ?_
    try simp only [PL]
    refine tk 6 ?_
    try simp only [PL]
    refine tk 7 ?_
    try simp only [PL]
    refine tk 8 ?_
    try simp only [PL]
    refine wpAnyH_take (i := 9) (v := ?v2_9_10) rfl (by kernel_rfl) (by kernel_rfl) (by kernel_rfl) (fun _ _ _ h => h) (Or.inl ⟨by rfl, ?hy2_9_10⟩) (by assumption) ?rest2_9_10
    case hy2_9_10 =>
     intro w hSw
     have kc := Rw.cell hSw.1 (k := k) (i := 0) (o := k) (v := .int .i64 P) hlt (by decide) (by omega) (by rw [HhP.out]; rfl)
     clear hSw
     first | (go_simp; done) | (go_simp; with_reducible rfl)
    try simp only [PL]
    refine tk 10 ?_
    try simp only [PL]
    refine tk 11 ?_
    try simp only [PL]
    refine wpAnyH_done (by kernel_rfl) ?_ _
    go_wp2_with fail
    go_roundw
    case rel => exact ⟨k + 1, by omega, by rw [HhP.out, HhZ.out]; show _ = Value.int .i64 ((suZ z k + z k) - (suZ p k + p k)); congr 1; omega, by go_num, (((((((Env.again hE.bel).rwr (hE.h7)).fqs (hE.h6)).rwr (hE.h5)).fqs (hE.h4)).rwr (hE.h3)).rwr (hE.h2))⟩
    case measure => simp [intOf]; omega
end Go.Proofs.YtjgihmmeimfheaaGreat
