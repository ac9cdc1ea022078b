/-
  The walk of SurvivorLeaves.
-/
import Derived.Test.YtjgihmmeimfheaaGreatK3
import Derived.Test.YtjgihmmeimfheaaGreatK18
import Derived.Test.YtjgihmmeimfheaaGreatSvE
namespace Go.Proofs.YtjgihmmeimfheaaGreat
open Go.RowKit

theorem cmpQ_le {a b : Rat} (h : a ≤ b) : cmpQ a b ≤ 0 := by
 rw [cmpQ_val]
 split
 · decide
 ·
  split
  · decide
  · exact absurd (Rat.not_lt.1 (by assumption)) (by grind)
theorem fsame_t {a : Rat} {sa ta sb tb : Bool} {Aa Ba Ab Bb : Option Addr} {na ca ma da nb cb mb db : Nat} {w : World} (ha : FV w a sa Aa na ta Ba ma) (hb : FV w a sb Ab nb tb Bb mb) (l : fl a ≤ 256) :
  Calls Tryz.prog 33 #[.agg #[.bool sa, .slice Aa na ca, .bool ta, .slice Ba ma da], .agg #[.bool sb, .slice Ab nb cb, .bool tb, .slice Bb mb db]] w fun e w' => e = .returned (.bool true) ∧ Below w.heap.size w w' := by
 have h1 := ha.ln l
 have h2 := hb.ln l
 have hc := fsame_v (ca := ca) (da := da) (cb := cb) (db := db) ha hb (by omega) (by omega) (by omega) (by omega)
 rw [decide_eq_true rfl] at hc
 exact hc
set_option linter.unusedSimpArgs false in
set_option maxRecDepth 100000 in
set_option maxHeartbeats 8000000 in
theorem svleaves_walk {A : Option Addr} {n c : Nat} {r : Nat → Cl} {w : World} (hM : ClM A n r w) (a D : Int) :
  Calls Tryz.prog 10 #[.int .i64 a, .slice A n c, .int .i64 D] w (fun e w' => e = .returned (.bool true) ∧ Below w.heap.size w w') := by
 have HhM := Lib.hid hM
 clear hM
 have hE := Env.start w
 go_enter Tryz.func10, Tryz.ntmps10
 go_wp2_with fail
 refine hE.br (awake_v _) ?_
 clear hE
 intro w1 hE
 go_wp2_with fail
 refine (susable_v (r := r) a (HhM.out.below hE.bel)).mono ?_
 rintro e w2 ⟨v, rfl, hv, hb⟩
 replace hE := hE.step hb
 clear hb
 cases v with
 | false =>
  clear hv
  go_wp2_with fail
  go_ret
  exact ⟨rfl, hE.bel⟩
 | true =>
  obtain ⟨hn10, h0a, h1a, hok⟩ := hv.1 rfl
  clear hv
  have hw4 := hok.w (HhM.out.below hE.bel)
  have hK := hok.K
  have hwK : ∀ k, k < n → 0 ≤ wq r k ∧ 0 ≤ Kz r k := fun k hk => ⟨(hw4 k hk).1, (hK k hk).1⟩
  have Hhok := Lib.hid hok
  clear hok
  have Hhw4 := Lib.hid hw4
  clear hw4
  have HhK := Lib.hid hK
  clear hK
  have HhwK := Lib.hid hwK
  clear hwK
  by_cases hD0 : D < 0
  ·
   have tD : decide (D < 0) = true := decide_eq_true hD0
   have HhD0 := Lib.hid hD0
   clear hD0
   go_wp2_with fail
   go_ret
   exact ⟨rfl, hE.bel⟩
  have tD : decide (D < 0) = false := decide_eq_false hD0
  by_cases hD1 : (n : Int) ≤ D
  ·
   have tE : decide ((n : Int) ≤ D) = true := decide_eq_true hD1
   have HhD1 := Lib.hid hD1
   clear hD1
   go_wp2_with fail
   go_ret
   exact ⟨rfl, hE.bel⟩
  have tE : decide ((n : Int) ≤ D) = false := decide_eq_false hD1
  obtain ⟨i, rfl⟩ : ∃ i : Nat, D = (i : Int) := ⟨D.toNat, by omega⟩
  have hi : i < n := by omega
  have hi2 : (i : Int) < (n : Int) := by omega
  clear hD0 hD1
  obtain ⟨m, hm⟩ : ∃ m, m = n - 1 := ⟨_, rfl⟩
  have hmn : m < n := by omega
  obtain ⟨b, o, rfl, hb, hc⟩ := (HhM.out.below hE.bel) (by omega)
  clear hb hc
  obtain ⟨x, hx0⟩ : ∃ x, x = r i := ⟨_, rfl⟩
  have Hhx0 := Lib.hid hx0
  clear hx0
  have Hhm := Lib.hid hm
  clear hm
  obtain ⟨b2, o2, e2, -, hc2⟩ := (HhM.out.below hE.bel) (by omega)
  cases e2
  obtain ⟨⟨d0, d1, d2, d3, d4, d5⟩, -⟩ := hc2 i hi
  rw [← Hhx0.out] at d0 d1 d2 d3 d4 d5
  clear hc2 d1 d2 d3 d4 d5
  go_wp2_with fail
  clear d0 tD tE
  refine (swithout_v x.I i (HhM.out.below hE.bel) Hhok.out hn10 (fun k hk => ⟨fun h => Hhok.out.inj hk hi (by rw [h, Hhx0.out]), fun h => by rw [h, Hhx0.out]⟩)).mono ?_
  rintro e w3 hwo
  rcases hwo with ⟨-, A2, c2, r2, rfl, hM2, hok2, hr2, hb⟩ | ⟨h0, -⟩
  rotate_left
  · exact absurd h0 (by omega)
  rw [← Hhm.out] at hM2 hok2 hr2 ⊢
  replace hE := (hE.step hb).clm hM2
  clear hb hM2
  have hw42 := hok2.w (hE.here.2)
  have hK2 := hok2.K
  have Hhok2 := Lib.hid hok2
  clear hok2
  have Hhr2 := Lib.hid hr2
  clear hr2
  have Hhw42 := Lib.hid hw42
  clear hw42
  have HhK2 := Lib.hid hK2
  clear hK2
  obtain ⟨b2, o2, e2, -, hc2⟩ := (HhM.out.below hE.bel) (by omega)
  cases e2
  obtain ⟨⟨d0, d1, d2, d3, d4, d5⟩, -⟩ := hc2 i hi
  rw [← Hhx0.out] at d0 d1 d2 d3 d4 d5
  clear hc2 d1 d2 d3 d4 d5
  go_wp2_with fail
  clear d0
  refine (swithout_v x.I n (hE.here.2) Hhok2.out (by omega) (fun k hk => ⟨fun h => absurd (Hhok.out.inj (j := skip i k) (k := i) (skip_lt hi (by have := Hhm.out; omega)) hi (by rw [← (Hhr2.out k hk).1, h, Hhx0.out])) (by unfold skip; split <;> omega), fun h => by omega⟩)).mono ?_
  rintro e w4 hwo
  rcases hwo with ⟨h0, -⟩ | ⟨-, rfl, hb⟩
  · exact absurd h0 (by omega)
  replace hE := hE.step hb
  clear hb
  go_wp2_with fail
  refine (sExact_v a ⟨h0a, h1a⟩ (HhM.out.below hE.bel) Hhok.out hn10).mono ?_
  rintro e w5 ⟨t, gx, cgx, hx, rfl, hlvt, hftt, -, hRr, hqq, hb⟩
  replace hE := ((hE.step hb).rwr hRr).fqs hqq
  clear hb hRr hqq
  have Hhlvt := Lib.hid hlvt
  clear hlvt
  go_wp2_with fail
  have o1 : IntKind.i64.wrap ((n : Int) - 1) = (n : Int) - 1 := by rw [IntKind.wrap_i64]; omega
  have u1 : ((m : Int) != (n : Int) - 1) = false := by rw [bne_eq_false_iff_eq]; have := Hhm.out; omega
  have u2 : ((m : Int) == (n : Int) - 1) = true := by rw [beq_iff_eq]; have := Hhm.out; omega
  refine (sExact_v a ⟨h0a, h1a⟩ (hE.h2) Hhok2.out (by omega)).mono ?_
  rintro e w6 ⟨u, gy, cgy, hy, rfl, hlvu, hftu, -, hRr, hqq, hb⟩
  replace hE := ((hE.step hb).rwr hRr).fqs hqq
  clear hb hRr hqq
  have Hhlvu := Lib.hid hlvu
  clear hlvu
  go_wp2_with fail
  clear o1 u1 u2
  have hxl : ∀ (T : Rat) (q : Nat → Cl) (N : Nat), fl T ≤ 48 → (∀ k, k < N → 0 ≤ wq q k ∧ fl (wq q k) ≤ 4) → (∀ k, k < N → 0 ≤ Kz q k ∧ Kz q k ≤ 1099511627776) → ∀ j, j < N → fl (xq T (wq q) (Kz q) j) ≤ 52 := fun T q N hT h1 h2 j hj => by
   unfold xq part mn; split
   · exact fl_times hT (h1 j hj).2
   · have h3 := h2 j hj; exact fl_le2 (fl_int3 (by omega) (by omega)) (by decide)
  have hfx := hxl t r n hftt Hhw4.out HhK.out
  have hfy := hxl u r2 m hftu Hhw42.out HhK2.out
  clear hxl
  have hle : ∀ j, j < m → xq t (wq r) (Kz r) (skip i j) ≤ xq u (wq r2) (Kz r2) j := fun j hj => by
   have h1 := Hhlvu.out
   have h2 := Hhr2.out
   rw [Hhm.out] at h1 h2 hj
   exact leave_le hi HhwK.out (fun k hk => (h2 k hk).2.1) (fun k hk => (h2 k hk).2.2) Hhlvt.out h1 hj
  have Hhfx := Lib.hid hfx
  clear hfx
  have Hhfy := Lib.hid hfy
  clear hfy
  have Hhle := Lib.hid hle
  clear hle
  go_loopw [15] (fun x wr => ∃ k : Nat, k ≤ m ∧ x = .int .i64 (k : Int) ∧ Env w (fun V => (((((True ∧ ClM A2 m r2 V) ∧ Rw 29 4 gx n cgx (fun j => zqL (hx j)) V) ∧ FqS hx n (xq t (wq r) (Kz r)) V) ∧ Rw 29 4 gy m cgy (fun j => zqL (hy j)) V) ∧ FqS hy m (xq u (wq r2) (Kz r2)) V)) wr) (fun x _ => m - (intOf x).toNat)
  case atStart => exact ⟨0, Nat.zero_le _, rfl, hE⟩
  case round =>
   clear hE
   obtain ⟨k, hk, rfl, hE⟩ := hrel
   by_cases hlt : k < m
   rotate_left
   ·
    have t1 : decide ((k : Int) < (m : Int)) = false := decide_eq_false (by omega)
    go_wp2_with fail
    go_ret
    exact ⟨rfl, hE.bel⟩
   have t1 : decide ((k : Int) < (m : Int)) = true := decide_eq_true (by omega)
   have t2 : (k : Int) < (m : Int) := by omega
   obtain ⟨s, hs⟩ : ∃ s, s = skip i k := ⟨_, rfl⟩
   have hsn : s < n := by rw [hs]; exact skip_lt hi (by have := Hhm.out; omega)
   have hsn2 : (s : Int) < (n : Int) := by omega
   obtain ⟨z, hz⟩ : ∃ z, z = r s := ⟨_, rfl⟩
   obtain ⟨y, hy0⟩ : ∃ y, y = r2 k := ⟨_, rfl⟩
   obtain ⟨q1, q2, q3⟩ := Hhr2.out k hlt
   rw [← hs, ← hy0, ← hz] at q1
   have q4 : y.K = z.K := by rw [hy0, hz, hs]; exact q3
   rw [← hs] at q2
   clear q3
   obtain ⟨bb, oo, rfl, hb, hc⟩ := (hE.h4) (by omega)
   clear hb hc
   obtain ⟨pw, hpw⟩ : ∃ pw, pw = wq r s := ⟨_, rfl⟩
   have hfp : fl pw ≤ 4 := by rw [hpw]; exact (Hhw4.out s hsn).2
   have hzw : FV wr pw z.w.s z.w.A z.w.n z.w.t z.w.B z.w.m := by rw [hz, hpw]; exact (ClM.fv (HhM.out.below hE.bel) Hhok.out hsn).2.1
   have hyw : FV wr pw y.w.s y.w.A y.w.n y.w.t y.w.B y.w.m := by rw [hy0, hpw, ← q2]; exact (ClM.fv (hE.h4) Hhok2.out hlt).2.1
   obtain ⟨f, hf⟩ : ∃ f, f = hx s := ⟨_, rfl⟩
   obtain ⟨g, hg⟩ : ∃ g, g = hy k := ⟨_, rfl⟩
   obtain ⟨X, hX⟩ : ∃ X, X = xq t (wq r) (Kz r) s := ⟨_, rfl⟩
   obtain ⟨Y, hY⟩ : ∃ X, X = xq u (wq r2) (Kz r2) k := ⟨_, rfl⟩
   have hfv := hE.h2 s hsn
   rw [← hf, ← hX] at hfv
   have hgv := hE.here.2 k hlt
   rw [← hg, ← hY] at hgv
   have hflX := Hhfx.out s hsn
   rw [← hX] at hflX
   have hflY := Hhfy.out k hlt
   rw [← hY] at hflY
   have hXY := Hhle.out k hlt
   rw [← hs, ← hX, ← hY] at hXY
   obtain ⟨v, hv⟩ : ∃ v, v = cmpQ X Y := ⟨_, rfl⟩
   have hv0 : v ≤ 0 := by rw [hv]; exact cmpQ_le hXY
   have t3 : decide (0 < v) = false := decide_eq_false (by omega)
   have t4 : (y.I != z.I) = false := by rw [bne_eq_false_iff_eq]; exact q1
   have t5 : (y.K != z.K) = false := by rw [bne_eq_false_iff_eq]; exact q4
   have t6 : (y.I == z.I) = true := beq_iff_eq.2 q1
   have t7 : (y.K == z.K) = true := beq_iff_eq.2 q4
   clear hv0 hXY q1 q2 q4
   have Hhs := Lib.hid hs
   clear hs
   have Hhz := Lib.hid hz
   clear hz
   have Hhy0 := Lib.hid hy0
   clear hy0
   have Hhpw := Lib.hid hpw
   clear hpw
   have Hhf := Lib.hid hf
   clear hf
   have Hhg := Lib.hid hg
   clear hg
   have HhX := Lib.hid hX
   clear hX
   have HhY := Lib.hid hY
   clear hY
   have Hhv := Lib.hid hv
   clear hv
   replace hE := ((((hE.fv hzw).fv hyw).fv hfv).fv hgv).clm (HhM.out.below hE.bel)
   clear hzw hyw hfv hgv
   by_cases hik : i ≤ k
   ·
    have t8 : decide ((i : Int) ≤ (k : Int)) = true := decide_eq_true (by omega)
    have es : (k : Int) + 1 = (s : Int) := by rw [Hhs.out]; unfold skip; rw [if_neg (by omega)]; rfl
    go_upto_region 17 with (fail)
    try rw [es]
    clear t1 es t8
    replace hE := hE.drew
    refine wp_region_held_drew (S := fun V => Rw 29 4 gx n cgx (fun j => zqL (hx j)) V ∧ Rw 29 4 gy m cgy (fun j => zqL (hy j)) V ∧ ClM (some ⟨b, o, none⟩) n r V ∧ ClM (some ⟨bb, oo, none⟩) m r2 V) (by kernel_rfl) (⟨hE.h8, hE.h6, hE.here.2, hE.h9⟩) (fun hHeld => ?_)
    generalize wr.drew = wd at *
    refine tk 0 ?_
    try simp only [PL]
    refine tk 1 ?_
    try simp only [PL]
    refine tk 2 ?_
    try simp only [PL]
    refine tk 3 ?_
    try simp only [PL]
    refine wpAnyH_take (i := 4) (v := ?v1_4_5) rfl (by kernel_rfl) (by kernel_rfl) (by kernel_rfl) (fun _ _ _ h => h) (Or.inl ⟨by rfl, ?hy1_4_5⟩) (by assumption) ?rest1_4_5
    case hy1_4_5 =>
     intro w hSw
     obtain ⟨b2, o2, e2, -, hc2⟩ := hSw.2.2.2 (by omega)
     cases e2
     obtain ⟨⟨d0, d1, d2, d3, d4, d5⟩, -⟩ := hc2 k hlt
     rw [← Hhy0.out] at d0 d1 d2 d3 d4 d5
     clear hc2
     clear hSw
     first | (go_simp; done) | (go_simp; with_reducible rfl)
    try simp only [PL]
    refine tk 5 ?_
    try simp only [PL]
    refine tk 6 ?_
    try simp only [PL]
    refine tk 7 ?_
    try simp only [PL]
    refine tk 8 ?_
    try simp only [PL]
    refine wpAnyH_take (i := 9) (v := ?v1_9_10) rfl (by kernel_rfl) (by kernel_rfl) (by kernel_rfl) (fun _ _ _ h => h) (Or.inl ⟨by rfl, ?hy1_9_10⟩) (by assumption) ?rest1_9_10
    case hy1_9_10 =>
     intro w hSw
     obtain ⟨b2, o2, e2, -, hc2⟩ := hSw.2.2.1 (by omega)
     cases e2
     obtain ⟨⟨d0, d1, d2, d3, d4, d5⟩, -⟩ := hc2 s hsn
     rw [← Hhz.out] at d0 d1 d2 d3 d4 d5
     clear hc2
     clear hSw
     first | (go_simp; done) | (go_simp; with_reducible rfl)
    try simp only [PL]
    refine tk 10 ?_
    try simp only [PL]
    refine tk 11 ?_
    try simp only [PL]
    refine tk 12 ?_
    try simp only [PL]
    refine tk 13 ?_
    try simp only [PL]
    refine tk 14 ?_
    try simp only [PL]
    refine tk 15 ?_
    try simp only [PL]
    refine wpAnyH_take (i := 16) (v := ?v1_16_17) rfl (by kernel_rfl) (by kernel_rfl) (by kernel_rfl) (fun _ _ _ h => h) (Or.inl ⟨by rfl, ?hy1_16_17⟩) (by assumption) ?rest1_16_17
    case hy1_16_17 =>
     intro w hSw
     obtain ⟨b2, o2, e2, -, hc2⟩ := hSw.2.2.2 (by omega)
     cases e2
     obtain ⟨⟨d0, d1, d2, d3, d4, d5⟩, -⟩ := hc2 k hlt
     rw [← Hhy0.out] at d0 d1 d2 d3 d4 d5
     clear hc2
     clear hSw
     first | (go_simp; done) | (go_simp; with_reducible rfl)
    try simp only [PL]
    refine tk 17 ?_
    try simp only [PL]
    refine tk 18 ?_
    try simp only [PL]
    refine tk 19 ?_
    try simp only [PL]
    refine tk 20 ?_
    try simp only [PL]
    refine wpAnyH_take (i := 21) (v := ?v1_21_22) rfl (by kernel_rfl) (by kernel_rfl) (by kernel_rfl) (fun _ _ _ h => h) (Or.inl ⟨by rfl, ?hy1_21_22⟩) (by assumption) ?rest1_21_22
    case hy1_21_22 =>
     intro w hSw
     obtain ⟨b2, o2, e2, -, hc2⟩ := hSw.2.2.1 (by omega)
     cases e2
     obtain ⟨⟨d0, d1, d2, d3, d4, d5⟩, -⟩ := hc2 s hsn
     rw [← Hhz.out] at d0 d1 d2 d3 d4 d5
     clear hc2
     clear hSw
     first | (go_simp; done) | (go_simp; with_reducible rfl)
    try simp only [PL]
    refine tk 22 ?_
    try simp only [PL]
    refine tk 23 ?_
    try simp only [PL]
    refine tk 24 ?_
    try simp only [PL]
    refine tk 25 ?_
    try simp only [PL]
    refine tk 26 ?_
    try simp only [PL]
    refine tk 27 ?_
    try simp only [PL]
    refine tk 28 ?_
    try simp only [PL]
    refine wpAnyH_take (i := 29) (v := ?v1_29_30) rfl (by kernel_rfl) (by kernel_rfl) (by kernel_rfl) (fun _ _ _ h => h) (Or.inl ⟨by rfl, ?hy1_29_30⟩) (by assumption) ?rest1_29_30
    case hy1_29_30 =>
     intro w hSw
     obtain ⟨b2, o2, e2, -, hc2⟩ := hSw.2.2.2 (by omega)
     cases e2
     obtain ⟨⟨d0, d1, d2, d3, d4, d5⟩, -⟩ := hc2 k hlt
     rw [← Hhy0.out] at d0 d1 d2 d3 d4 d5
     clear hc2
     clear hSw
     first | (go_simp; done) | (go_simp; with_reducible rfl)
    try simp only [PL]
    refine tk 30 ?_
    try simp only [PL]
    refine tk 31 ?_
    try simp only [PL]
    refine tk 32 ?_
    try simp only [PL]
    refine tk 33 ?_
    try simp only [PL]
    refine wpAnyH_take (i := 34) (v := ?v1_34_35) rfl (by kernel_rfl) (by kernel_rfl) (by kernel_rfl) (fun _ _ _ h => h) (Or.inl ⟨by rfl, ?hy1_34_35⟩) (by assumption) ?rest1_34_35
    case hy1_34_35 =>
     intro w hSw
     obtain ⟨b2, o2, e2, -, hc2⟩ := hSw.2.2.1 (by omega)
     cases e2
     obtain ⟨⟨d0, d1, d2, d3, d4, d5⟩, -⟩ := hc2 s hsn
     rw [← Hhz.out] at d0 d1 d2 d3 d4 d5
     clear hc2
     clear hSw
     first | (go_simp; done) | (go_simp; with_reducible rfl)
    try simp only [PL]
    refine r1 35 (fun K hK => ?_)
    go_simp
    refine hE.br (fsame_t (ca := y.w.c) (da := y.w.d) (cb := z.w.c) (db := z.w.d) (hE.h3) (hE.h4) (by omega)) ?_
    clear hE
    intro w7 hE
    go_wp2_with fail
    refine hK.out _ _ (⟨hE.h8, hE.h6, hE.here.2, hE.h9⟩) (fun hHeld => ?_)
    clear hK K
    try simp only [PL]
    refine tk 36 ?_
    try simp only [PL]
    refine tk 37 ?_
    try simp only [PL]
    refine tk 38 ?_
    try simp only [PL]
    refine tk 39 ?_
    try simp only [PL]
    refine tk 40 ?_
    try simp only [PL]
    refine tk 41 ?_
    try simp only [PL]
    refine wpAnyH_take (i := 42) (v := ?v1_42_42) rfl (by kernel_rfl) (by kernel_rfl) (by kernel_rfl) (fun _ _ _ h => h) (Or.inl ⟨by rfl, ?hy1_42_42⟩) (by assumption) ?rest1_42_42
    case hy1_42_42 =>
     intro w hSw
     have kc0 := Rw.cell hSw.1 (k := s) (i := 0) (o := s * 4) (v := .bool f.s) hsn (by decide) rfl (by rw [← Hhf.out]; rfl)
     have kc1 := Rw.cell hSw.1 (k := s) (i := 1) (o := s * 4 + 1) (v := .slice f.A f.n f.c) hsn (by decide) rfl (by rw [← Hhf.out]; rfl)
     have kc2 := Rw.cell hSw.1 (k := s) (i := 2) (o := s * 4 + 2) (v := .bool f.t) hsn (by decide) rfl (by rw [← Hhf.out]; rfl)
     have kc3 := Rw.cell hSw.1 (k := s) (i := 3) (o := s * 4 + 3) (v := .slice f.B f.m f.d) hsn (by decide) rfl (by rw [← Hhf.out]; rfl)
     clear hSw
     first | (go_simp; done) | (go_simp; with_reducible rfl)
    try simp only [PL]
    refine tk 43 ?_
    try simp only [PL]
    refine tk 44 ?_
    try simp only [PL]
    refine tk 45 ?_
    try simp only [PL]
    refine wpAnyH_take (i := 46) (v := ?v1_46_46) rfl (by kernel_rfl) (by kernel_rfl) (by kernel_rfl) (fun _ _ _ h => h) (Or.inl ⟨by rfl, ?hy1_46_46⟩) (by assumption) ?rest1_46_46
    case hy1_46_46 =>
     intro w hSw
     have kc0 := Rw.cell hSw.2.1 (k := k) (i := 0) (o := k * 4) (v := .bool g.s) hlt (by decide) rfl (by rw [← Hhg.out]; rfl)
     have kc1 := Rw.cell hSw.2.1 (k := k) (i := 1) (o := k * 4 + 1) (v := .slice g.A g.n g.c) hlt (by decide) rfl (by rw [← Hhg.out]; rfl)
     have kc2 := Rw.cell hSw.2.1 (k := k) (i := 2) (o := k * 4 + 2) (v := .bool g.t) hlt (by decide) rfl (by rw [← Hhg.out]; rfl)
     have kc3 := Rw.cell hSw.2.1 (k := k) (i := 3) (o := k * 4 + 3) (v := .slice g.B g.m g.d) hlt (by decide) rfl (by rw [← Hhg.out]; rfl)
     clear hSw
     first | (go_simp; done) | (go_simp; with_reducible rfl)
    try simp only [PL]
    refine r1 47 (fun K hK => ?_)
    go_simp
    refine hE.br (fcmp_v (ca := f.c) (da := f.d) (cb := g.c) (db := g.d) (hE.h2) (hE.here.1.2) (by omega) (by omega)) ?_
    clear hE
    intro w8 hE
    rw [← Hhv.out]
    go_wp2_with fail
    refine hK.out _ _ (⟨hE.h8, hE.h6, hE.here.2, hE.h9⟩) (fun hHeld => ?_)
    clear hK K
    try simp only [PL]
    refine tk 48 ?_
    try simp only [PL]
    refine tk 49 ?_
    try simp only [PL]
    refine wpAnyH_done (by kernel_rfl) ?_ _
    go_wp2_with fail
    go_roundw
    case rel => exact ⟨k + 1, by omega, by go_num, ((((((Env.again hE.bel).clm (hE.h9)).rwr (hE.h8)).fqs (hE.h7)).rwr (hE.h6)).fqs (hE.h5))⟩
    case measure => simp [intOf]; omega
   have t8 : decide ((i : Int) ≤ (k : Int)) = false := decide_eq_false (by omega)
   obtain rfl : s = k := by rw [Hhs.out]; unfold skip; rw [if_pos (by omega)]
   go_upto_region 17 with (fail)
   clear t1 t8
   replace hE := hE.drew
   refine wp_region_held_drew (S := fun V => Rw 29 4 gx n cgx (fun j => zqL (hx j)) V ∧ Rw 29 4 gy m cgy (fun j => zqL (hy j)) V ∧ ClM (some ⟨b, o, none⟩) n r V ∧ ClM (some ⟨bb, oo, none⟩) m r2 V) (by kernel_rfl) (⟨hE.h8, hE.h6, hE.here.2, hE.h9⟩) (fun hHeld => ?_)
   generalize wr.drew = wd at *
   refine tk 0 ?_
   try simp only [PL]
   refine tk 1 ?_
   try simp only [PL]
   refine tk 2 ?_
   try simp only [PL]
   refine tk 3 ?_
   try simp only [PL]
   refine wpAnyH_take (i := 4) (v := ?v2_4_5) rfl (by kernel_rfl) (by kernel_rfl) (by kernel_rfl) (fun _ _ _ h => h) (Or.inl ⟨by rfl, ?hy2_4_5⟩) (by assumption) ?rest2_4_5
   case hy2_4_5 =>
    intro w hSw
    obtain ⟨b2, o2, e2, -, hc2⟩ := hSw.2.2.2 (by omega)
    cases e2
    obtain ⟨⟨d0, d1, d2, d3, d4, d5⟩, -⟩ := hc2 s hlt
    rw [← Hhy0.out] at d0 d1 d2 d3 d4 d5
    clear hc2
    clear hSw
    first | (go_simp; done) | (go_simp; with_reducible rfl)
   try simp only [PL]
   refine tk 5 ?_
   try simp only [PL]
   refine tk 6 ?_
   try simp only [PL]
   refine tk 7 ?_
   try simp only [PL]
   refine tk 8 ?_
   try simp only [PL]
   refine wpAnyH_take (i := 9) (v := ?v2_9_10) rfl (by kernel_rfl) (by kernel_rfl) (by kernel_rfl) (fun _ _ _ h => h) (Or.inl ⟨by rfl, ?hy2_9_10⟩) (by assumption) ?rest2_9_10
   case hy2_9_10 =>
    intro w hSw
    obtain ⟨b2, o2, e2, -, hc2⟩ := hSw.2.2.1 (by omega)
    cases e2
    obtain ⟨⟨d0, d1, d2, d3, d4, d5⟩, -⟩ := hc2 s hsn
    rw [← Hhz.out] at d0 d1 d2 d3 d4 d5
    clear hc2
    clear hSw
    first | (go_simp; done) | (go_simp; with_reducible rfl)
   try simp only [PL]
   refine tk 10 ?_
   try simp only [PL]
   refine tk 11 ?_
   try simp only [PL]
   refine tk 12 ?_
   try simp only [PL]
   refine tk 13 ?_
   try simp only [PL]
   refine tk 14 ?_
   try simp only [PL]
   refine tk 15 ?_
   try simp only [PL]
   refine wpAnyH_take (i := 16) (v := ?v2_16_17) rfl (by kernel_rfl) (by kernel_rfl) (by kernel_rfl) (fun _ _ _ h => h) (Or.inl ⟨by rfl, ?hy2_16_17⟩) (by assumption) ?rest2_16_17
   case hy2_16_17 =>
    intro w hSw
    obtain ⟨b2, o2, e2, -, hc2⟩ := hSw.2.2.2 (by omega)
    cases e2
    obtain ⟨⟨d0, d1, d2, d3, d4, d5⟩, -⟩ := hc2 s hlt
    rw [← Hhy0.out] at d0 d1 d2 d3 d4 d5
    clear hc2
    clear hSw
    first | (go_simp; done) | (go_simp; with_reducible rfl)
   try simp only [PL]
   refine tk 17 ?_
   try simp only [PL]
   refine tk 18 ?_
   try simp only [PL]
   refine tk 19 ?_
   try simp only [PL]
   refine tk 20 ?_
   try simp only [PL]
   refine wpAnyH_take (i := 21) (v := ?v2_21_22) rfl (by kernel_rfl) (by kernel_rfl) (by kernel_rfl) (fun _ _ _ h => h) (Or.inl ⟨by rfl, ?hy2_21_22⟩) (by assumption) ?rest2_21_22
   case hy2_21_22 =>
    intro w hSw
    obtain ⟨b2, o2, e2, -, hc2⟩ := hSw.2.2.1 (by omega)
    cases e2
    obtain ⟨⟨d0, d1, d2, d3, d4, d5⟩, -⟩ := hc2 s hsn
    rw [← Hhz.out] at d0 d1 d2 d3 d4 d5
    clear hc2
    clear hSw
    first | (go_simp; done) | (go_simp; with_reducible rfl)
   try simp only [PL]
   refine tk 22 ?_
   try simp only [PL]
   refine tk 23 ?_
   try simp only [PL]
   refine tk 24 ?_
   try simp only [PL]
   refine tk 25 ?_
   try simp only [PL]
   refine tk 26 ?_
   try simp only [PL]
   refine tk 27 ?_
   try simp only [PL]
   refine tk 28 ?_
   try simp only [PL]
   refine wpAnyH_take (i := 29) (v := ?v2_29_30) rfl (by kernel_rfl) (by kernel_rfl) (by kernel_rfl) (fun _ _ _ h => h) (Or.inl ⟨by rfl, ?hy2_29_30⟩) (by assumption) ?rest2_29_30
   case hy2_29_30 =>
    intro w hSw
    obtain ⟨b2, o2, e2, -, hc2⟩ := hSw.2.2.2 (by omega)
    cases e2
    obtain ⟨⟨d0, d1, d2, d3, d4, d5⟩, -⟩ := hc2 s hlt
    rw [← Hhy0.out] at d0 d1 d2 d3 d4 d5
    clear hc2
    clear hSw
    first | (go_simp; done) | (go_simp; with_reducible rfl)
   try simp only [PL]
   refine tk 30 ?_
   try simp only [PL]
   refine tk 31 ?_
   try simp only [PL]
   refine tk 32 ?_
   try simp only [PL]
   refine tk 33 ?_
   try simp only [PL]
   refine wpAnyH_take (i := 34) (v := ?v2_34_35) rfl (by kernel_rfl) (by kernel_rfl) (by kernel_rfl) (fun _ _ _ h => h) (Or.inl ⟨by rfl, ?hy2_34_35⟩) (by assumption) ?rest2_34_35
   case hy2_34_35 =>
    intro w hSw
    obtain ⟨b2, o2, e2, -, hc2⟩ := hSw.2.2.1 (by omega)
    cases e2
    obtain ⟨⟨d0, d1, d2, d3, d4, d5⟩, -⟩ := hc2 s hsn
    rw [← Hhz.out] at d0 d1 d2 d3 d4 d5
    clear hc2
    clear hSw
    first | (go_simp; done) | (go_simp; with_reducible rfl)
   try simp only [PL]
   refine r1 35 (fun K hK => ?_)
   go_simp
   refine hE.br (fsame_t (ca := y.w.c) (da := y.w.d) (cb := z.w.c) (db := z.w.d) (hE.h3) (hE.h4) (by omega)) ?_
   clear hE
   intro w9 hE
   go_wp2_with fail
   refine hK.out _ _ (⟨hE.h8, hE.h6, hE.here.2, hE.h9⟩) (fun hHeld => ?_)
   clear hK K
   try simp only [PL]
   refine tk 36 ?_
   try simp only [PL]
   refine tk 37 ?_
   try simp only [PL]
   refine tk 38 ?_
   try simp only [PL]
   refine tk 39 ?_
   try simp only [PL]
   refine tk 40 ?_
   try simp only [PL]
   refine tk 41 ?_
   try simp only [PL]
   refine wpAnyH_take (i := 42) (v := ?v2_42_42) rfl (by kernel_rfl) (by kernel_rfl) (by kernel_rfl) (fun _ _ _ h => h) (Or.inl ⟨by rfl, ?hy2_42_42⟩) (by assumption) ?rest2_42_42
   case hy2_42_42 =>
    intro w hSw
    have kc0 := Rw.cell hSw.1 (k := s) (i := 0) (o := s * 4) (v := .bool f.s) hsn (by decide) rfl (by rw [← Hhf.out]; rfl)
    have kc1 := Rw.cell hSw.1 (k := s) (i := 1) (o := s * 4 + 1) (v := .slice f.A f.n f.c) hsn (by decide) rfl (by rw [← Hhf.out]; rfl)
    have kc2 := Rw.cell hSw.1 (k := s) (i := 2) (o := s * 4 + 2) (v := .bool f.t) hsn (by decide) rfl (by rw [← Hhf.out]; rfl)
    have kc3 := Rw.cell hSw.1 (k := s) (i := 3) (o := s * 4 + 3) (v := .slice f.B f.m f.d) hsn (by decide) rfl (by rw [← Hhf.out]; rfl)
    clear hSw
    first | (go_simp; done) | (go_simp; with_reducible rfl)
   try simp only [PL]
   refine tk 43 ?_
   try simp only [PL]
   refine tk 44 ?_
   try simp only [PL]
   refine tk 45 ?_
   try simp only [PL]
   refine wpAnyH_take (i := 46) (v := ?v2_46_46) rfl (by kernel_rfl) (by kernel_rfl) (by kernel_rfl) (fun _ _ _ h => h) (Or.inl ⟨by rfl, ?hy2_46_46⟩) (by assumption) ?rest2_46_46
   case hy2_46_46 =>
    intro w hSw
    have kc0 := Rw.cell hSw.2.1 (k := s) (i := 0) (o := s * 4) (v := .bool g.s) hlt (by decide) rfl (by rw [← Hhg.out]; rfl)
    have kc1 := Rw.cell hSw.2.1 (k := s) (i := 1) (o := s * 4 + 1) (v := .slice g.A g.n g.c) hlt (by decide) rfl (by rw [← Hhg.out]; rfl)
    have kc2 := Rw.cell hSw.2.1 (k := s) (i := 2) (o := s * 4 + 2) (v := .bool g.t) hlt (by decide) rfl (by rw [← Hhg.out]; rfl)
    have kc3 := Rw.cell hSw.2.1 (k := s) (i := 3) (o := s * 4 + 3) (v := .slice g.B g.m g.d) hlt (by decide) rfl (by rw [← Hhg.out]; rfl)
    clear hSw
    first | (go_simp; done) | (go_simp; with_reducible rfl)
   try simp only [PL]
   refine r1 47 (fun K hK => ?_)
   go_simp
   refine hE.br (fcmp_v (ca := f.c) (da := f.d) (cb := g.c) (db := g.d) (hE.h2) (hE.here.1.2) (by omega) (by omega)) ?_
   clear hE
   intro w10 hE
   rw [← Hhv.out]
   go_wp2_with fail
   refine hK.out _ _ (⟨hE.h8, hE.h6, hE.here.2, hE.h9⟩) (fun hHeld => ?_)
   clear hK K
   try simp only [PL]
   refine tk 48 ?_
   try simp only [PL]
   refine tk 49 ?_
   try simp only [PL]
   refine wpAnyH_done (by kernel_rfl) ?_ _
   go_wp2_with fail
   go_roundw
   case rel => exact ⟨s + 1, by omega, by go_num, ((((((Env.again hE.bel).clm (hE.h9)).rwr (hE.h8)).fqs (hE.h7)).rwr (hE.h6)).fqs (hE.h5))⟩
   case measure => simp [intOf]; omega
end Go.Proofs.YtjgihmmeimfheaaGreat
