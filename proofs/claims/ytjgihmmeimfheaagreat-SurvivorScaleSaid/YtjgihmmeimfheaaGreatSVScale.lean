/-
  The walk of SurvivorScale.
-/
import Derived.Test.YtjgihmmeimfheaaGreatK3
import Derived.Test.YtjgihmmeimfheaaGreatK18
import Derived.Test.YtjgihmmeimfheaaGreatSVC
import Derived.Test.YtjgihmmeimfheaaGreatSvY
namespace Go.Proofs.YtjgihmmeimfheaaGreat
open Go.RowKit

theorem fsame_t {a : Rat} {sa ta sb tb : Bool} {Aa Ba Ab Bb : Option Addr} {na ca ma da nb cb mb db : Nat} {w : World} (ha : FV w a sa Aa na ta Ba ma) (hb : FV w a sb Ab nb tb Bb mb) (l : fl a ≤ 256) :
  Calls Tryz.prog 33 #[.agg #[.bool sa, .slice Aa na ca, .bool ta, .slice Ba ma da], .agg #[.bool sb, .slice Ab nb cb, .bool tb, .slice Bb mb db]] w fun e w' => e = .returned (.bool true) ∧ Below w.heap.size w w' := by
 have h1 := ha.ln l
 have h2 := hb.ln l
 have hc := fsame_v (ca := ca) (da := da) (cb := cb) (db := db) ha hb (by omega) (by omega) (by omega) (by omega)
 rw [decide_eq_true rfl] at hc
 exact hc
theorem divInt_pos {N D : Int} (h1 : 0 < N) (h2 : 0 < D) : (0 : Rat) < Rat.divInt N D := by
 rw [Rat.divInt_eq_div, Rat.div_def]
 exact Rat.mul_pos (Rat.intCast_pos.2 h1) (Rat.inv_pos.2 (Rat.intCast_pos.2 h2))
set_option linter.unusedSimpArgs false in
set_option maxRecDepth 100000 in
set_option maxHeartbeats 8000000 in
theorem svscale_walk {A : Option Addr} {n c : Nat} {r : Nat → Cl} {w : World} (hM : ClM A n r w) (a N D : Int) (N0 : 0 ≤ N) (N1 : N ≤ 255) (D0 : 0 ≤ D) (D1 : D ≤ 255) :
  Calls Tryz.prog 9 #[.int .i64 a, .slice A n c, .int .u8 N, .int .u8 D] w (fun e w' => e = .returned (.bool true) ∧ Below w.heap.size w w') := by
  have hND : (0 ≤ N ∧ N ≤ 255) ∧ 0 ≤ D ∧ D ≤ 255 := ⟨⟨N0, N1⟩, D0, D1⟩
  clear N0 N1 D0 D1
  have HhND := Lib.hid hND
  clear hND
  have HhM := Lib.hid hM
  clear hM
  have hE := Env.start w
  go_enter Tryz.func9, Tryz.ntmps9
  go_wp2_with fail
  refine hE.br (awake_v _) ?_
  clear hE
  intro w1 hE
  go_wp2_with fail
  refine (susable_v (r := r) a (HhM.out.below hE.bel)).mono ?_
  rintro e w2 ⟨v, rfl, hv, hb⟩
  replace hE := hE.step hb
  clear hb
  cases v with
  | false =>
   clear hv
   go_wp2_with fail
   go_ret
   exact ⟨rfl, hE.bel⟩
  | true =>
   obtain ⟨hn10, h0a, h1a, hok⟩ := hv.1 rfl
   clear hv
   have hw4 := hok.w (HhM.out.below hE.bel)
   have hK := hok.K
   have hwK : ∀ k, k < n → 0 ≤ wq r k ∧ 0 ≤ Kz r k := fun k hk => ⟨(hw4 k hk).1, (hK k hk).1⟩
   have Hhok := Lib.hid hok
   clear hok
   have Hhw4 := Lib.hid hw4
   clear hw4
   have HhK := Lib.hid hK
   clear hK
   have HhwK := Lib.hid hwK
   clear hwK
   by_cases hN : N = 0
   ·
    have tN : (N == 0) = true := beq_iff_eq.2 hN
    have HhN := Lib.hid hN
    clear hN
    go_wp2_with fail
    go_ret
    exact ⟨rfl, hE.bel⟩
   have tN : (N == 0) = false := beq_eq_false_iff_ne.2 hN
   have HhN := Lib.hid hN
   clear hN
   by_cases hD : D = 0
   ·
    have tD : (D == 0) = true := beq_iff_eq.2 hD
    have HhD := Lib.hid hD
    clear hD
    go_wp2_with fail
    go_ret
    exact ⟨rfl, hE.bel⟩
   have tD : (D == 0) = false := beq_eq_false_iff_ne.2 hD
   have HhD := Lib.hid hD
   clear hD
   obtain ⟨⟨N0, N1⟩, D0, D1⟩ := HhND.out
   have o1 : IntKind.i64.wrap N = N := by rw [IntKind.wrap_i64]; omega
   have o2 : IntKind.i64.wrap D = D := by rw [IntKind.wrap_i64]; omega
   have hd0 : D ≠ 0 := HhD.out
   have hn0 : N ≠ 0 := HhN.out
   obtain ⟨bq, hbq⟩ : ∃ b, b = Rat.divInt N D := ⟨_, rfl⟩
   have hfb : fl bq ≤ 1 := by rw [hbq]; exact fl_div (by omega) ((ln_le b16_two).2 (show N.natAbs < 65536 by omega)) ((ln_le b16_two).2 (show D.natAbs < 65536 by omega))
   have hbp : 0 < bq := by rw [hbq]; exact divInt_pos (by omega) (by omega)
   have Hhd0 := Lib.hid hd0
   clear hd0
   have Hhn0 := Lib.hid hn0
   clear hn0
   have Hhbp := Lib.hid hbp
   clear hbp
   have Hhbq := Lib.hid hbq
   clear hbq
   go_wp2_with fail
   clear tN tD o1 o2
   have hc := rquick_v N D w2 (by omega) (by omega) (by omega) (by omega) Hhd0.out
   rw [← Hhbq.out] at hc
   refine hE.fr (hc) ?_
   clear hE
   intro sf Af nf cf tf Bf mf df w3 hE
   clear hc
   go_upto_region 6 with (fail)
   obtain ⟨g4, hg4⟩ : ∃ g4, g4 = w3.heap.size := ⟨_, rfl⟩
   have hlw_g4 : w.heap.size ≤ g4 := by rw [hg4]; exact hE.bel.size
   replace hE := hE.blk 29 #[.bool sf, .slice Af nf cf, .bool tf, .slice Bf mf df] (g := g4) hg4.symm
   generalize w3.alloc (.cells #[.bool sf, .slice Af nf cf, .bool tf, .slice Bf mf df] 29) = W4 at hE ⊢
   rw [← hg4]
   clear hg4
   go_wp2_with fail
   replace hE := (hE.rwv (T := 46) (m := 6) (b0 := w.heap.size) (n := 0) (v := .slice none 0 0) (e := clR (fun j => (r j).I) (Kz r) (fun _ => zFH)) (.inl ⟨rfl, rfl⟩)).fqs (h := fun _ => zFH) (n := 0) (q := (fun j => wq r j * bq)) (fun j hj => absurd hj (Nat.not_lt_zero j))
   go_loopw [10, 11] (fun mv x wr => ∃ (k : Nat) (h : Nat → FH) (v : Value), k ≤ n ∧ v = mv ∧ x = .int .i64 (k : Int) ∧ Env w (fun V => ((((True ∧ FV V bq sf Af nf tf Bf mf) ∧ Blk 29 (g4) #[.bool sf, .slice Af nf cf, .bool tf, .slice Bf mf df] V) ∧ RwV 46 6 w.heap.size v k (clR (fun j => (r j).I) (Kz r) h) V) ∧ FqS h k (fun j => wq r j * bq) V)) wr) (fun _ x _ => n - (intOf x).toNat)
   case atStart => exact ⟨0, fun _ => zFH, .slice none 0 0, Nat.zero_le _, rfl, rfl, hE⟩
   case round =>
    clear hE
    obtain ⟨k, h, v, hk, rfl, rfl, hE⟩ := hrel
    by_cases hlt : k < n
    rotate_left
    ·
     obtain rfl : n = k := by omega
     have t1 : decide ((n : Int) < (n : Int)) = false := decide_eq_false (by omega)
     obtain ⟨A2, c2, rfl, hM2⟩ := clm_built (hE.here.1.2) (hE.here.2)
     have hwq2 : ∀ k, k < n → wq (clB (fun j => (r j).I) (Kz r) h (fun j => wq r j * bq)) k = wq r k * bq := fun k hk => wq_built (hE.here.2) hk
     have hKz2 : ∀ k, k < n → Kz (clB (fun j => (r j).I) (Kz r) h (fun j => wq r j * bq)) k = Kz r k := fun _ _ => rfl
     generalize clB (fun j => (r j).I) (Kz r) h (fun j => wq r j * bq) = r2 at hM2 hwq2 hKz2
     have Hhwq2 := Lib.hid hwq2
     clear hwq2
     have HhKz2 := Lib.hid hKz2
     clear hKz2
     replace hE := ((((Env.again hE.bel).fv (hE.h3)).blkI (hE.h2)).clm hM2)
     clear hM2
     go_wp2_with fail
     clear t1
     refine (svalid_any A2 n c2 r2 _ (hE.here.2)).mono ?_
     rintro e w5 ⟨v, rfl, hv, hb⟩
     replace hE := hE.step hb
     clear hb
     cases v with
     | false =>
      clear hv
      go_wp2_with fail
      go_ret
      exact ⟨rfl, hE.bel⟩
     | true =>
      have hok2 := hv.1 rfl
      clear hv
      have Hhok2 := Lib.hid hok2
      clear hok2
      go_wp2_with fail
      refine (sparts_v a ⟨h0a, h1a⟩ (HhM.out.below hE.bel) Hhok.out hn10).mono ?_
      rintro e w6 ⟨gp, cgp, p, t, rfl, ⟨hlvt, hftt, hpqp⟩, -, hRr, hb⟩
      replace hE := (hE.step hb).rwr hRr
      clear hb hRr
      have Hhlvt := Lib.hid hlvt
      clear hlvt
      have Hhpqp := Lib.hid hpqp
      clear hpqp
      go_wp2_with fail
      refine (sparts_v a ⟨h0a, h1a⟩ (hE.here.1.2) Hhok2.out hn10).mono ?_
      rintro e w7 ⟨gz, cgz, z, u, rfl, ⟨hlvu, hftu, hpqz⟩, -, hRr, hb⟩
      replace hE := (hE.step hb).rwr hRr
      clear hb hRr
      have Hhlvu := Lib.hid hlvu
      clear hlvu
      have Hhpqz := Lib.hid hpqz
      clear hpqz
      go_wp2_with fail
      have htot : totZ a (wq r2) (Kz r2) n = totZ a (wq r) (Kz r) n := tot_scale (b := bq) (by have := Hhbp.out; grind) Hhwq2.out HhKz2.out
      have hut : u * bq = t := by have h1 := Hhlvu.out; rw [htot] at h1; exact lv_scale Hhbp.out Hhwq2.out HhKz2.out h1 Hhlvt.out
      have hsame : ∀ k, k < n → p k = z k := fun k hk => by
       have h1 := Hhpqz.out
       rw [htot] at h1
       refine parts_same Hhpqp.out h1 (fun j hj => ?_) hk
       rw [← hut]
       exact xq_scale (Hhwq2.out j hj) (HhKz2.out j hj)
      have Hhtot := Lib.hid htot
      clear htot
      have Hhut := Lib.hid hut
      clear hut
      have Hhsame := Lib.hid hsame
      clear hsame
      refine (sLevel_v a ⟨h0a, h1a⟩ (HhM.out.below hE.bel) Hhok.out hn10).mono ?_
      rintro e w8 ⟨t2, hlvt2, hftt2, sq, Aq, nq, cq, tq, Bq, mq, dq, rfl, hq, hb⟩
      replace hE := (hE.step hb).fv hq
      clear hb hq
      have Hhlvt2 := Lib.hid hlvt2
      clear hlvt2
      have e0 := Hhlvt.out.uniq Hhlvt2.out
      subst e0
      clear Hhlvt2 hftt2
      go_upto_region 17 with (fail)
      obtain ⟨g9, hg9⟩ : ∃ g9, g9 = w8.heap.size := ⟨_, rfl⟩
      have hl9_1 : g4 < g9 := by rw [hg9]; exact (hE.h4).lt
      have hl9_3 : gp < g9 := by rw [hg9]; exact Rw.lt (hE.h2)
      have hl9_4 : gz < g9 := by rw [hg9]; exact Rw.lt (hE.here.1.2)
      have hlw_g9 : w.heap.size ≤ g9 := by rw [hg9]; exact hE.bel.size
      replace hE := hE.blk 29 #[.bool sq, .slice Aq nq cq, .bool tq, .slice Bq mq dq] (g := g9) hg9.symm
      generalize w8.alloc (.cells #[.bool sq, .slice Aq nq cq, .bool tq, .slice Bq mq dq] 29) = W9 at hE ⊢
      rw [← hg9]
      clear hg9
      go_wp2_with fail
      refine (sLevel_v a ⟨h0a, h1a⟩ (hE.h4) Hhok2.out hn10).mono ?_
      rintro e w10 ⟨u2, hlvu2, hftu2, sv, Av, nv, cv, tv, Bv, mv, dv, rfl, hq, hb⟩
      replace hE := (hE.step hb).fv hq
      clear hb hq
      have Hhlvu2 := Lib.hid hlvu2
      clear hlvu2
      have e0 := Hhlvu.out.uniq Hhlvu2.out
      subst e0
      clear Hhlvu2 hftu2
      go_upto_region 18 with (fail)
      obtain ⟨g11, hg11⟩ : ∃ g11, g11 = w10.heap.size := ⟨_, rfl⟩
      have hl11_1 : g4 < g11 := by rw [hg11]; exact (hE.h6).lt
      have hl11_3 : gp < g11 := by rw [hg11]; exact Rw.lt (hE.h4)
      have hl11_4 : gz < g11 := by rw [hg11]; exact Rw.lt (hE.h3)
      have hl11_6 : g9 < g11 := by rw [hg11]; exact (hE.here.1.2).lt
      have hlw_g11 : w.heap.size ≤ g11 := by rw [hg11]; exact hE.bel.size
      replace hE := hE.blk 29 #[.bool sv, .slice Av nv cv, .bool tv, .slice Bv mv dv] (g := g11) hg11.symm
      generalize w10.alloc (.cells #[.bool sv, .slice Av nv cv, .bool tv, .slice Bv mv dv] 29) = W11 at hE ⊢
      rw [← hg11]
      clear hg11
      go_wp2_with fail
      go_loopw [22] (fun x wr => ∃ k : Nat, k ≤ n ∧ x = .int .i64 (k : Int) ∧ Env w (fun V => (((((((((True ∧ FV V bq sf Af nf tf Bf mf) ∧ Blk 29 (g4) #[.bool sf, .slice Af nf cf, .bool tf, .slice Bf mf df] V) ∧ ClM A2 n r2 V) ∧ Rw 3 1 gp n cgp (fun j => [.int .i64 (p j)]) V) ∧ Rw 3 1 gz n cgz (fun j => [.int .i64 (z j)]) V) ∧ FV V t sq Aq nq tq Bq mq) ∧ Blk 29 (g9) #[.bool sq, .slice Aq nq cq, .bool tq, .slice Bq mq dq] V) ∧ FV V u sv Av nv tv Bv mv) ∧ Blk 29 (g11) #[.bool sv, .slice Av nv cv, .bool tv, .slice Bv mv dv] V)) wr) (fun x _ => n - (intOf x).toNat)
      case atStart => exact ⟨0, Nat.zero_le _, rfl, hE⟩
      case round =>
       clear hE
       obtain ⟨k, hk, rfl, hE⟩ := hrel
       by_cases hlt : k < n
       rotate_left
       ·
        have t1 : decide ((k : Int) < (n : Int)) = false := decide_eq_false (by omega)
        have hfu2 := fl_times hftu hfb
        obtain ⟨k12, k13, k14, k15⟩ := (hE.here.2).c4
        obtain ⟨k16, k17, k18, k19⟩ := (hE.h7).c4
        go_wp2_with fail
        clear k12 k13 k14 k15 k16 k17 k18 k19
        clear t1
        refine hE.fr (fmul_v (ca := cv) (da := dv) (cb := cf) (db := df) (hE.here.1.2) (hE.h8) (by omega) (by omega) (by omega)) ?_
        clear hE
        intro s3 A3 n3 c3 t3 B3 m3 d3 w20 hE
        go_upto_region 26 with (fail)
        obtain ⟨g21, hg21⟩ : ∃ g21, g21 = w20.heap.size := ⟨_, rfl⟩
        have hl21_1 : g4 < g21 := by rw [hg21]; exact (hE.h8).lt
        have hl21_3 : gp < g21 := by rw [hg21]; exact Rw.lt (hE.h6)
        have hl21_4 : gz < g21 := by rw [hg21]; exact Rw.lt (hE.h5)
        have hl21_6 : g9 < g21 := by rw [hg21]; exact (hE.h3).lt
        have hl21_8 : g11 < g21 := by rw [hg21]; exact (hE.here.1.2).lt
        have hlw_g21 : w.heap.size ≤ g21 := by rw [hg21]; exact hE.bel.size
        replace hE := hE.blk 29 #[.bool s3, .slice A3 n3 c3, .bool t3, .slice B3 m3 d3] (g := g21) hg21.symm
        generalize w20.alloc (.cells #[.bool s3, .slice A3 n3 c3, .bool t3, .slice B3 m3 d3] 29) = W21 at hE ⊢
        rw [← hg21]
        clear hg21
        obtain ⟨k22, k23, k24, k25⟩ := (hE.here.2).c4
        obtain ⟨k26, k27, k28, k29⟩ := (hE.h4).c4
        go_wp2_with fail
        refine hE.br (fsame_t (ca := c3) (da := d3) (cb := cq) (db := dq) ((hE.here.1.2).to Hhut.out) (hE.h5) (by omega)) ?_
        clear hE k22 k23 k24 k25 k26 k27 k28 k29
        intro w30 hE
        go_wp2_with fail
        go_ret
        exact ⟨rfl, hE.bel⟩
       have t1 : decide ((k : Int) < (n : Int)) = true := decide_eq_true (by omega)
       have t2 : (k : Int) < (n : Int) := by omega
       obtain ⟨x, hx⟩ : ∃ x, x = p k := ⟨_, rfl⟩
       have hx2 : x = z k := by rw [hx]; exact Hhsame.out k hlt
       have Hhx := Lib.hid hx
       clear hx
       have Hhx2 := Lib.hid hx2
       clear hx2
       go_upto_region 23 with (fail)
       replace hE := hE.drew
       refine wp_region_held_drew (S := fun V => Rw 3 1 gp n cgp (fun j => [.int .i64 (p j)]) V ∧ Rw 3 1 gz n cgz (fun j => [.int .i64 (z j)]) V) (by kernel_rfl) (⟨hE.h5, hE.h4⟩) (fun hHeld => ?_)
       generalize wr.drew = wd at *
       refine tk 0 ?_
       try simp only [PL]
       refine tk 1 ?_
       try simp only [PL]
       refine tk 2 ?_
       try simp only [PL]
       refine wpAnyH_take (i := 3) (v := ?v1_3_4) rfl (by kernel_rfl) (by kernel_rfl) (by kernel_rfl) (fun _ _ _ h => h) (Or.inl ⟨by rfl, ?hy1_3_4⟩) (by assumption) ?rest1_3_4
       case hy1_3_4 =>
        intro w hSw
        have kc := Rw.cell hSw.1 (k := k) (i := 0) (o := k) (v := .int .i64 x) hlt (by decide) (by omega) (by rw [Hhx.out]; rfl)
        clear hSw
        first | (go_simp; done) | (go_simp; with_reducible rfl)
       try simp only [PL]
       refine tk 4 ?_
       try simp only [PL]
       refine tk 5 ?_
       try simp only [PL]
       refine tk 6 ?_
       try simp only [PL]
       refine wpAnyH_take (i := 7) (v := ?v1_7_8) rfl (by kernel_rfl) (by kernel_rfl) (by kernel_rfl) (fun _ _ _ h => h) (Or.inl ⟨by rfl, ?hy1_7_8⟩) (by assumption) ?rest1_7_8
       case hy1_7_8 =>
        intro w hSw
        have kc := Rw.cell hSw.2 (k := k) (i := 0) (o := k) (v := .int .i64 x) hlt (by decide) (by omega) (by rw [Hhx2.out]; rfl)
        clear hSw
        first | (go_simp; done) | (go_simp; with_reducible rfl)
       try simp only [PL]
       refine tk 8 ?_
       try simp only [PL]
       refine wpAnyH_done (by kernel_rfl) ?_ _
       go_wp2_with fail
       go_roundw
       case rel => exact ⟨k + 1, by omega, by go_num, ((((((((((Env.again hE.bel).fv (hE.h8)).blkI (hE.h7)).clm (hE.h6)).rwr (hE.h5)).rwr (hE.h4)).fv (hE.h3)).blkI (hE.h2)).fv (hE.here.1.2)).blkI (hE.here.2))⟩
       case measure => simp [intOf]; omega
    have t1 : decide ((k : Int) < (n : Int)) = true := decide_eq_true (by omega)
    have t2 : (k : Int) < (n : Int) := by omega
    obtain ⟨b, o, rfl, hb, hc⟩ := (HhM.out.below hE.bel) (by omega)
    clear hb hc
    obtain ⟨x, hx2⟩ : ∃ x, x = r k := ⟨_, rfl⟩
    have hwv := ClM.fv (HhM.out.below hE.bel) Hhok.out hlt
    have hxw : FV wr (wq r k) x.w.s x.w.A x.w.n x.w.t x.w.B x.w.m := by rw [hx2]; exact hwv.2.1
    clear hwv
    have hw4k := (Hhw4.out k hlt).2
    obtain ⟨pw, hpw⟩ : ∃ pw, pw = wq r k := ⟨_, rfl⟩
    rw [← hpw] at hxw hw4k
    have hfm := fl_times hw4k hfb
    have Hhx2 := Lib.hid hx2
    clear hx2
    have Hhpw := Lib.hid hpw
    clear hpw
    replace hE := (hE.fv hxw).clm (HhM.out.below hE.bel)
    clear hxw
    go_upto_region 10 with (fail)
    clear t1
    go_cut [12, 13] from 50 to 60 (fun p0 p1 wx => ∃ G10 sm Am nm cm tm Bm mm dm, p0 = .pointer (some ⟨G10, 0, none⟩) ∧ p1 = .int .i64 0 ∧ (g4 < G10) ∧ Env w (fun V => ((((((((True ∧ FV V bq sf Af nf tf Bf mf) ∧ Blk 29 (g4) #[.bool sf, .slice Af nf cf, .bool tf, .slice Bf mf df] V) ∧ RwV 46 6 w.heap.size v k (clR (fun j => (r j).I) (Kz r) h) V) ∧ FqS h k (fun j => wq r j * bq) V) ∧ FV V pw x.w.s x.w.A x.w.n x.w.t x.w.B x.w.m) ∧ ClM (some ⟨b, o, none⟩) n r V) ∧ FV V (pw * bq) sm Am nm tm Bm mm) ∧ Blk 29 (G10) #[.bool sm, .slice Am nm cm, .bool tm, .slice Bm mm dm] V)) wx)
    case first =>
     replace hE := hE.drew
     refine wp_region_held_drew (S := fun V => ClM (some ⟨b, o, none⟩) n r V ∧ Blk 29 (g4) #[.bool sf, .slice Af nf cf, .bool tf, .slice Bf mf df] V) (by kernel_rfl) (⟨hE.here.2, hE.h4⟩) (fun hHeld => ?_)
     generalize wr.drew = wd at *
     refine tk 0 ?_
     try simp only [PL]
     refine tk 1 ?_
     try simp only [PL]
     refine tk 2 ?_
     try simp only [PL]
     refine tk 3 ?_
     try simp only [PL]
     refine wpAnyH_take (i := 4) (v := ?v2_4_5) rfl (by kernel_rfl) (by kernel_rfl) (by kernel_rfl) (fun _ _ _ h => h) (Or.inl ⟨by rfl, ?hy2_4_5⟩) (by assumption) ?rest2_4_5
     case hy2_4_5 =>
      intro w hSw
      obtain ⟨b2, o2, e2, -, hc2⟩ := hSw.1 (by omega)
      cases e2
      obtain ⟨⟨d0, d1, d2, d3, d4, d5⟩, -⟩ := hc2 k hlt
      rw [← Hhx2.out] at d0 d1 d2 d3 d4 d5
      clear hc2
      clear hSw
      first | (go_simp; done) | (go_simp; with_reducible rfl)
     try simp only [PL]
     refine wpAnyH_take (i := 5) (v := ?v2_5_6) rfl (by kernel_rfl) (by kernel_rfl) (by kernel_rfl) (fun _ _ _ h => h) (Or.inl ⟨by rfl, ?hy2_5_6⟩) (by assumption) ?rest2_5_6
     case hy2_5_6 =>
      intro w hSw
      have kc0 := (hSw.2).cell 0
      have kc1 := (hSw.2).cell 1
      have kc2 := (hSw.2).cell 2
      have kc3 := (hSw.2).cell 3
      clear hSw
      first | (go_simp; done) | (go_simp; with_reducible rfl)
     try simp only [PL]
     refine wpAnyH_ready (rs := [6, 10]) (by kernel_rfl) (by simp) (AllReadyH.cons rfl (fun K hK => ?_) (AllReadyH.cons rfl (fun K hK => ?_) (AllReadyH.nil)))
     ·
      go_simp
      refine hE.fr (fmul_v (ca := x.w.c) (da := x.w.d) (cb := cf) (db := df) (hE.here.1.2) (hE.h5) (by omega) (by omega) (by omega)) ?_
      clear hE
      intro sm Am nm cm tm Bm mm dm w31 hE
      go_wp2_with fail
      refine hK.out _ _ (⟨hE.here.1.2, hE.h5⟩) (fun hHeld => ?_)
      clear hK K
      try simp only [PL]
      refine tk 7 ?_
      try simp only [PL]
      refine tk 8 ?_
      try simp only [PL]
      refine tk 9 ?_
      try simp only [PL]
      refine r1 10 (fun K hK => ?_)
      go_simp
      obtain ⟨g32, hg32⟩ : ∃ g32, g32 = w31.heap.size := ⟨_, rfl⟩
      have hl32_1 : g4 < g32 := by rw [hg32]; exact (hE.h5).lt
      have hlw_g32 : w.heap.size ≤ g32 := by rw [hg32]; exact hE.bel.size
      replace hE := hE.blk 29 #[.bool false, .slice none 0 0, .bool false, .slice none 0 0] (g := g32) hg32.symm
      generalize w31.alloc (.cells #[.bool false, .slice none 0 0, .bool false, .slice none 0 0] 29) = W32 at hE ⊢
      rw [← hg32]
      clear hg32
      refine hK.out _ _ (⟨hE.h2, hE.h6⟩) (fun hHeld => ?_)
      clear hK K
      try simp only [PL]
      refine r1 11 (fun K hK => ?_)
      have hgl33 : w.heap.size ≤ g32 := by omega
      obtain ⟨x33_0, x33_1, x33_2, x33_3⟩ := (hE.here.2).c4
      obtain ⟨f33_0, f33_1, f33_2, f33_3⟩ := hE.here.2.f4
      replace hE := (((((((((Env.again (bel4 hE.bel hgl33 (.bool sm) (.slice Am nm cm) (.bool tm) (.slice Bm mm dm))).fv ((hE.h7).sep4 hE.here.2 rfl (.bool sm) (.slice Am nm cm) (.bool tm) (.slice Bm mm dm) rfl rfl rfl)).blkI ((hE.h6).far4 (R := g32) (by omega) (.bool sm) (.slice Am nm cm) (.bool tm) (.slice Bm mm dm))).rwv ((hE.h5).far (hE.here.2) (by decide) (st4_grown (hE.here.2) (.bool sm) (.slice Am nm cm) (.bool tm) (.slice Bm mm dm)))).fqs (FqS.grownB (hE.h4) (hE.here.2) rfl (st4_grown (hE.here.2) (.bool sm) (.slice Am nm cm) (.bool tm) (.slice Bm mm dm)))).fv ((hE.h3).sep4 hE.here.2 rfl (.bool sm) (.slice Am nm cm) (.bool tm) (.slice Bm mm dm) rfl rfl rfl)).clm (HhM.out.below (bel4 hE.bel (by omega) (.bool sm) (.slice Am nm cm) (.bool tm) (.slice Bm mm dm)))).fv ((hE.here.1.2).sep4 hE.here.2 rfl (.bool sm) (.slice Am nm cm) (.bool tm) (.slice Bm mm dm) rfl rfl rfl)).blkI ((hE.here.2).s4 (.bool sm) (.slice Am nm cm) (.bool tm) (.slice Bm mm dm)))
      go_simp
      clear x33_0 x33_1 x33_2 x33_3 f33_0 f33_1 f33_2 f33_3 hgl33
      generalize ((((W32.setCell ⟨g32, 0, none⟩ (.bool sm)).setCell ⟨g32, 1, none⟩ (.slice Am nm cm)).setCell ⟨g32, 2, none⟩ (.bool tm)).setCell ⟨g32, 3, none⟩ (.slice Bm mm dm)) = W33 at hE ⊢
      refine hK.out _ _ (⟨hE.h2, hE.h6⟩) (fun hHeld => ?_)
      clear hK K
      try simp only [PL]
      refine tk 12 ?_
      try simp only [PL]
      refine wpAnyH_done (by kernel_rfl) ?_ _
      go_wp2_with fail
      go_meet
      exact ⟨g32, sm, Am, nm, cm, tm, Bm, mm, dm, rfl, rfl, by omega, (((((((((Env.again hE.bel).fv (hE.h7)).blkI (hE.h6)).rwv (hE.h5)).fqs (hE.h4)).fv (hE.h3)).clm (hE.h2)).fv (hE.here.1.2)).blkI (hE.here.2))⟩
     ·
      go_simp
      obtain ⟨g34, hg34⟩ : ∃ g34, g34 = wd.heap.size := ⟨_, rfl⟩
      have hl34_1 : g4 < g34 := by rw [hg34]; exact (hE.h4).lt
      have hlw_g34 : w.heap.size ≤ g34 := by rw [hg34]; exact hE.bel.size
      replace hE := hE.blk 29 #[.bool false, .slice none 0 0, .bool false, .slice none 0 0] (g := g34) hg34.symm
      generalize wd.alloc (.cells #[.bool false, .slice none 0 0, .bool false, .slice none 0 0] 29) = W34 at hE ⊢
      rw [← hg34]
      clear hg34
      refine hK.out _ _ (⟨hE.here.1.2, hE.h5⟩) (fun hHeld => ?_)
      clear hK K
      try simp only [PL]
      refine r1 6 (fun K hK => ?_)
      go_simp
      refine hE.fr (fmul_v (ca := x.w.c) (da := x.w.d) (cb := cf) (db := df) (hE.h2) (hE.h6) (by omega) (by omega) (by omega)) ?_
      clear hE
      intro sm Am nm cm tm Bm mm dm w35 hE
      go_wp2_with fail
      refine hK.out _ _ (⟨hE.h2, hE.h6⟩) (fun hHeld => ?_)
      clear hK K
      try simp only [PL]
      refine tk 7 ?_
      try simp only [PL]
      refine tk 8 ?_
      try simp only [PL]
      refine tk 9 ?_
      try simp only [PL]
      refine r1 11 (fun K hK => ?_)
      have hgl36 : w.heap.size ≤ g34 := by omega
      obtain ⟨x36_0, x36_1, x36_2, x36_3⟩ := (hE.here.1.2).c4
      obtain ⟨f36_0, f36_1, f36_2, f36_3⟩ := hE.here.1.2.f4
      replace hE := (((((((((Env.again (bel4 hE.bel hgl36 (.bool sm) (.slice Am nm cm) (.bool tm) (.slice Bm mm dm))).fv ((hE.h7).sep4 hE.here.1.2 rfl (.bool sm) (.slice Am nm cm) (.bool tm) (.slice Bm mm dm) rfl rfl rfl)).blkI ((hE.h6).far4 (R := g34) (by omega) (.bool sm) (.slice Am nm cm) (.bool tm) (.slice Bm mm dm))).rwv ((hE.h5).far (hE.here.1.2) (by decide) (st4_grown (hE.here.1.2) (.bool sm) (.slice Am nm cm) (.bool tm) (.slice Bm mm dm)))).fqs (FqS.grownB (hE.h4) (hE.here.1.2) rfl (st4_grown (hE.here.1.2) (.bool sm) (.slice Am nm cm) (.bool tm) (.slice Bm mm dm)))).fv ((hE.h3).sep4 hE.here.1.2 rfl (.bool sm) (.slice Am nm cm) (.bool tm) (.slice Bm mm dm) rfl rfl rfl)).clm (HhM.out.below (bel4 hE.bel (by omega) (.bool sm) (.slice Am nm cm) (.bool tm) (.slice Bm mm dm)))).blkI ((hE.here.1.2).s4 (.bool sm) (.slice Am nm cm) (.bool tm) (.slice Bm mm dm))).fv ((hE.here.2).sep4 hE.here.1.2 rfl (.bool sm) (.slice Am nm cm) (.bool tm) (.slice Bm mm dm) rfl rfl rfl))
      go_simp
      clear x36_0 x36_1 x36_2 x36_3 f36_0 f36_1 f36_2 f36_3 hgl36
      generalize ((((w35.setCell ⟨g34, 0, none⟩ (.bool sm)).setCell ⟨g34, 1, none⟩ (.slice Am nm cm)).setCell ⟨g34, 2, none⟩ (.bool tm)).setCell ⟨g34, 3, none⟩ (.slice Bm mm dm)) = W36 at hE ⊢
      refine hK.out _ _ (⟨hE.h2, hE.h6⟩) (fun hHeld => ?_)
      clear hK K
      try simp only [PL]
      refine tk 12 ?_
      try simp only [PL]
      refine wpAnyH_done (by kernel_rfl) ?_ _
      go_wp2_with fail
      go_meet
      exact ⟨g34, sm, Am, nm, cm, tm, Bm, mm, dm, rfl, rfl, by omega, (((((((((Env.again hE.bel).fv (hE.h7)).blkI (hE.h6)).rwv (hE.h5)).fqs (hE.h4)).fv (hE.h3)).clm (hE.h2)).fv (hE.here.2)).blkI (hE.here.1.2))⟩
    case rest =>
    clear hE
    obtain ⟨G10, sm, Am, nm, cm, tm, Bm, mm, dm, rfl, rfl, hG10_0, hE⟩ := hcut
    generalize wc = wk10 at hE ⊢
    go_upto_region 11 with (fail)
    replace hE := hE.drew
    refine wp_region_held_drew (S := fun V => ClM (some ⟨b, o, none⟩) n r V ∧ Blk 29 (G10) #[.bool sm, .slice Am nm cm, .bool tm, .slice Bm mm dm] V) (by kernel_rfl) (⟨hE.h2, hE.here.2⟩) (fun hHeld => ?_)
    generalize wk10.drew = wd at *
    refine tk 0 ?_
    try simp only [PL]
    refine tk 1 ?_
    try simp only [PL]
    refine tk 2 ?_
    try simp only [PL]
    refine tk 3 ?_
    try simp only [PL]
    refine tk 4 ?_
    try simp only [PL]
    refine wpAnyH_take (i := 5) (v := ?v3_5_6) rfl (by kernel_rfl) (by kernel_rfl) (by kernel_rfl) (fun _ _ _ h => h) (Or.inl ⟨by rfl, ?hy3_5_6⟩) (by assumption) ?rest3_5_6
    case hy3_5_6 =>
     intro w hSw
     obtain ⟨b2, o2, e2, -, hc2⟩ := hSw.1 (by omega)
     cases e2
     obtain ⟨⟨d0, d1, d2, d3, d4, d5⟩, -⟩ := hc2 k hlt
     rw [← Hhx2.out] at d0 d1 d2 d3 d4 d5
     clear hc2
     clear hSw
     first | (go_simp; done) | (go_simp; with_reducible rfl)
    try simp only [PL]
    refine wpAnyH_take (i := 6) (v := ?v3_6_7) rfl (by kernel_rfl) (by kernel_rfl) (by kernel_rfl) (fun _ _ _ h => h) (Or.inl ⟨by rfl, ?hy3_6_7⟩) (by assumption) ?rest3_6_7
    case hy3_6_7 =>
     intro w hSw
     have kc0 := (hSw.2).cell 0
     have kc1 := (hSw.2).cell 1
     have kc2 := (hSw.2).cell 2
     have kc3 := (hSw.2).cell 3
     clear hSw
     first | (go_simp; done) | (go_simp; with_reducible rfl)
    try simp only [PL]
    refine tk 7 ?_
    try simp only [PL]
    refine tk 8 ?_
    try simp only [PL]
    refine tk 9 ?_
    try simp only [PL]
    refine tk 10 ?_
    try simp only [PL]
    refine wpAnyH_take (i := 11) (v := ?v3_11_12) rfl (by kernel_rfl) (by kernel_rfl) (by kernel_rfl) (fun _ _ _ h => h) (Or.inl ⟨by rfl, ?hy3_11_12⟩) (by assumption) ?rest3_11_12
    case hy3_11_12 =>
     intro w hSw
     obtain ⟨b2, o2, e2, -, hc2⟩ := hSw.1 (by omega)
     cases e2
     obtain ⟨⟨d0, d1, d2, d3, d4, d5⟩, -⟩ := hc2 k hlt
     rw [← Hhx2.out] at d0 d1 d2 d3 d4 d5
     clear hc2
     clear hSw
     first | (go_simp; done) | (go_simp; with_reducible rfl)
    try simp only [PL]
    refine tk 12 ?_
    try simp only [PL]
    refine r1 13 (fun K hK => ?_)
    go_simp
    obtain ⟨g37, hg37⟩ : ∃ g37, g37 = wd.heap.size := ⟨_, rfl⟩
    have hl37_1 : g4 < g37 := by rw [hg37]; exact (hE.h6).lt
    have hl37_7 : G10 < g37 := by rw [hg37]; exact (hE.here.2).lt
    have hlw_g37 : w.heap.size ≤ g37 := by rw [hg37]; exact hE.bel.size
    replace hE := hE.blk 46 #[.int .i64 x.I, .bool sm, .slice Am nm cm, .bool tm, .slice Bm mm dm, .int .i64 x.K] (g := g37) hg37.symm
    generalize wd.alloc (.cells #[.int .i64 x.I, .bool sm, .slice Am nm cm, .bool tm, .slice Bm mm dm, .int .i64 x.K] 46) = W37 at hE ⊢
    rw [← hg37]
    clear hg37
    refine hK.out _ _ (⟨hE.h3, hE.here.1.2⟩) (fun hHeld => ?_)
    clear hK K
    try simp only [PL]
    refine r1 14 (fun K hK => ?_)
    obtain ⟨v2, wz, hr, hR2, hgw⟩ := push_claim 22 (hE.h6) hE.bel.size (⟨sm, Am, nm, cm, fun _ => 0, tm, Bm, mm, dm, fun _ => 0⟩ : FH) (show Blk 46 g37 (clL ((fun j => (r j).I) k) (Kz r k) (⟨sm, Am, nm, cm, fun _ => 0, tm, Bm, mm, dm, fun _ => 0⟩ : FH)).toArray _ from by show Blk _ _ (clL (r k).I (r k).K _).toArray _; rw [← Hhx2.out]; exact hE.here.2) (by omega)
    refine Eq.mpr (if_pos (by rfl)) ?_
    refine app_step rfl rfl rfl hr ?_
    clear hr
    replace hE := (((((((((Env.again (Go.Proofs.YtjgihmmeimfheaaGreat.Below.grownR hE.bel (hE.h6) hgw (Nat.le_refl _) hE.bel.size)).fv (FV.grownR (hE.h8) (hE.h6) hgw)).blkI (Blk.grownR (hE.h7) (hE.h6) hgw (by decide))).rwv hR2).fqs ((FqS.grownR (hE.h5) (hE.h6) hgw).push (x := (⟨sm, Am, nm, cm, fun _ => 0, tm, Bm, mm, dm, fun _ => 0⟩ : FH)) (FV.grownR ((hE.h2).to (by rw [Hhpw.out])) (hE.h6) hgw))).fv (FV.grownR (hE.h4) (hE.h6) hgw)).clm (HhM.out.below (Go.Proofs.YtjgihmmeimfheaaGreat.Below.grownR hE.bel (hE.h6) hgw (Nat.le_refl _) hE.bel.size))).fv (FV.grownR (hE.h2) (hE.h6) hgw)).blkI (Blk.grownR (hE.here.1.2) (hE.h6) hgw (by decide)))
    clear hR2 hgw
    refine hK.out _ _ (⟨hE.h2, hE.here.2⟩) (fun hHeld => ?_)
    clear hK K
    try simp only [PL]
    refine tk 15 ?_
    try simp only [PL]
    refine wpAnyH_done (by kernel_rfl) ?_ _
    go_wp2_with fail
    go_roundw
    case rel => exact ⟨k + 1, _, _, by omega, rfl, by go_num, (((((Env.again hE.bel).fv (hE.h7)).blkI (hE.h6)).rwv (hE.h5)).fqs (hE.h4))⟩
    case measure => simp [intOf]; omega
end Go.Proofs.YtjgihmmeimfheaaGreat
