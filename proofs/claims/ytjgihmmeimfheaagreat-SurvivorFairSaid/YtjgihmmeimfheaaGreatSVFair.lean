/-
  The walk of SurvivorFair.
-/
import Derived.Test.YtjgihmmeimfheaaGreatK3
import Derived.Test.YtjgihmmeimfheaaGreatK18
import Derived.Test.YtjgihmmeimfheaaGreatSVB
import Derived.Test.YtjgihmmeimfheaaGreatSvW
namespace Go.Proofs.YtjgihmmeimfheaaGreat
open Go.RowKit

theorem cmpQ_lt2 {a b : Rat} (h : a < b) : cmpQ a b = -1 := by
 rw [cmpQ_val, if_pos h]
theorem cmpQ_gt {a b : Rat} (h : b < a) : cmpQ a b = 1 := by
 rw [cmpQ_val, if_neg (by grind), if_neg (by grind)]
theorem cmpQ_eq {a b : Rat} (h : a = b) : cmpQ a b = 0 := by
 rw [cmpQ_val, if_neg (by grind), if_pos h]
theorem cmpQ_ints {a b : Int} : 0 < cmpQ ((a : Int) : Rat) ((b : Int) : Rat) ↔ b < a := by
 by_cases h : b < a
 · rw [cmpQ_gt (Rat.intCast_lt_intCast.2 h)]; exact ⟨fun _ => h, fun _ => by decide⟩
 ·
  by_cases h2 : a = b
  · rw [cmpQ_eq (by rw [h2])]; exact ⟨fun h3 => absurd h3 (by decide), fun h3 => absurd h3 h⟩
  · rw [cmpQ_lt2 (Rat.intCast_lt_intCast.2 (by omega))]; exact ⟨fun h3 => absurd h3 (by decide), fun h3 => absurd h3 h⟩
theorem ln3 {z : Int} (h1 : 0 ≤ z) (h2 : z ≤ 1099511627776) : ln b16 z.natAbs ≤ 3 := (ln_le b16_two).2 (show z.natAbs < 281474976710656 by omega)
theorem fr_desc : ∃ d, Tryz.prog.underlying 29 = some d ∧ d.isRow = true := ⟨_, Tryz.underlying29, rfl⟩
theorem fr_store {W : World} {g n cap : Nat} {e : Nat → List Value} (h : Rw 29 4 g n cap e W) {k o : Nat} (hk : k < n) (x : List Value) (hl : x.length = 4) (h1 : ∀ v ∈ x, v.oneCell' = true) (ho : o = k * 4) : (Instr.storeAt 29 (.pointer (some ⟨g, o, none⟩)) (.agg x.toArray)).run Tryz.prog W = .ok () (W.setCells g (k * 4) x) := by
 subst ho
 have ht := h.there hk
 exact run_storeAt_mid (P := Tryz.prog) W g (k * 4) _ x.toArray (by rw [List.size_toArray, hl]; exact ht) (by rw [List.size_toArray, hl]; kernel_rfl) (all_oneCell_toArray h1)
def boolElem : Elem 47 4 1 := ⟨Tryz.underlying47, .bool false, 1, by kernel_rfl, rfl, by decide, fun v hv => by
 simp only [Value.cells, List.mem_toArray, List.mem_cons, List.not_mem_nil, or_false] at hv
 subst hv; rfl, by decide⟩
/-- A row of a given length is made. -/
theorem make_full {tS T : TypeId} {m : Nat} (E : Elem tS T m) (n : Nat) (hn : n ≤ 1000000) (w : World) : (Instr.makeSlice tS (.int .i64 (n : Int)) (.int .i64 (n : Int))).run Tryz.prog w = .ok (.slice (some ⟨w.heap.size, 0, none⟩) n n) (w.alloc (.cells (mkC E n) T)) := by
 unfold mkC
 obtain ⟨i, hi, hz, hs, hb⟩ := info_parts E.info
 have hfew := E.few
 have h := run_make (P := Tryz.prog) w tS T i E.z E.und hi hz .i64 .i64 (n : Int) (n : Int) (by omega) (by omega) (by
  rw [hb]
  have h1 : E.bytes * n ≤ 4096 * 1000000 := Nat.mul_le_mul hfew hn
  have h2 : ((E.bytes * n : Nat) : Int) = (E.bytes : Int) * (n : Int) := Int.natCast_mul _ _
  omega) (by omega)
 rw [h, hs]
 simp only [Int.toNat_natCast]
theorem full_made {tS T : TypeId} {m : Nat} (E : Elem tS T m) (n : Nat) (hn : n ≤ 1000000) (w : World) : Rw T m w.heap.size n n (fun _ => E.z.cells.toList) (w.alloc (.cells (mkC E n) T)) :=
 Rw.made w T m n n E.z.cells E.size E.noL (Nat.le_refl _) (by unfold maxLen; omega) E.pos
def updB (h : Nat → Bool) (n : Nat) (x : Bool) (j : Nat) : Bool := if j = n then x else h j
theorem updB_row (h : Nat → Bool) (n : Nat) (x : Bool) (k : Nat) : updE (fun j => [.bool (h j)]) n [.bool x] k = [.bool (updB h n x k)] := by
 unfold updE updB
 split <;> rfl
theorem updB_own (h : Nat → Bool) (n : Nat) (x : Bool) : updB h n x n = x := if_pos rfl
theorem updF_own (h : Nat → FH) (n : Nat) (x : FH) : updF h n x n = x := if_pos rfl
set_option linter.unusedSimpArgs false in
set_option maxRecDepth 100000 in
set_option maxHeartbeats 8000000 in
theorem svfair_walk {A : Option Addr} {n c : Nat} {r : Nat → Cl} {w : World} (hM : ClM A n r w) (a : Int) :
  Calls Tryz.prog 5 #[.int .i64 a, .slice A n c] w (fun e w' => e = .returned (.bool true) ∧ Below w.heap.size w w') := by
 have HhM := Lib.hid hM
 clear hM
 have hE := Env.start w
 go_enter Tryz.func5, Tryz.ntmps5
 go_wp2_with fail
 refine hE.br (awake_v _) ?_
 clear hE
 intro w1 hE
 go_wp2_with fail
 refine (susable_v (r := r) a (HhM.out.below hE.bel)).mono ?_
 rintro e w2 ⟨v, rfl, hv, hb⟩
 replace hE := hE.step hb
 clear hb
 cases v with
 | false =>
  clear hv
  go_wp2_with fail
  go_ret
  exact ⟨rfl, hE.bel⟩
 | true =>
  obtain ⟨hn10, h0a, h1a, hok⟩ := hv.1 rfl
  clear hv
  have hw4 := hok.w (HhM.out.below hE.bel)
  have hK := hok.K
  have hwK : ∀ k, k < n → 0 ≤ wq r k ∧ 0 ≤ Kz r k := fun k hk => ⟨(hw4 k hk).1, (hK k hk).1⟩
  have Hhok := Lib.hid hok
  clear hok
  have Hhw4 := Lib.hid hw4
  clear hw4
  have HhK := Lib.hid hK
  clear hK
  have HhwK := Lib.hid hwK
  clear hwK
  go_wp2_with fail
  refine (sparts_v a ⟨h0a, h1a⟩ (HhM.out.below hE.bel) Hhok.out hn10).mono ?_
  rintro e w3 ⟨gp, cgp, p, t, rfl, ⟨hlvt, hftt, hpqp⟩, -, hRr, hb⟩
  replace hE := (hE.step hb).rwr hRr
  clear hb hRr
  have Hhlvt := Lib.hid hlvt
  clear hlvt
  have Hhpqp := Lib.hid hpqp
  clear hpqp
  go_wp2_with fail
  refine (sExact_v a ⟨h0a, h1a⟩ (HhM.out.below hE.bel) Hhok.out hn10).mono ?_
  rintro e w4 ⟨u, gx, cgx, hx, rfl, hlvu, hftu, -, hRr, hqq, hb⟩
  replace hE := ((hE.step hb).rwr hRr).fqs hqq
  clear hb hRr hqq
  have Hhlvu := Lib.hid hlvu
  clear hlvu
  have e0 := Hhlvt.out.uniq Hhlvu.out
  subst e0
  clear Hhlvu hftu
  go_upto_region 9 with (fail)
  obtain ⟨T, hT⟩ : ∃ T, T = totZ a (wq r) (Kz r) n := ⟨_, rfl⟩
  have hone := fun k (hk : k < n) => parts_one Hhlvt.out Hhpqp.out hk
  have hfair := fun i k (hi : i < n) (hk : k < n) => parts_fair Hhpqp.out hi hk
  have hpb := fun k (hk : k < n) => (parts_bound Hhlvt.out Hhpqp.out HhwK.out hk).1
  have hfb := fun k (hk : k < n) => floor_b (t := t) (w := wq r) (K := Kz r) (k := k) Hhlvt.out.1 (HhwK.out k hk).1 (HhwK.out k hk).2
  have hxl : ∀ j, j < n → fl (xq t (wq r) (Kz r) j) ≤ 52 := fun j hj => by
   unfold xq part mn; split
   · exact fl_times hftt (Hhw4.out j hj).2
   · have h2 := HhK.out j hj; exact fl_le2 (fl_int3 (by omega) (by omega)) (by decide)
  have hll : ∀ j, j < n → fl (lq t (wq r) (Kz r) j) ≤ 56 := fun j hj => by
   have h1 := hfb j hj
   have h2 := HhK.out j hj
   exact fl_minus (hxl j hj) (fl_int3 (by omega) (by omega))
  have HhT := Lib.hid hT
  clear hT
  have Hhone := Lib.hid hone
  clear hone
  have Hhfair := Lib.hid hfair
  clear hfair
  have Hhpb := Lib.hid hpb
  clear hpb
  have Hhfb := Lib.hid hfb
  clear hfb
  have Hhxl := Lib.hid hxl
  clear hxl
  have Hhll := Lib.hid hll
  clear hll
  have hmk := make_full frElem n (by omega)
  go_upto_region 10 with (fail)
  clear hmk
  have hrm := full_made frElem n (by omega) w4
  have hbm := belAlloc w4 (.cells (mkC frElem n) 29)
  obtain ⟨gL, hgL⟩ : ∃ g, g = w4.heap.size := ⟨_, rfl⟩
  have hwgL : w.heap.size ≤ gL := by rw [hgL]; exact hE.bel.size
  have hxL : gx < gL := by rw [hgL]; exact Rw.lt (hE.here.1.2)
  rw [← hgL] at hrm ⊢
  replace hE := (hE.step hbm).rwr hrm
  clear hbm hrm hgL
  generalize w4.alloc (.cells (mkC frElem n) 29) = WgL at hE ⊢
  have hmk := make_full boolElem n (by omega)
  go_upto_region 11 with (fail)
  clear hmk
  have hrm := full_made boolElem n (by omega) WgL
  have hbm := belAlloc WgL (.cells (mkC boolElem n) 4)
  obtain ⟨gR, hgR⟩ : ∃ g, g = WgL.heap.size := ⟨_, rfl⟩
  have hwgR : w.heap.size ≤ gR := by rw [hgR]; exact hE.bel.size
  rw [← hgR] at hrm ⊢
  replace hE := (hE.step hbm).rwr hrm
  clear hbm hrm hgR
  generalize WgL.alloc (.cells (mkC boolElem n) 4) = WgR at hE ⊢
  replace hE := hE.fqs (h := fun _ => zFH) (n := 0) (q := lq t (wq r) (Kz r)) (fun j hj => absurd hj (Nat.not_lt_zero j))
  go_wp2_with fail
  go_loopw [11] (fun x wr => ∃ (k : Nat) (lo : Nat → FH) (up : Nat → Bool), k ≤ n ∧ x = .int .i64 (k : Int) ∧ (∀ j, j < k → (up j = true ↔ floorQ (xq t (wq r) (Kz r) j) < p j)) ∧ Env w (fun V => ((((((True ∧ Rw 3 1 gp n cgp (fun j => [.int .i64 (p j)]) V) ∧ Rw 29 4 gx n cgx (fun j => zqL (hx j)) V) ∧ FqS hx n (xq t (wq r) (Kz r)) V) ∧ Rw 29 4 gL n n (fun j => zqL (lo j)) V) ∧ Rw 4 1 gR n n (fun j => [.bool (up j)]) V) ∧ FqS lo k (lq t (wq r) (Kz r)) V)) wr) (fun x _ => n - (intOf x).toNat)
  case atStart => exact ⟨0, fun _ => zFH, fun _ => false, Nat.zero_le _, rfl, fun j hj => absurd hj (Nat.not_lt_zero j), hE⟩
  case round =>
   clear hE
   obtain ⟨k, lo, up, hk, rfl, hup, hE⟩ := hrel
   have Hhup := Lib.hid hup
   clear hup
   by_cases hlt : k < n
   rotate_left
   ·
    obtain rfl : n = k := by omega
    have t1 : decide ((n : Int) < (n : Int)) = false := decide_eq_false (by omega)
    go_wp2_with fail
    clear t1
    go_loopw [16] (fun x wr => ∃ i : Nat, i ≤ n ∧ x = .int .i64 (i : Int) ∧ Env w (fun V => (((True ∧ Rw 29 4 gL n n (fun j => zqL (lo j)) V) ∧ Rw 4 1 gR n n (fun j => [.bool (up j)]) V) ∧ FqS lo n (lq t (wq r) (Kz r)) V)) wr) (fun x _ => n - (intOf x).toNat)
    case atStart => exact ⟨0, Nat.zero_le _, rfl, ((((Env.again hE.bel).rwr (hE.h2)).rwr (hE.here.1.2)).fqs (hE.here.2))⟩
    case round =>
     clear hE
     obtain ⟨i, hi, rfl, hE⟩ := hrel
     by_cases hlti : i < n
     rotate_left
     ·
      have t1 : decide ((i : Int) < (n : Int)) = false := decide_eq_false (by omega)
      go_wp2_with fail
      go_ret
      exact ⟨rfl, hE.bel⟩
     have t1 : decide ((i : Int) < (n : Int)) = true := decide_eq_true (by omega)
     have t2 : (i : Int) < (n : Int) := by omega
     go_wp2_with fail
     clear t1
     go_loopw [17] (fun x wr => ∃ m : Nat, m ≤ n ∧ x = .int .i64 (m : Int) ∧ Env w (fun V => (((True ∧ Rw 29 4 gL n n (fun j => zqL (lo j)) V) ∧ Rw 4 1 gR n n (fun j => [.bool (up j)]) V) ∧ FqS lo n (lq t (wq r) (Kz r)) V)) wr) (fun x _ => n - (intOf x).toNat)
     case atStart => exact ⟨0, Nat.zero_le _, rfl, hE⟩
     case round =>
      clear hE
      obtain ⟨m, hm, rfl, hE⟩ := hrel
      by_cases hltm : m < n
      rotate_left
      ·
       have t1 : decide ((m : Int) < (n : Int)) = false := decide_eq_false (by omega)
       go_wp2_with fail
       go_roundw
       case rel => exact ⟨i + 1, by omega, by go_num, hE⟩
       case measure => simp [intOf]; omega
      have t1 : decide ((m : Int) < (n : Int)) = true := decide_eq_true (by omega)
      have t3 : (m : Int) < (n : Int) := by omega
      obtain ⟨x, hx2⟩ : ∃ y, y = lo i := ⟨_, rfl⟩
      obtain ⟨X, hXX⟩ : ∃ X, X = lq t (wq r) (Kz r) i := ⟨_, rfl⟩
      have hxv := hE.here.2 i hlti
      rw [← hx2, ← hXX] at hxv
      have hlx := Hhll.out i hlti
      rw [← hXX] at hlx
      obtain ⟨y, hy2⟩ : ∃ y, y = lo m := ⟨_, rfl⟩
      obtain ⟨Y, hXY⟩ : ∃ X, X = lq t (wq r) (Kz r) m := ⟨_, rfl⟩
      have hyv := hE.here.2 m hltm
      rw [← hy2, ← hXY] at hyv
      have hly := Hhll.out m hltm
      rw [← hXY] at hly
      obtain ⟨a1, ha1⟩ : ∃ u, u = up i := ⟨_, rfl⟩
      obtain ⟨a2, ha2⟩ : ∃ u, u = up m := ⟨_, rfl⟩
      obtain ⟨v, hv⟩ : ∃ v, v = cmpQ X Y := ⟨_, rfl⟩
      have hord : a1 = true → a2 = false → (v = 1 ∨ (v = 0 ∧ i < m)) := fun e1 e2 => by
       rw [ha1] at e1
       rw [ha2] at e2
       have h1 := (Hhup.out i hlti).1 e1
       have h2 : ¬ floorQ (xq t (wq r) (Kz r) m) < p m := fun h => by rw [(Hhup.out m hltm).2 h] at e2; cases e2
       rcases Hhfair.out i m hlti hltm h1 (by omega) with h3 | ⟨h3, h4⟩
       · rw [← hXX, ← hXY] at h3; exact .inl (by rw [hv]; exact cmpQ_gt h3)
       · rw [← hXX, ← hXY] at h3; exact .inr ⟨by rw [hv]; exact cmpQ_eq h3, h4⟩
      have Hhx2 := Lib.hid hx2
      clear hx2
      have Hhy2 := Lib.hid hy2
      clear hy2
      have HhXX := Lib.hid hXX
      clear hXX
      have HhXY := Lib.hid hXY
      clear hXY
      have Hhv := Lib.hid hv
      clear hv
      have Hha1 := Lib.hid ha1
      clear ha1
      have Hha2 := Lib.hid ha2
      clear ha2
      have Hhord := Lib.hid hord
      clear hord
      replace hE := (hE.fv hxv).fv hyv
      clear hxv hyv
      go_upto_region 26 with (fail)
      replace hE := hE.drew
      refine wp_region_held_drew (S := fun V => Rw 29 4 gL n n (fun j => zqL (lo j)) V) (by kernel_rfl) (hE.h4) (fun hHeld => ?_)
      generalize wr.drew = wd at *
      refine tk 0 ?_
      try simp only [PL]
      refine tk 1 ?_
      try simp only [PL]
      refine tk 2 ?_
      try simp only [PL]
      refine wpAnyH_take (i := 3) (v := ?v1_3_4) rfl (by kernel_rfl) (by kernel_rfl) (by kernel_rfl) (fun _ _ _ h => h) (Or.inl ⟨by rfl, ?hy1_3_4⟩) (by assumption) ?rest1_3_4
      case hy1_3_4 =>
       intro w hSw
       have kc0 := Rw.cell hSw (k := i) (i := 0) (o := i * 4) (v := .bool x.s) hlti (by decide) rfl (by rw [← Hhx2.out]; rfl)
       have kc1 := Rw.cell hSw (k := i) (i := 1) (o := i * 4 + 1) (v := .slice x.A x.n x.c) hlti (by decide) rfl (by rw [← Hhx2.out]; rfl)
       have kc2 := Rw.cell hSw (k := i) (i := 2) (o := i * 4 + 2) (v := .bool x.t) hlti (by decide) rfl (by rw [← Hhx2.out]; rfl)
       have kc3 := Rw.cell hSw (k := i) (i := 3) (o := i * 4 + 3) (v := .slice x.B x.m x.d) hlti (by decide) rfl (by rw [← Hhx2.out]; rfl)
       clear hSw
       first | (go_simp; done) | (go_simp; with_reducible rfl)
      try simp only [PL]
      refine tk 4 ?_
      try simp only [PL]
      refine tk 5 ?_
      try simp only [PL]
      refine tk 6 ?_
      try simp only [PL]
      refine wpAnyH_take (i := 7) (v := ?v1_7_8) rfl (by kernel_rfl) (by kernel_rfl) (by kernel_rfl) (fun _ _ _ h => h) (Or.inl ⟨by rfl, ?hy1_7_8⟩) (by assumption) ?rest1_7_8
      case hy1_7_8 =>
       intro w hSw
       have kc0 := Rw.cell hSw (k := m) (i := 0) (o := m * 4) (v := .bool y.s) hltm (by decide) rfl (by rw [← Hhy2.out]; rfl)
       have kc1 := Rw.cell hSw (k := m) (i := 1) (o := m * 4 + 1) (v := .slice y.A y.n y.c) hltm (by decide) rfl (by rw [← Hhy2.out]; rfl)
       have kc2 := Rw.cell hSw (k := m) (i := 2) (o := m * 4 + 2) (v := .bool y.t) hltm (by decide) rfl (by rw [← Hhy2.out]; rfl)
       have kc3 := Rw.cell hSw (k := m) (i := 3) (o := m * 4 + 3) (v := .slice y.B y.m y.d) hltm (by decide) rfl (by rw [← Hhy2.out]; rfl)
       clear hSw
       first | (go_simp; done) | (go_simp; with_reducible rfl)
      try simp only [PL]
      refine r1 8 (fun K hK => ?_)
      go_simp
      refine hE.br (fcmp_v (ca := x.c) (da := x.d) (cb := y.c) (db := y.d) (hE.here.1.2) (hE.here.2) (by omega) (by omega)) ?_
      clear hE
      intro w5 hE
      rw [← Hhv.out]
      go_wp2_with fail
      refine hK.out _ _ (hE.h4) (fun hHeld => ?_)
      clear hK K
      try simp only [PL]
      refine tk 9 ?_
      try simp only [PL]
      refine wpAnyH_done (by kernel_rfl) ?_ _
      go_upto_region 27 with (fail)
      have kc1 := Rw.cell (hE.h3) (k := i) (i := 0) (o := i) (v := .bool a1) hlti (by decide) (by omega) (by rw [Hha1.out]; rfl)
      have kc2 := Rw.cell (hE.h3) (k := m) (i := 0) (o := m) (v := .bool a2) hltm (by decide) (by omega) (by rw [Hha2.out]; rfl)
      clear Hha1 Hha2 Hhv
      cases a1 with
      | false =>
       go_wp2_with fail
       go_roundw
       case rel => exact ⟨m + 1, by omega, by go_num, ((((Env.again hE.bel).rwr (hE.h4)).rwr (hE.h3)).fqs (hE.h2))⟩
       case measure => simp [intOf]; omega
      | true =>
       cases a2 with
       | true =>
        go_wp2_with fail
        go_roundw
        case rel => exact ⟨m + 1, by omega, by go_num, ((((Env.again hE.bel).rwr (hE.h4)).rwr (hE.h3)).fqs (hE.h2))⟩
        case measure => simp [intOf]; omega
       | false =>
        rcases Hhord.out rfl rfl with rfl | ⟨rfl, him⟩
        ·
         go_wp2_with fail
         go_roundw
         case rel => exact ⟨m + 1, by omega, by go_num, ((((Env.again hE.bel).rwr (hE.h4)).rwr (hE.h3)).fqs (hE.h2))⟩
         case measure => simp [intOf]; omega
        ·
         have t4 : decide ((m : Int) < (i : Int)) = false := decide_eq_false (by omega)
         have him := Lib.hid him
         go_wp2_with fail
         go_roundw
         case rel => exact ⟨m + 1, by omega, by go_num, ((((Env.again hE.bel).rwr (hE.h4)).rwr (hE.h3)).fqs (hE.h2))⟩
         case measure => simp [intOf]; omega
   have t1 : decide ((k : Int) < (n : Int)) = true := decide_eq_true (by omega)
   have t2 : (k : Int) < (n : Int) := by omega
   obtain ⟨y, hy⟩ : ∃ y, y = hx k := ⟨_, rfl⟩
   obtain ⟨X, hX⟩ : ∃ X, X = xq t (wq r) (Kz r) k := ⟨_, rfl⟩
   obtain ⟨z, hz⟩ : ∃ z, z = floorQ X := ⟨_, rfl⟩
   obtain ⟨P, hP⟩ : ∃ P, P = p k := ⟨_, rfl⟩
   have hyv := hE.h3 k hlt
   rw [← hy, ← hX] at hyv
   have hxk := Hhxl.out k hlt
   rw [← hX] at hxk
   have hzb := Hhfb.out k hlt
   rw [← hX, ← hz] at hzb
   have hPb := Hhpb.out k hlt
   rw [← hP] at hPb
   have hKk := HhK.out k hlt
   have hlX : X - ((z : Int) : Rat) = lq t (wq r) (Kz r) k := by rw [hz, hX]; rfl
   have hlk := Hhll.out k hlt
   rw [← hlX] at hlk
   obtain ⟨v, hv⟩ : ∃ v, decide (0 < cmpQ ((P : Int) : Rat) ((z : Int) : Rat)) = v := ⟨_, rfl⟩
   have hvz : v = true ↔ z < P := by rw [← hv, decide_eq_true_iff]; exact cmpQ_ints
   have hpos : v = true → X - ((z : Int) : Rat) ≠ 0 := fun e1 e2 => by
    have h1 := hvz.1 e1
    rcases Hhone.out k hlt with h2 | ⟨-, h2⟩
    · rw [← hX, ← hz, ← hP] at h2; omega
    · rw [← hlX, e2] at h2; exact absurd h2 Rat.lt_irrefl
   have Hhy := Lib.hid hy
   clear hy
   have HhX := Lib.hid hX
   clear hX
   have Hhz := Lib.hid hz
   clear hz
   have HhP := Lib.hid hP
   clear hP
   have HhlX := Lib.hid hlX
   clear hlX
   have Hhvz := Lib.hid hvz
   clear hvz
   have Hhpos := Lib.hid hpos
   clear hpos
   replace hE := hE.fv hyv
   clear hyv
   have hrf := hE.h5
   have d0 : wr.cell? _ = some (.bool y.s) := hrf.cell (k := k) (i := 0) (o := k * 4) hlt (by decide) rfl (by rw [Hhy.out]; rfl)
   have d1 : wr.cell? _ = some (.slice y.A y.n y.c) := hrf.cell (k := k) (i := 1) (o := k * 4 + 1) hlt (by decide) rfl (by rw [Hhy.out]; rfl)
   have d2 : wr.cell? _ = some (.bool y.t) := hrf.cell (k := k) (i := 2) (o := k * 4 + 2) hlt (by decide) rfl (by rw [Hhy.out]; rfl)
   have d3 : wr.cell? _ = some (.slice y.B y.m y.d) := hrf.cell (k := k) (i := 3) (o := k * 4 + 3) hlt (by decide) rfl (by rw [Hhy.out]; rfl)
   clear hrf
   go_wp2_with fail
   clear d0 d1 d2 d3 t1
   have hcf := ffloor_v (ca := y.c) (da := y.d) (hE.here.2) (by omega)
   rw [show X.num.fdiv (X.den : Int) = z from Hhz.out.symm] at hcf
   have hc := hcf
   refine hc.mono ?_
   clear hc
   rintro e w6 ⟨sf, Af, nf, cf, rfl, hf, hb⟩
   replace hE := hE.step hb
   clear hb
   replace hE := hE.wv hf
   clear hf
   clear hcf
   go_upto_region 15 with (fail)
   obtain ⟨g7, hg7⟩ : ∃ g7, g7 = w6.heap.size := ⟨_, rfl⟩
   have hl7_0 : gp < g7 := by rw [hg7]; exact Rw.lt (hE.h7)
   have hl7_1 : gx < g7 := by rw [hg7]; exact Rw.lt (hE.h6)
   have hl7_3 : gL < g7 := by rw [hg7]; exact Rw.lt (hE.h4)
   have hl7_4 : gR < g7 := by rw [hg7]; exact Rw.lt (hE.h3)
   have hlw_g7 : w.heap.size ≤ g7 := by rw [hg7]; exact hE.bel.size
   replace hE := hE.blk 27 #[.bool sf, .slice Af nf cf] (g := g7) hg7.symm
   generalize w6.alloc (.cells #[.bool sf, .slice Af nf cf] 27) = W7 at hE ⊢
   rw [← hg7]
   clear hg7
   have hfd : ∀ (s t : Bool) (A B : Option Addr) (p q p2 q2 : Nat) (W : World), (Instr.field 29 (.agg #[.bool s, .slice A p q, .bool t, .slice B p2 q2]) 0).run Tryz.prog W = .ok (.agg #[.bool s, .slice A p q]) W := fun _ _ _ _ _ _ _ _ _ => by kernel_rfl
   go_cut [14, 15] from 77 to 84 (fun p0 p1 wx => ∃ G15 sl Al nl cl tl Bl ml dl, p0 = .pointer (some ⟨G15, 0, none⟩) ∧ p1 = .int .i64 0 ∧ (g7 < G15 ∧ gp < G15 ∧ gx < G15 ∧ gL < G15 ∧ gR < G15) ∧ Env w (fun V => (((((((((((True ∧ Rw 3 1 gp n cgp (fun j => [.int .i64 (p j)]) V) ∧ Rw 29 4 gx n cgx (fun j => zqL (hx j)) V) ∧ FqS hx n (xq t (wq r) (Kz r)) V) ∧ Rw 29 4 gL n n (fun j => zqL (lo j)) V) ∧ Rw 4 1 gR n n (fun j => [.bool (up j)]) V) ∧ FqS lo k (lq t (wq r) (Kz r)) V) ∧ FV V X y.s y.A y.n y.t y.B y.m) ∧ WV V z sf Af nf) ∧ Blk 27 (g7) #[.bool sf, .slice Af nf cf] V) ∧ FV V ((z : Int) : Rat) sl Al nl tl Bl ml) ∧ Blk 29 (G15) #[.bool sl, .slice Al nl cl, .bool tl, .slice Bl ml dl] V)) wx)
   case first =>
    replace hE := hE.drew
    refine wp_region_held_drew (S := fun V => Blk 27 (g7) #[.bool sf, .slice Af nf cf] V) (by kernel_rfl) (hE.here.2) (fun hHeld => ?_)
    generalize W7.drew = wd at *
    refine wpAnyH_take (i := 0) (v := ?v2_0_1) rfl (by kernel_rfl) (by kernel_rfl) (by kernel_rfl) (fun _ _ _ h => h) (Or.inl ⟨by rfl, ?hy2_0_1⟩) (by assumption) ?rest2_0_1
    case hy2_0_1 =>
     intro w hSw
     have kc0 := (hSw).cell 0
     have kc1 := (hSw).cell 1
     clear hSw
     first | (go_simp; done) | (go_simp; with_reducible rfl)
    try simp only [PL]
    refine wpAnyH_ready (rs := [1, 7]) (by kernel_rfl) (by simp) (AllReadyH.cons rfl (fun K hK => ?_) (AllReadyH.cons rfl (fun K hK => ?_) (AllReadyH.nil)))
    ·
     go_simp
     refine hE.fr (rffromInt_v 1 _ (by decide) (by decide)) ?_
     clear hE
     intro s1 A1 n1 c1 t1 B1 m1 d1 w8 hE
     go_wp2_with fail
     refine hK.out _ _ (hE.here.1.2) (fun hHeld => ?_)
     clear hK K
     try simp only [PL]
     refine tk 2 ?_
     try simp only [PL]
     refine wpAnyH_ready (rs := [3, 7]) (by kernel_rfl) (by simp) (AllReadyH.cons rfl (fun K hK => ?_) (AllReadyH.cons rfl (fun K hK => ?_) (AllReadyH.nil)))
     ·
      go_simp
      have hc := fmake_v (x := z) (y := 1) (cx := cf) (cy := c1) (hE.h2) ((hE.here.2).1) (by have h1 := (hE.h2).len; have h2 := ln3 (z := z) (by omega) (by omega); omega) (by have h1 := ((hE.here.2).ln (show fl ((1 : Int) : Rat) ≤ 256 by decide)).1; omega) (by decide) (by rw [int_low]; exact fl_le2 (fl_int3 (by omega) (by omega)) (by decide))
      rw [int_low] at hc
      refine hE.fr (hc) ?_
      clear hE
      intro sl Al nl cl tl Bl ml dl w9 hE
      clear hc
      go_wp2_with fail
      refine hK.out _ _ (hE.h2) (fun hHeld => ?_)
      clear hK K
      try simp only [PL]
      refine tk 4 ?_
      try simp only [PL]
      refine tk 5 ?_
      try simp only [PL]
      refine tk 6 ?_
      try simp only [PL]
      refine r1 7 (fun K hK => ?_)
      go_simp
      obtain ⟨g10, hg10⟩ : ∃ g10, g10 = w9.heap.size := ⟨_, rfl⟩
      have hl10_0 : gp < g10 := by rw [hg10]; exact Rw.lt (hE.h10)
      have hl10_1 : gx < g10 := by rw [hg10]; exact Rw.lt (hE.h9)
      have hl10_3 : gL < g10 := by rw [hg10]; exact Rw.lt (hE.h7)
      have hl10_4 : gR < g10 := by rw [hg10]; exact Rw.lt (hE.h6)
      have hl10_8 : g7 < g10 := by rw [hg10]; exact (hE.h2).lt
      have hlw_g10 : w.heap.size ≤ g10 := by rw [hg10]; exact hE.bel.size
      replace hE := hE.blk 29 #[.bool false, .slice none 0 0, .bool false, .slice none 0 0] (g := g10) hg10.symm
      generalize w9.alloc (.cells #[.bool false, .slice none 0 0, .bool false, .slice none 0 0] 29) = W10 at hE ⊢
      rw [← hg10]
      clear hg10
      refine hK.out _ _ (hE.h3) (fun hHeld => ?_)
      clear hK K
      try simp only [PL]
      refine r1 8 (fun K hK => ?_)
      have hgl11 : w.heap.size ≤ g10 := by omega
      obtain ⟨x11_0, x11_1, x11_2, x11_3⟩ := (hE.here.2).c4
      obtain ⟨f11_0, f11_1, f11_2, f11_3⟩ := hE.here.2.f4
      replace hE := (((((((((((((Env.again (bel4 hE.bel hgl11 (.bool sl) (.slice Al nl cl) (.bool tl) (.slice Bl ml dl))).rwr ((hE.h11).grownB (st4_grown (hE.here.2) (.bool sl) (.slice Al nl cl) (.bool tl) (.slice Bl ml dl)) ((hE.h11).ne (hE.here.2) (by decide)))).rwr ((hE.h10).grownB (st4_grown (hE.here.2) (.bool sl) (.slice Al nl cl) (.bool tl) (.slice Bl ml dl)) (by omega))).fqs (FqS.grownB (hE.h9) (hE.here.2) rfl (st4_grown (hE.here.2) (.bool sl) (.slice Al nl cl) (.bool tl) (.slice Bl ml dl)))).rwr ((hE.h8).grownB (st4_grown (hE.here.2) (.bool sl) (.slice Al nl cl) (.bool tl) (.slice Bl ml dl)) (by omega))).rwr ((hE.h7).grownB (st4_grown (hE.here.2) (.bool sl) (.slice Al nl cl) (.bool tl) (.slice Bl ml dl)) ((hE.h7).ne (hE.here.2) (by decide)))).fqs (FqS.grownB (hE.h6) (hE.here.2) rfl (st4_grown (hE.here.2) (.bool sl) (.slice Al nl cl) (.bool tl) (.slice Bl ml dl)))).fv ((hE.h5).sep4 hE.here.2 rfl (.bool sl) (.slice Al nl cl) (.bool tl) (.slice Bl ml dl) rfl rfl rfl)).wv ((hE.h4).sep4 hE.here.2 rfl (.bool sl) (.slice Al nl cl) (.bool tl) (.slice Bl ml dl) rfl rfl rfl)).blkI ((hE.h3).far4 (R := g10) (by omega) (.bool sl) (.slice Al nl cl) (.bool tl) (.slice Bl ml dl))).fv ((hE.h2).sep4 hE.here.2 rfl (.bool sl) (.slice Al nl cl) (.bool tl) (.slice Bl ml dl) rfl rfl rfl)).fv ((hE.here.1.2).sep4 hE.here.2 rfl (.bool sl) (.slice Al nl cl) (.bool tl) (.slice Bl ml dl) rfl rfl rfl)).blkI ((hE.here.2).s4 (.bool sl) (.slice Al nl cl) (.bool tl) (.slice Bl ml dl)))
      go_simp
      clear x11_0 x11_1 x11_2 x11_3 f11_0 f11_1 f11_2 f11_3 hgl11
      generalize ((((W10.setCell ⟨g10, 0, none⟩ (.bool sl)).setCell ⟨g10, 1, none⟩ (.slice Al nl cl)).setCell ⟨g10, 2, none⟩ (.bool tl)).setCell ⟨g10, 3, none⟩ (.slice Bl ml dl)) = W11 at hE ⊢
      refine hK.out _ _ (hE.h3) (fun hHeld => ?_)
      clear hK K
      try simp only [PL]
      refine tk 9 ?_
      try simp only [PL]
      refine wpAnyH_done (by kernel_rfl) ?_ _
      go_wp2_with fail
      go_meet
      exact ⟨g10, sl, Al, nl, cl, tl, Bl, ml, dl, rfl, rfl, ⟨by omega, by omega, by omega, by omega, by omega⟩, ((((((((((((Env.again hE.bel).rwr (hE.h11)).rwr (hE.h10)).fqs (hE.h9)).rwr (hE.h8)).rwr (hE.h7)).fqs (hE.h6)).fv (hE.h5)).wv (hE.h4)).blkI (hE.h3)).fv (hE.here.1.2)).blkI (hE.here.2))⟩
     ·
      go_simp
      obtain ⟨g12, hg12⟩ : ∃ g12, g12 = w8.heap.size := ⟨_, rfl⟩
      have hl12_0 : gp < g12 := by rw [hg12]; exact Rw.lt (hE.h9)
      have hl12_1 : gx < g12 := by rw [hg12]; exact Rw.lt (hE.h8)
      have hl12_3 : gL < g12 := by rw [hg12]; exact Rw.lt (hE.h6)
      have hl12_4 : gR < g12 := by rw [hg12]; exact Rw.lt (hE.h5)
      have hl12_8 : g7 < g12 := by rw [hg12]; exact (hE.here.1.2).lt
      have hlw_g12 : w.heap.size ≤ g12 := by rw [hg12]; exact hE.bel.size
      replace hE := hE.blk 29 #[.bool false, .slice none 0 0, .bool false, .slice none 0 0] (g := g12) hg12.symm
      generalize w8.alloc (.cells #[.bool false, .slice none 0 0, .bool false, .slice none 0 0] 29) = W12 at hE ⊢
      rw [← hg12]
      clear hg12
      refine hK.out _ _ (hE.h2) (fun hHeld => ?_)
      clear hK K
      try simp only [PL]
      refine r1 3 (fun K hK => ?_)
      go_simp
      have hc := fmake_v (x := z) (y := 1) (cx := cf) (cy := c1) (hE.h3) ((hE.here.1.2).1) (by have h1 := (hE.h3).len; have h2 := ln3 (z := z) (by omega) (by omega); omega) (by have h1 := ((hE.here.1.2).ln (show fl ((1 : Int) : Rat) ≤ 256 by decide)).1; omega) (by decide) (by rw [int_low]; exact fl_le2 (fl_int3 (by omega) (by omega)) (by decide))
      rw [int_low] at hc
      refine hE.fr (hc) ?_
      clear hE
      intro sl Al nl cl tl Bl ml dl w13 hE
      clear hc
      go_wp2_with fail
      refine hK.out _ _ (hE.h3) (fun hHeld => ?_)
      clear hK K
      try simp only [PL]
      refine tk 4 ?_
      try simp only [PL]
      refine tk 5 ?_
      try simp only [PL]
      refine tk 6 ?_
      try simp only [PL]
      refine r1 8 (fun K hK => ?_)
      have hgl14 : w.heap.size ≤ g12 := by omega
      obtain ⟨x14_0, x14_1, x14_2, x14_3⟩ := (hE.here.1.2).c4
      obtain ⟨f14_0, f14_1, f14_2, f14_3⟩ := hE.here.1.2.f4
      replace hE := (((((((((((((Env.again (bel4 hE.bel hgl14 (.bool sl) (.slice Al nl cl) (.bool tl) (.slice Bl ml dl))).rwr ((hE.h11).grownB (st4_grown (hE.here.1.2) (.bool sl) (.slice Al nl cl) (.bool tl) (.slice Bl ml dl)) ((hE.h11).ne (hE.here.1.2) (by decide)))).rwr ((hE.h10).grownB (st4_grown (hE.here.1.2) (.bool sl) (.slice Al nl cl) (.bool tl) (.slice Bl ml dl)) (by omega))).fqs (FqS.grownB (hE.h9) (hE.here.1.2) rfl (st4_grown (hE.here.1.2) (.bool sl) (.slice Al nl cl) (.bool tl) (.slice Bl ml dl)))).rwr ((hE.h8).grownB (st4_grown (hE.here.1.2) (.bool sl) (.slice Al nl cl) (.bool tl) (.slice Bl ml dl)) (by omega))).rwr ((hE.h7).grownB (st4_grown (hE.here.1.2) (.bool sl) (.slice Al nl cl) (.bool tl) (.slice Bl ml dl)) ((hE.h7).ne (hE.here.1.2) (by decide)))).fqs (FqS.grownB (hE.h6) (hE.here.1.2) rfl (st4_grown (hE.here.1.2) (.bool sl) (.slice Al nl cl) (.bool tl) (.slice Bl ml dl)))).fv ((hE.h5).sep4 hE.here.1.2 rfl (.bool sl) (.slice Al nl cl) (.bool tl) (.slice Bl ml dl) rfl rfl rfl)).wv ((hE.h4).sep4 hE.here.1.2 rfl (.bool sl) (.slice Al nl cl) (.bool tl) (.slice Bl ml dl) rfl rfl rfl)).blkI ((hE.h3).far4 (R := g12) (by omega) (.bool sl) (.slice Al nl cl) (.bool tl) (.slice Bl ml dl))).fv ((hE.h2).sep4 hE.here.1.2 rfl (.bool sl) (.slice Al nl cl) (.bool tl) (.slice Bl ml dl) rfl rfl rfl)).blkI ((hE.here.1.2).s4 (.bool sl) (.slice Al nl cl) (.bool tl) (.slice Bl ml dl))).fv ((hE.here.2).sep4 hE.here.1.2 rfl (.bool sl) (.slice Al nl cl) (.bool tl) (.slice Bl ml dl) rfl rfl rfl))
      go_simp
      clear x14_0 x14_1 x14_2 x14_3 f14_0 f14_1 f14_2 f14_3 hgl14
      generalize ((((w13.setCell ⟨g12, 0, none⟩ (.bool sl)).setCell ⟨g12, 1, none⟩ (.slice Al nl cl)).setCell ⟨g12, 2, none⟩ (.bool tl)).setCell ⟨g12, 3, none⟩ (.slice Bl ml dl)) = W14 at hE ⊢
      refine hK.out _ _ (hE.h3) (fun hHeld => ?_)
      clear hK K
      try simp only [PL]
      refine tk 9 ?_
      try simp only [PL]
      refine wpAnyH_done (by kernel_rfl) ?_ _
      go_wp2_with fail
      go_meet
      exact ⟨g12, sl, Al, nl, cl, tl, Bl, ml, dl, rfl, rfl, ⟨by omega, by omega, by omega, by omega, by omega⟩, ((((((((((((Env.again hE.bel).rwr (hE.h11)).rwr (hE.h10)).fqs (hE.h9)).rwr (hE.h8)).rwr (hE.h7)).fqs (hE.h6)).fv (hE.h5)).wv (hE.h4)).blkI (hE.h3)).fv (hE.here.2)).blkI (hE.here.1.2))⟩
    ·
     go_simp
     obtain ⟨g15, hg15⟩ : ∃ g15, g15 = wd.heap.size := ⟨_, rfl⟩
     have hl15_0 : gp < g15 := by rw [hg15]; exact Rw.lt (hE.h8)
     have hl15_1 : gx < g15 := by rw [hg15]; exact Rw.lt (hE.h7)
     have hl15_3 : gL < g15 := by rw [hg15]; exact Rw.lt (hE.h5)
     have hl15_4 : gR < g15 := by rw [hg15]; exact Rw.lt (hE.h4)
     have hl15_8 : g7 < g15 := by rw [hg15]; exact (hE.here.2).lt
     have hlw_g15 : w.heap.size ≤ g15 := by rw [hg15]; exact hE.bel.size
     replace hE := hE.blk 29 #[.bool false, .slice none 0 0, .bool false, .slice none 0 0] (g := g15) hg15.symm
     generalize wd.alloc (.cells #[.bool false, .slice none 0 0, .bool false, .slice none 0 0] 29) = W15 at hE ⊢
     rw [← hg15]
     clear hg15
     refine hK.out _ _ (hE.here.1.2) (fun hHeld => ?_)
     clear hK K
     try simp only [PL]
     refine r1 1 (fun K hK => ?_)
     go_simp
     refine hE.fr (rffromInt_v 1 _ (by decide) (by decide)) ?_
     clear hE
     intro s1 A1 n1 c1 t1 B1 m1 d1 w16 hE
     go_wp2_with fail
     refine hK.out _ _ (hE.h2) (fun hHeld => ?_)
     clear hK K
     try simp only [PL]
     refine tk 2 ?_
     try simp only [PL]
     refine r1 3 (fun K hK => ?_)
     go_simp
     have hc := fmake_v (x := z) (y := 1) (cx := cf) (cy := c1) (hE.h3) ((hE.here.2).1) (by have h1 := (hE.h3).len; have h2 := ln3 (z := z) (by omega) (by omega); omega) (by have h1 := ((hE.here.2).ln (show fl ((1 : Int) : Rat) ≤ 256 by decide)).1; omega) (by decide) (by rw [int_low]; exact fl_le2 (fl_int3 (by omega) (by omega)) (by decide))
     rw [int_low] at hc
     refine hE.fr (hc) ?_
     clear hE
     intro sl Al nl cl tl Bl ml dl w17 hE
     clear hc
     go_wp2_with fail
     refine hK.out _ _ (hE.h3) (fun hHeld => ?_)
     clear hK K
     try simp only [PL]
     refine tk 4 ?_
     try simp only [PL]
     refine tk 5 ?_
     try simp only [PL]
     refine tk 6 ?_
     try simp only [PL]
     refine r1 8 (fun K hK => ?_)
     have hgl18 : w.heap.size ≤ g15 := by omega
     obtain ⟨x18_0, x18_1, x18_2, x18_3⟩ := (hE.h2).c4
     obtain ⟨f18_0, f18_1, f18_2, f18_3⟩ := hE.h2.f4
     replace hE := (((((((((((((Env.again (bel4 hE.bel hgl18 (.bool sl) (.slice Al nl cl) (.bool tl) (.slice Bl ml dl))).rwr ((hE.h11).grownB (st4_grown (hE.h2) (.bool sl) (.slice Al nl cl) (.bool tl) (.slice Bl ml dl)) ((hE.h11).ne (hE.h2) (by decide)))).rwr ((hE.h10).grownB (st4_grown (hE.h2) (.bool sl) (.slice Al nl cl) (.bool tl) (.slice Bl ml dl)) (by omega))).fqs (FqS.grownB (hE.h9) (hE.h2) rfl (st4_grown (hE.h2) (.bool sl) (.slice Al nl cl) (.bool tl) (.slice Bl ml dl)))).rwr ((hE.h8).grownB (st4_grown (hE.h2) (.bool sl) (.slice Al nl cl) (.bool tl) (.slice Bl ml dl)) (by omega))).rwr ((hE.h7).grownB (st4_grown (hE.h2) (.bool sl) (.slice Al nl cl) (.bool tl) (.slice Bl ml dl)) ((hE.h7).ne (hE.h2) (by decide)))).fqs (FqS.grownB (hE.h6) (hE.h2) rfl (st4_grown (hE.h2) (.bool sl) (.slice Al nl cl) (.bool tl) (.slice Bl ml dl)))).fv ((hE.h5).sep4 hE.h2 rfl (.bool sl) (.slice Al nl cl) (.bool tl) (.slice Bl ml dl) rfl rfl rfl)).wv ((hE.h4).sep4 hE.h2 rfl (.bool sl) (.slice Al nl cl) (.bool tl) (.slice Bl ml dl) rfl rfl rfl)).blkI ((hE.h3).far4 (R := g15) (by omega) (.bool sl) (.slice Al nl cl) (.bool tl) (.slice Bl ml dl))).blkI ((hE.h2).s4 (.bool sl) (.slice Al nl cl) (.bool tl) (.slice Bl ml dl))).fv ((hE.here.1.2).sep4 hE.h2 rfl (.bool sl) (.slice Al nl cl) (.bool tl) (.slice Bl ml dl) rfl rfl rfl)).fv ((hE.here.2).sep4 hE.h2 rfl (.bool sl) (.slice Al nl cl) (.bool tl) (.slice Bl ml dl) rfl rfl rfl))
     go_simp
     clear x18_0 x18_1 x18_2 x18_3 f18_0 f18_1 f18_2 f18_3 hgl18
     generalize ((((w17.setCell ⟨g15, 0, none⟩ (.bool sl)).setCell ⟨g15, 1, none⟩ (.slice Al nl cl)).setCell ⟨g15, 2, none⟩ (.bool tl)).setCell ⟨g15, 3, none⟩ (.slice Bl ml dl)) = W18 at hE ⊢
     refine hK.out _ _ (hE.h3) (fun hHeld => ?_)
     clear hK K
     try simp only [PL]
     refine tk 9 ?_
     try simp only [PL]
     refine wpAnyH_done (by kernel_rfl) ?_ _
     go_wp2_with fail
     go_meet
     exact ⟨g15, sl, Al, nl, cl, tl, Bl, ml, dl, rfl, rfl, ⟨by omega, by omega, by omega, by omega, by omega⟩, ((((((((((((Env.again hE.bel).rwr (hE.h11)).rwr (hE.h10)).fqs (hE.h9)).rwr (hE.h8)).rwr (hE.h7)).fqs (hE.h6)).fv (hE.h5)).wv (hE.h4)).blkI (hE.h3)).fv (hE.here.2)).blkI (hE.h2))⟩
   case rest =>
   clear hE
   obtain ⟨G15, sl, Al, nl, cl, tl, Bl, ml, dl, rfl, rfl, ⟨hG15_0, hG15_1, hG15_2, hG15_3, hG15_4⟩, hE⟩ := hcut
   generalize wc = wk15 at hE ⊢
   go_upto_region 16 with (fail)
   clear hfd
   have Hhlx2 := Lib.hid HhlX.out
   replace hE := hE.drew
   refine wp_region_held_drew (S := fun V => Rw 29 4 gx n cgx (fun j => zqL (hx j)) V ∧ Blk 29 (G15) #[.bool sl, .slice Al nl cl, .bool tl, .slice Bl ml dl] V) (by kernel_rfl) (⟨hE.h9, hE.here.2⟩) (fun hHeld => ?_)
   generalize wk15.drew = wd at *
   refine tk 0 ?_
   try simp only [PL]
   refine tk 1 ?_
   try simp only [PL]
   refine tk 2 ?_
   try simp only [PL]
   refine tk 3 ?_
   try simp only [PL]
   refine tk 4 ?_
   try simp only [PL]
   refine wpAnyH_take (i := 5) (v := ?v3_5_6) rfl (by kernel_rfl) (by kernel_rfl) (by kernel_rfl) (fun _ _ _ h => h) (Or.inl ⟨by rfl, ?hy3_5_6⟩) (by assumption) ?rest3_5_6
   case hy3_5_6 =>
    intro w hSw
    have kc0 := Rw.cell hSw.1 (k := k) (i := 0) (o := k * 4) (v := .bool y.s) hlt (by decide) rfl (by rw [Hhy.out]; rfl)
    have kc1 := Rw.cell hSw.1 (k := k) (i := 1) (o := k * 4 + 1) (v := .slice y.A y.n y.c) hlt (by decide) rfl (by rw [Hhy.out]; rfl)
    have kc2 := Rw.cell hSw.1 (k := k) (i := 2) (o := k * 4 + 2) (v := .bool y.t) hlt (by decide) rfl (by rw [Hhy.out]; rfl)
    have kc3 := Rw.cell hSw.1 (k := k) (i := 3) (o := k * 4 + 3) (v := .slice y.B y.m y.d) hlt (by decide) rfl (by rw [Hhy.out]; rfl)
    clear hSw
    first | (go_simp; done) | (go_simp; with_reducible rfl)
   try simp only [PL]
   refine wpAnyH_take (i := 6) (v := ?v3_6_7) rfl (by kernel_rfl) (by kernel_rfl) (by kernel_rfl) (fun _ _ _ h => h) (Or.inl ⟨by rfl, ?hy3_6_7⟩) (by assumption) ?rest3_6_7
   case hy3_6_7 =>
    intro w hSw
    have kc0 := (hSw.2).cell 0
    have kc1 := (hSw.2).cell 1
    have kc2 := (hSw.2).cell 2
    have kc3 := (hSw.2).cell 3
    clear hSw
    first | (go_simp; done) | (go_simp; with_reducible rfl)
   try simp only [PL]
   refine r1 7 (fun K hK => ?_)
   go_simp
   refine hE.fr (fsub_v (ca := y.c) (da := y.d) (cb := cl) (db := dl) (hE.h4) (hE.here.1.2) (by omega) (fl_le2 (fl_int3 (by omega) (by omega)) (by decide)) (by omega)) ?_
   clear hE
   intro se Ae ne ce te Be me de w19 hE
   go_wp2_with fail
   refine hK.out _ _ (⟨hE.h10, hE.here.1.2⟩) (fun hHeld => ?_)
   clear hK K
   try simp only [PL]
   refine tk 8 ?_
   try simp only [PL]
   refine tk 9 ?_
   try simp only [PL]
   refine tk 10 ?_
   try simp only [PL]
   refine tk 11 ?_
   try simp only [PL]
   refine r1 12 (fun K hK => ?_)
   refine Eq.mpr (if_pos (by rfl)) ?_
   refine st_stepP (fr_store (hE.h8) hlt (zqL (⟨se, Ae, ne, ce, fun _ => 0, te, Be, me, de, fun _ => 0⟩ : FH)) rfl (fun v hv => (zqL_ok _ v hv).2) rfl) rfl rfl rfl ?_
   obtain ⟨hR2, hgr⟩ := Rw.put (hE.h8) hlt (x := zqL (⟨se, Ae, ne, ce, fun _ => 0, te, Be, me, de, fun _ => 0⟩ : FH)) rfl (fun v hv => (zqL_ok _ v hv).1)
   replace hR2 := Rw.congr (e' := fun j => zqL (updF lo k (⟨se, Ae, ne, ce, fun _ => 0, te, Be, me, de, fun _ => 0⟩ : FH) j)) hR2 (fun j _ => updF_row lo k _ j)
   replace hE := (((((((((((((Env.again (Go.Proofs.YtjgihmmeimfheaaGreat.Below.grownB hE.bel hgr hE.bel.size (by omega))).rwr ((hE.h11).grownB hgr ((hE.h11).ne2 (hE.h8) (by decide)))).rwr ((hE.h10).grownB hgr (by omega))).fqs ((hE.h9).row (hE.h8) hgr)).rwr hR2).rwr ((hE.h7).grownB hgr ((hE.h7).ne2 (hE.h8) (by decide)))).fqs (((hE.h6).row (hE.h8) hgr).push (x := (⟨se, Ae, ne, ce, fun _ => 0, te, Be, me, de, fun _ => 0⟩ : FH)) (Rw.fv (hE.h8) ((hE.here.2).to Hhlx2.out) hgr))).fv (Rw.fv (hE.h8) (hE.h5) hgr)).wv (by obtain ⟨cs, hb, hn, _⟩ := (hE.h8).blk; exact WV.grownB (hE.h4) hb hn hgr)).blkI (Blk.grownB (hE.h3) hgr (Ne.symm ((hE.h8).ne (hE.h3) (by decide))))).fv (Rw.fv (hE.h8) (hE.h2) hgr)).blkI (Blk.grownB (hE.here.1.2) hgr (by omega))).fv (Rw.fv (hE.h8) (hE.here.2) hgr))
   clear hR2 hgr
   generalize w19.setCells gL (k * 4) (zqL (⟨se, Ae, ne, ce, fun _ => 0, te, Be, me, de, fun _ => 0⟩ : FH)) = VL at hE ⊢
   refine hK.out _ _ (⟨hE.h10, hE.here.1.2⟩) (fun hHeld => ?_)
   clear hK K
   try simp only [PL]
   refine wpAnyH_done (by kernel_rfl) ?_ _
   go_upto_region 17 with (fail)
   replace hE := hE.drew
   refine wp_region_held_drew (S := fun V => Rw 3 1 gp n cgp (fun j => [.int .i64 (p j)]) V ∧ Blk 29 (G15) #[.bool sl, .slice Al nl cl, .bool tl, .slice Bl ml dl] V) (by kernel_rfl) (⟨hE.h11, hE.here.1.2⟩) (fun hHeld => ?_)
   generalize VL.drew = wd at *
   refine tk 0 ?_
   try simp only [PL]
   refine tk 1 ?_
   try simp only [PL]
   refine tk 2 ?_
   try simp only [PL]
   refine tk 3 ?_
   try simp only [PL]
   refine tk 4 ?_
   try simp only [PL]
   refine wpAnyH_take (i := 5) (v := ?v4_5_6) rfl (by kernel_rfl) (by kernel_rfl) (by kernel_rfl) (fun _ _ _ h => h) (Or.inl ⟨by rfl, ?hy4_5_6⟩) (by assumption) ?rest4_5_6
   case hy4_5_6 =>
    intro w hSw
    have kc := Rw.cell hSw.1 (k := k) (i := 0) (o := k) (v := .int .i64 P) hlt (by decide) (by omega) (by rw [HhP.out]; rfl)
    clear hSw
    first | (go_simp; done) | (go_simp; with_reducible rfl)
   try simp only [PL]
   refine wpAnyH_take (i := 7) (v := ?v4_7_7) rfl (by kernel_rfl) (by kernel_rfl) (by kernel_rfl) (fun _ _ _ h => h) (Or.inl ⟨by rfl, ?hy4_7_7⟩) (by assumption) ?rest4_7_7
   case hy4_7_7 =>
    intro w hSw
    have kc0 := (hSw.2).cell 0
    have kc1 := (hSw.2).cell 1
    have kc2 := (hSw.2).cell 2
    have kc3 := (hSw.2).cell 3
    clear hSw
    first | (go_simp; done) | (go_simp; with_reducible rfl)
   try simp only [PL]
   refine r1 6 (fun K hK => ?_)
   go_simp
   refine hE.fr (ffromInt_v P _ (by omega) (by omega)) ?_
   clear hE
   intro s2 A2 n2 c2 t2 B2 m2 d2 w20 hE
   go_wp2_with fail
   refine hK.out _ _ (⟨hE.h12, hE.h2⟩) (fun hHeld => ?_)
   clear hK K
   try simp only [PL]
   refine r1 8 (fun K hK => ?_)
   go_simp
   refine hE.br (fcmp_v (ca := c2) (da := d2) (cb := cl) (db := dl) (hE.here.2) (hE.h3) (fl_le2 (fl_int3 (by omega) (by omega)) (by decide)) (fl_le2 (fl_int3 (by omega) (by omega)) (by decide))) ?_
   clear hE
   intro w21 hE
   go_wp2_with fail
   refine hK.out _ _ (⟨hE.h12, hE.h2⟩) (fun hHeld => ?_)
   clear hK K
   try simp only [PL]
   refine tk 9 ?_
   try simp only [PL]
   refine tk 10 ?_
   try simp only [PL]
   refine r1 11 (fun K hK => ?_)
   have kc := Rw.cell (hE.h8) (k := k) (i := 0) (o := k) (v := .bool (up k)) hlt (by decide) (by omega) rfl
   have kf := Rw.frozen (hE.h8) k
   go_simp
   clear kc kf
   obtain ⟨hR2, hgr⟩ := Rw.put (hE.h8) hlt (x := [.bool v]) rfl (fun u hu => by simp only [List.mem_cons, List.not_mem_nil, or_false] at hu; subst hu; rfl)
   have es : w21.setCells gR (k * 1) [.bool v] = w21.setCell ⟨gR, k, none⟩ (.bool v) := by rw [Nat.mul_one]; rfl
   rw [es] at hR2 hgr
   replace hR2 := Rw.congr (e' := fun j => [.bool (updB up k v j)]) hR2 (fun j _ => updB_row up k v j)
   replace hE := ((((((((((((((Env.again (Go.Proofs.YtjgihmmeimfheaaGreat.Below.grownB hE.bel hgr hE.bel.size (by omega))).rwr ((hE.h12).grownB hgr ((hE.h12).ne2 (hE.h8) (by decide)))).rwr ((hE.h11).grownB hgr ((hE.h11).ne2 (hE.h8) (by decide)))).fqs ((hE.h10).row (hE.h8) hgr)).rwr ((hE.h9).grownB hgr ((hE.h9).ne2 (hE.h8) (by decide)))).rwr hR2).fqs ((hE.h7).row (hE.h8) hgr)).fv (Rw.fv (hE.h8) (hE.h6) hgr)).wv (by obtain ⟨cs, hb, hn, _⟩ := (hE.h8).blk; exact WV.grownB (hE.h5) hb hn hgr)).blkI (Blk.grownB (hE.h4) hgr (Ne.symm ((hE.h8).ne (hE.h4) (by decide))))).fv (Rw.fv (hE.h8) (hE.h3) hgr)).blkI (Blk.grownB (hE.h2) hgr (Ne.symm ((hE.h8).ne (hE.h2) (by decide))))).fv (Rw.fv (hE.h8) (hE.here.1.2) hgr)).fv (Rw.fv (hE.h8) (hE.here.2) hgr))
   clear hR2 hgr es
   generalize w21.setCell ⟨gR, k, none⟩ (.bool v) = VR at hE ⊢
   refine hK.out _ _ (⟨hE.h12, hE.h2⟩) (fun hHeld => ?_)
   clear hK K
   try simp only [PL]
   refine wpAnyH_done (by kernel_rfl) ?_ _
   go_upto_region 18 with (fail)
   have kc1 := Rw.cell (hE.h8) (k := k) (i := 0) (o := k) (v := .bool v) hlt (by decide) (by omega) (by rw [updB_own]; rfl)
   have kc2 := Rw.cell (hE.h9) (k := k) (i := 1) (o := k * 4 + 1) (v := .slice Ae ne ce) hlt (by decide) rfl (by rw [updF_own]; rfl)
   have hnz := FV.nz (hE.here.1.2)
   have hup2 : ∀ j, j < k + 1 → (updB up k v j = true ↔ floorQ (xq t (wq r) (Kz r) j) < p j) := fun j hj => by
    by_cases ej : j = k
    · subst ej; rw [updB_own, Hhvz.out, Hhz.out, HhX.out, HhP.out]
    · unfold updB; rw [if_neg ej]; exact Hhup.out j (by omega)
   have Hhup2 := Lib.hid hup2
   clear hup2
   have Hhnz := Lib.hid hnz
   clear hnz
   cases v with
   | false =>
    clear hv
    go_wp2_with fail
    go_roundw
    case rel => exact ⟨k + 1, _, _, by omega, by go_num, Hhup2.out, (((((((Env.again hE.bel).rwr (hE.h12)).rwr (hE.h11)).fqs (hE.h10)).rwr (hE.h9)).rwr (hE.h8)).fqs (hE.h7))⟩
    case measure => simp [intOf]; omega
   | true =>
    clear hv
    have t5 : (ne == 0) = false := beq_eq_false_iff_ne.2 (fun h => Hhpos.out rfl (Hhnz.out.1 h))
    have t6 : ((ne : Int) == 0) = false := beq_eq_false_iff_ne.2 (fun h => Hhpos.out rfl (Hhnz.out.1 (by omega)))
    go_wp2_with fail
    go_roundw
    case rel => exact ⟨k + 1, _, _, by omega, by go_num, Hhup2.out, (((((((Env.again hE.bel).rwr (hE.h12)).rwr (hE.h11)).fqs (hE.h10)).rwr (hE.h9)).rwr (hE.h8)).fqs (hE.h7))⟩
    case measure => simp [intOf]; omega
end Go.Proofs.YtjgihmmeimfheaaGreat
