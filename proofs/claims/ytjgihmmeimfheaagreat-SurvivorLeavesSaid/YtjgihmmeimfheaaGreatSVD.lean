/-
  The walk of survivor.Without.
-/
import Derived.Test.YtjgihmmeimfheaaGreatK18
import Derived.Test.YtjgihmmeimfheaaGreatSVC
namespace Go.Proofs.YtjgihmmeimfheaaGreat
open Go.RowKit

def skip (i k : Nat) : Nat := if k < i then k else k + 1
def lenW (i j : Nat) : Nat := if i < j then j - 1 else j
theorem skip_len {i j : Nat} (h : j ≠ i) : skip i (lenW i j) = j ∧ lenW i (j + 1) = lenW i j + 1 := by
 unfold skip lenW
 constructor
 · split <;> split <;> omega
 · split <;> split <;> omega
theorem skip_own (i : Nat) : lenW i (i + 1) = lenW i i := by
 unfold lenW
 split <;> split <;> omega
theorem lenW_le (i j : Nat) : lenW i j ≤ j := by unfold lenW; split <;> omega
theorem skip_lt {i k n : Nat} (hi : i < n) (h : k < n - 1) : skip i k < n := by unfold skip; split <;> omega
theorem skip_up (i k : Nat) : skip i k < skip i (k + 1) := by unfold skip; split <;> split <;> omega
theorem ClOK.up {n : Nat} {r : Nat → Cl} (h : ClOK n r) : ∀ {d j : Nat}, j + (d + 1) < n → (r j).I < (r (j + (d + 1))).I
 | 0, j, hk => (h.2 (j + 1) hk).1 j rfl
 | d + 1, j, hk => by
  have h1 := ClOK.up h (d := d) (j := j) (by omega)
  have h2 := (h.2 (j + (d + 1) + 1) (by omega)).1 (j + (d + 1)) rfl
  have h3 : j + (d + 1 + 1) = j + (d + 1) + 1 := by omega
  rw [h3]
  omega
theorem ClOK.lt {n : Nat} {r : Nat → Cl} (h : ClOK n r) {j k : Nat} (hjk : j < k) (hk : k < n) : (r j).I < (r k).I := by
 obtain ⟨d, rfl⟩ : ∃ d, k = j + (d + 1) := ⟨k - j - 1, by omega⟩
 exact h.up hk
theorem ClOK.inj {n : Nat} {r : Nat → Cl} (h : ClOK n r) {j k : Nat} (hj : j < n) (hk : k < n) (e : (r j).I = (r k).I) : j = k := by
 rcases Nat.lt_trichotomy j k with h1 | h1 | h1
 · have := h.lt h1 hk; omega
 · exact h1
 · have := h.lt h1 hj; omega
theorem clone_num {q : Rat} {s t : Bool} {A A' B : Option Addr} {n m : Nat} {w : World} (h : FV w q s A n t B m) {w' : World} (hb : Below w.heap.size w w') (hn : Num16 w' A' q.num.natAbs) : FV w' q s A' n t B m := ⟨⟨h.1.1, h.1.2.1, hn⟩, h.2.below hb⟩
theorem clone_den {q : Rat} {s t : Bool} {A B' B : Option Addr} {n m : Nat} {w : World} (h : FV w q s A n t B m) {w' : World} (hb : Below w.heap.size w w') (hn : Num16 w' B' ((q.den : Nat) : Int).natAbs) : FV w' q s A n t B' m := ⟨h.1.below hb, ⟨h.2.1, h.2.2.1, hn⟩⟩
/-- What Without returns. -/
def WoP (i n : Nat) (r : Nat → Cl) (w : World) (e : Ending) (w' : World) : Prop :=
 (i < n ∧ ∃ A2 c2 r2, e = .returned (.tuple #[.slice A2 (n - 1) c2, .int .i64 0]) ∧ ClM A2 (n - 1) r2 w' ∧ ClOK (n - 1) r2 ∧ (∀ k, k < n - 1 → (r2 k).I = (r (skip i k)).I ∧ wq r2 k = wq r (skip i k) ∧ Kz r2 k = Kz r (skip i k)) ∧ Below w.heap.size w w') ∨
 (n ≤ i ∧ e = .returned (.tuple #[.slice none 0 0, .int .i64 6]) ∧ Below w.heap.size w w')
theorem wo_ok {i n : Nat} {r : Nat → Cl} {h : Nat → FH} {W : World} (hok : ClOK n r) (hw : ∀ k, k < n → 0 ≤ wq r k ∧ fl (wq r k) ≤ 4) (hi : i < n) (hq : FqS h (n - 1) (fun j => wq r (skip i j)) W) : ClOK (n - 1) (clB (fun j => (r (skip i j)).I) (fun j => Kz r (skip i j)) h (fun j => wq r (skip i j))) ∧ ∀ k, k < n - 1 → (clB (fun j => (r (skip i j)).I) (fun j => Kz r (skip i j)) h (fun j => wq r (skip i j)) k).I = (r (skip i k)).I ∧ wq (clB (fun j => (r (skip i j)).I) (fun j => Kz r (skip i j)) h (fun j => wq r (skip i j))) k = wq r (skip i k) ∧ Kz (clB (fun j => (r (skip i j)).I) (fun j => Kz r (skip i j)) h (fun j => wq r (skip i j))) k = Kz r (skip i k) := by
 refine ⟨⟨by have := hok.1; omega, fun k hk => ⟨fun j hj => ?_, ?_⟩⟩, fun k hk => ⟨rfl, wq_built hq hk, rfl⟩⟩
 ·
  subst hj
  exact hok.lt (skip_up i j) (skip_lt hi hk)
 ·
  have hs := skip_lt hi hk
  exact (Cl.ok_of (hq k hk) (hw _ hs).1 (hw _ hs).2 (hok.K _ hs)).1
set_option linter.unusedSimpArgs false in
set_option maxRecDepth 100000 in
set_option maxHeartbeats 4000000 in
theorem swithout_v {A : Option Addr} {n c : Nat} {r : Nat → Cl} {w : World} (z : Int) (i : Nat) (hM : ClM A n r w) (hok : ClOK n r) (hn : n ≤ 10) (hz : ∀ k, k < n → ((r k).I = z ↔ k = i)) :
  Calls Tryz.prog 36 #[.slice A n c, .int .i64 z] w (WoP i n r w) := by
 have HhM := Lib.hid hM
 clear hM
 have Hhok := Lib.hid hok
 clear hok
 have Hhz := Lib.hid hz
 clear hz
 have hw4 := Hhok.out.w HhM.out
 have Hhw4 := Lib.hid hw4
 clear hw4
 have hE := Env.start w
 go_enter Tryz.func36, Tryz.ntmps36
 go_wp2_with fail
 refine (svalid_any A n c r _ (HhM.out.below hE.bel)).mono ?_
 rintro e w1 ⟨v, rfl, hv, hb⟩
 replace hE := hE.step hb
 obtain rfl : v = true := hv.2 Hhok.out
 clear hv hb
 go_wp2_with fail
 go_loopw [6, 14] (fun mv x wr => ∃ (j : Nat) (h : Nat → FH) (v : Value), j ≤ n ∧ v = mv ∧ x = .int .i64 (j : Int) ∧ Env w (fun V => ((True ∧ RwV 46 6 w.heap.size v (lenW i j) (clR (fun j => (r (skip i j)).I) (fun j => Kz r (skip i j)) h) V) ∧ FqS h (lenW i j) (fun j => wq r (skip i j)) V)) wr) (fun _ x _ => n - (intOf x).toNat)
 case atStart => exact ⟨0, fun _ => zFH, .slice none 0 0, Nat.zero_le _, rfl, rfl, (hE.rwv (.inl ⟨rfl, rfl⟩)).fqs (fun j hj => absurd hj (Nat.not_lt_zero j))⟩
 case round =>
  clear hE
  obtain ⟨j, h, v, hj, rfl, rfl, hE⟩ := hrel
  by_cases hlt : j < n
  rotate_left
  ·
   obtain rfl : n = j := by omega
   have t1 : decide ((n : Int) < (n : Int)) = false := decide_eq_false (by omega)
   have hF := Lib.hid (hE.here.2)
   obtain ⟨A2, c2, rfl, hM2⟩ := clm_built (hE.here.1.2) (hE.here.2)
   replace hE := (Env.again hE.bel).clm hM2
   clear hM2
   by_cases hin : i < n
   ·
    have hl : lenW i n = n - 1 := by unfold lenW; rw [if_pos hin]
    have t2 : ((lenW i n : Nat) == n) = false := beq_eq_false_iff_ne.2 (by omega)
    have t3 : (((lenW i n : Nat) : Int) == (n : Int)) = false := beq_eq_false_iff_ne.2 (by omega)
    have Hhin := Lib.hid hin
    clear hin
    have Hhl := Lib.hid hl
    clear hl
    go_wp2_with fail
    refine bodyPost_ret (v := .tuple #[.slice A2 (lenW i n) c2, .int .i64 0]) (by simp [results, Tryz.results36, go_sem]) rfl ?_
    have hl := Hhl.out
    have hq := hF.out
    rw [hl] at hq hE ⊢
    obtain ⟨o1, o2⟩ := wo_ok Hhok.out Hhw4.out Hhin.out hq
    exact .inl ⟨Hhin.out, _, _, _, rfl, hE.here.2, o1, o2, hE.bel⟩
   have hl : lenW i n = n := by unfold lenW; rw [if_neg hin]
   have t2 : ((lenW i n : Nat) == n) = true := beq_iff_eq.2 hl
   have t3 : (((lenW i n : Nat) : Int) == (n : Int)) = true := beq_iff_eq.2 (by omega)
   have Hhin := Lib.hid hin
   clear hin
   have Hhl := Lib.hid hl
   clear hl
   go_wp2_with fail
   refine bodyPost_ret (v := .tuple #[.slice none 0 0, .int .i64 6]) (by simp [results, Tryz.results36, go_sem]) rfl ?_
   exact .inr ⟨by have := Hhin.out; omega, rfl, hE.bel⟩
  have t1 : decide ((j : Int) < (n : Int)) = true := decide_eq_true (by omega)
  have t2 : (j : Int) < (n : Int) := by omega
  obtain ⟨b, o, rfl, hb, hc⟩ := (HhM.out.below hE.bel) (by omega)
  obtain ⟨x, hx⟩ : ∃ x, x = r j := ⟨_, rfl⟩
  obtain ⟨⟨d0, d1, d2, d3, d4, d5⟩, -⟩ := hc j hlt
  rw [← hx] at d0 d1 d2 d3 d4 d5
  clear hb hc
  have hwv := ClM.fv (HhM.out.below hE.bel) Hhok.out hlt
  obtain ⟨pw, hpw⟩ : ∃ pw, pw = wq r j := ⟨_, rfl⟩
  have hxw : FV wr pw x.w.s x.w.A x.w.n x.w.t x.w.B x.w.m := by rw [hx, hpw]; exact hwv.2.1
  clear hwv
  have hfw : fl pw ≤ 4 := by rw [hpw]; exact (Hhw4.out j hlt).2
  obtain ⟨hln, hlm⟩ := hxw.ln hfw
  have hzj : x.I = z ↔ j = i := by rw [hx]; exact Hhz.out j hlt
  have hown : ∀ q, v.ownBlock = some q → q < wr.heap.size := (hE.here.1.2).lt
  have Hhx := Lib.hid hx
  clear hx
  have Hhpw := Lib.hid hpw
  clear hpw
  have Hhzj := Lib.hid hzj
  clear hzj
  have Hhown := Lib.hid hown
  clear hown
  replace hE := hE.fv hxw
  clear hxw
  go_upto_region 7 with (fail)
  clear d0 d1 d2 d3 d4 d5 t1
  obtain ⟨g1, hg1⟩ : ∃ g1, g1 = wr.heap.size := ⟨_, rfl⟩
  have hlw_g1 : w.heap.size ≤ g1 := by rw [hg1]; exact hE.bel.size
  have hown : ∀ q, v.ownBlock = some q → q < g1 := by rw [hg1]; exact Hhown.out
  replace hE := hE.blk 46 #[.int .i64 x.I, .bool x.w.s, .slice x.w.A x.w.n x.w.c, .bool x.w.t, .slice x.w.B x.w.m x.w.d, .int .i64 x.K] (g := g1) hg1.symm
  generalize wr.alloc (.cells #[.int .i64 x.I, .bool x.w.s, .slice x.w.A x.w.n x.w.c, .bool x.w.t, .slice x.w.B x.w.m x.w.d, .int .i64 x.K] 46) = W1 at hE ⊢
  rw [← hg1]
  clear hg1
  clear Hhown
  by_cases hji : j = i
  ·
   have u1 : (x.I != z) = false := by rw [bne_eq_false_iff_eq]; exact Hhzj.out.2 hji
   subst hji
   have hl := Lib.hid (skip_own j)
   have k2 := (hE.here.2).cell 0
   have k3 := (hE.here.2).cell 1
   have k4 := (hE.here.2).cell 2
   have k5 := (hE.here.2).cell 3
   have k6 := (hE.here.2).cell 4
   have k7 := (hE.here.2).cell 5
   have hown := Lib.hid hown
   go_wp2_with fail
   clear k2 k3 k4 k5 k6 k7
   go_roundw
   case rel => refine ⟨j + 1, h, v, by omega, rfl, by go_num, ?_⟩; rw [hl.out]; exact (((Env.again hE.bel).rwv (hE.h3)).fqs (hE.h2))
   case measure => simp [intOf]; omega
  have u1 : (x.I != z) = true := by rw [bne_iff_ne]; exact fun h => hji (Hhzj.out.1 h)
  obtain ⟨hs1, hs2⟩ := skip_len hji
  have Hhs1 := Lib.hid hs1
  clear hs1
  have Hhs2 := Lib.hid hs2
  clear hs2
  have Hhji := Lib.hid hji
  clear hji
  have hown := Lib.hid hown
  have k8 := (hE.here.2).cell 0
  have k9 := (hE.here.2).cell 1
  have k10 := (hE.here.2).cell 2
  have k11 := (hE.here.2).cell 3
  have k12 := (hE.here.2).cell 4
  have k13 := (hE.here.2).cell 5
  go_wp2_with fail
  clear k8 k9 k10 k11 k12 k13
  have hfv := hE.here.1.2
  refine (clone_v (hE.here.1.2).1 (by omega)).mono ?_
  rintro e w14 ⟨A1, c1, rfl, hnum, hb⟩
  have hnew := clone_num (hE.here.1.2) hb hnum
  replace hE := (hE.step hb).fv hnew
  clear hb hnum hnew hfv
  have x15 := (hE.here.1.2).cell 2
  have f15 := (hE.here.1.2).frozen 2
  replace hE := ((((((Env.again (hE.bel.setCell (p := ⟨g1, 2, none⟩) (by show w.heap.size ≤ g1; omega) (.slice A1 x.w.n c1))).rwv ((hE.h4).farN (fun q e => by have := hown.out q e; omega) (grownBy_setCellI _ _ 2 (.slice A1 x.w.n c1)))).fqs (FqS.grownB (hE.h3) (hE.here.1.2) rfl (grownBy_setCellI _ _ 2 (.slice A1 x.w.n c1)))).fv ((hE.h2).sep (i := 2) (hE.here.1.2) rfl (.slice A1 x.w.n c1))).blkI (show Blk 46 g1 #[.int .i64 x.I, .bool x.w.s, .slice A1 x.w.n c1, .bool x.w.t, .slice x.w.B x.w.m x.w.d, .int .i64 x.K] _ by simpa using (hE.here.1.2).set_ 2 (.slice A1 x.w.n c1))).fv ((hE.here.2).sep (i := 2) (hE.here.1.2) rfl (.slice A1 x.w.n c1)))
  go_upto_region 9 with (fail)
  clear x15 f15
  generalize w14.setCell ⟨g1, 2, none⟩ (.slice A1 x.w.n c1) = W15 at hE ⊢
  have k16 := (hE.here.1.2).cell 0
  have k17 := (hE.here.1.2).cell 1
  have k18 := (hE.here.1.2).cell 2
  have k19 := (hE.here.1.2).cell 3
  have k20 := (hE.here.1.2).cell 4
  have k21 := (hE.here.1.2).cell 5
  go_wp2_with fail
  clear k16 k17 k18 k19 k20 k21
  refine (clone_v (hE.here.2).2 (by omega)).mono ?_
  rintro e w22 ⟨B1, c3, rfl, hnum, hb⟩
  have hnew := clone_den (hE.here.2) hb hnum
  replace hE := (hE.step hb).fv hnew
  clear hb hnum hnew
  have x23 := (hE.h2).cell 4
  have f23 := (hE.h2).frozen 4
  replace hE := (((((((Env.again (hE.bel.setCell (p := ⟨g1, 4, none⟩) (by show w.heap.size ≤ g1; omega) (.slice B1 x.w.m c3))).rwv ((hE.h5).farN (fun q e => by have := hown.out q e; omega) (grownBy_setCellI _ _ 4 (.slice B1 x.w.m c3)))).fqs (FqS.grownB (hE.h4) (hE.h2) rfl (grownBy_setCellI _ _ 4 (.slice B1 x.w.m c3)))).fv ((hE.h3).sep (i := 4) (hE.h2) rfl (.slice B1 x.w.m c3))).blkI (show Blk 46 g1 #[.int .i64 x.I, .bool x.w.s, .slice A1 x.w.n c1, .bool x.w.t, .slice B1 x.w.m c3, .int .i64 x.K] _ by simpa using (hE.h2).set_ 4 (.slice B1 x.w.m c3))).fv ((hE.here.1.2).sep (i := 4) (hE.h2) rfl (.slice B1 x.w.m c3))).fv ((hE.here.2).sep (i := 4) (hE.h2) rfl (.slice B1 x.w.m c3)))
  go_upto_region 10 with (fail)
  clear x23 f23
  generalize w22.setCell ⟨g1, 4, none⟩ (.slice B1 x.w.m c3) = W23 at hE ⊢
  have hbA := belAlloc W23 (.cells #[.int .i64 x.I, .bool x.w.s, .slice A1 x.w.n c1, .bool x.w.t, .slice B1 x.w.m c3, .int .i64 x.K] 46)
  have hBn := Blk.new W23 46 #[.int .i64 x.I, .bool x.w.s, .slice A1 x.w.n c1, .bool x.w.t, .slice B1 x.w.m c3, .int .i64 x.K]
  have hE2 := hE.step hbA
  have hlj := lenW_le i j
  obtain ⟨v2, wz, hr, hR2, hgw⟩ := push_claim 22 (hE2.here.1.1.1.1.1.2) hE2.bel.size (⟨x.w.s, A1, x.w.n, c1, fun _ => 0, x.w.t, B1, x.w.m, c3, fun _ => 0⟩ : FH) (show Blk 46 _ (clL ((fun j => (r (skip i j)).I) (lenW i j)) ((fun j => Kz r (skip i j)) (lenW i j)) (⟨x.w.s, A1, x.w.n, c1, fun _ => 0, x.w.t, B1, x.w.m, c3, fun _ => 0⟩ : FH)).toArray _ from by show Blk _ _ (clL (r (skip i (lenW i j))).I (r (skip i (lenW i j))).K _).toArray _; rw [Hhs1.out, ← Hhx.out]; exact hBn) (by omega)
  have hq2 := (FqS.grownR (hE2.here.1.1.1.1.2) (hE2.here.1.1.1.1.1.2) hgw).push (x := (⟨x.w.s, A1, x.w.n, c1, fun _ => 0, x.w.t, B1, x.w.m, c3, fun _ => 0⟩ : FH)) (FV.grownR ((hE2.here.2).to (show pw = wq r (skip i (lenW i j)) by rw [Hhs1.out, Hhpw.out])) (hE2.here.1.1.1.1.1.2) hgw)
  have hE3 := ((Env.again (Go.Proofs.YtjgihmmeimfheaaGreat.Below.grownR hE2.bel (hE2.here.1.1.1.1.1.2) hgw (Nat.le_refl _) hE2.bel.size)).rwv hR2).fqs hq2
  have HF := Lib.hid hE3
  clear hbA hBn hE2 hlj hR2 hgw hq2 hE3
  have k24 := (hE.h2).cell 0
  have k25 := (hE.h2).cell 1
  have k26 := (hE.h2).cell 2
  have k27 := (hE.h2).cell 3
  have k28 := (hE.h2).cell 4
  have k29 := (hE.h2).cell 5
  go_wp2_with (first | refine wpList_appP hr rfl rfl rfl rfl ?_)
  clear k24 k25 k26 k27 k28 k29
  have hE3 := HF.out
  go_roundw
  case rel => refine ⟨j + 1, updF h (lenW i j) (⟨x.w.s, A1, x.w.n, c1, fun _ => 0, x.w.t, B1, x.w.m, c3, fun _ => 0⟩ : FH), v2, by omega, rfl, by go_num, ?_⟩; rw [Hhs2.out]; exact hE3
  case measure => simp [intOf]; omega
end Go.Proofs.YtjgihmmeimfheaaGreat
