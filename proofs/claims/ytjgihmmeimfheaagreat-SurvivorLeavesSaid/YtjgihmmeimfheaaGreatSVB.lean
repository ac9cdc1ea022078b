/-
  The laws' awake of layer 23: the examples of the chapter.
-/
import Derived.Test.YtjgihmmeimfheaaGreatK3
import Derived.Test.YtjgihmmeimfheaaGreatK18
import Derived.Test.YtjgihmmeimfheaaGreatSV8
import Derived.Test.YtjgihmmeimfheaaGreatSV9
import Derived.Test.YtjgihmmeimfheaaGreatSVZ
import Derived.Test.YtjgihmmeimfheaaGreatSvX
namespace Go.Proofs.YtjgihmmeimfheaaGreat
open Go.RowKit

def clS3 (x y z : Cl) (k : Nat) : Cl := if k = 0 then x else if k = 1 then y else z
/-- Three claims in a block. -/
theorem clm_three {g : Nat} {x y z : Cl} {W : World} (hB : Blk 46 g #[.int .i64 x.I, .bool x.w.s, .slice x.w.A x.w.n x.w.c, .bool x.w.t, .slice x.w.B x.w.m x.w.d, .int .i64 x.K, .int .i64 y.I, .bool y.w.s, .slice y.w.A y.w.n y.w.c, .bool y.w.t, .slice y.w.B y.w.m y.w.d, .int .i64 y.K, .int .i64 z.I, .bool z.w.s, .slice z.w.A z.w.n z.w.c, .bool z.w.t, .slice z.w.B z.w.m z.w.d, .int .i64 z.K] W) (hx : x.w.rd W) (hy : y.w.rd W) (hz : z.w.rd W) : ClM (some ⟨g, 0, none⟩) 3 (clS3 x y z) W := fun _ => by
 refine ⟨g, 0, rfl, hB.lt, fun k hk => ?_⟩
 rcases (show k = 0 ∨ k = 1 ∨ k = 2 by omega) with rfl | rfl | rfl
 · exact ⟨⟨hB.cell 0, hB.cell 1, hB.cell 2, hB.cell 3, hB.cell 4, hB.cell 5⟩, hx⟩
 · exact ⟨⟨hB.cell 6, hB.cell 7, hB.cell 8, hB.cell 9, hB.cell 10, hB.cell 11⟩, hy⟩
 · exact ⟨⟨hB.cell 12, hB.cell 13, hB.cell 14, hB.cell 15, hB.cell 16, hB.cell 17⟩, hz⟩
/-- A claim with a small weight. -/
theorem Cl.ok_of {q : Rat} {s t : Bool} {A B : Option Addr} {n m c d : Nat} {I K : Int} {W : World} (h : FV W q s A n t B m) (h0 : 0 ≤ q) (hl : fl q ≤ 4) (hK : 0 ≤ K ∧ K ≤ 1099511627776) : (Cl.mk I (FHof q s A n c t B m d) K).ok ∧ (FHof q s A n c t B m d).rd W ∧ (FHof q s A n c t B m d).q = q := by
 obtain ⟨l1, l2⟩ := h.ln hl
 have hs : s = false := by rw [h.1.sgn]; exact decide_eq_false (by have := Rat.num_nonneg.2 h0; omega)
 exact ⟨⟨⟨okF_of h (Nat.le_trans hl (by decide)), hs⟩, ⟨l1, l2⟩, hK⟩, h.rd, FHof.q_eq h⟩
theorem clok_three {x y z : Cl} (hx : x.ok) (hy : y.ok) (hz : z.ok) (h1 : x.I < y.I) (h2 : y.I < z.I) : ClOK 3 (clS3 x y z) := ⟨by decide, fun k hk => by
 rcases (show k = 0 ∨ k = 1 ∨ k = 2 by omega) with rfl | rfl | rfl
 · exact ⟨fun j hj => by omega, hx⟩
 · exact ⟨fun j hj => by obtain rfl : j = 0 := (by omega); exact h1, hy⟩
 · exact ⟨fun j hj => by obtain rfl : j = 1 := (by omega); exact h2, hz⟩⟩
/-- What three returns. -/
def ThreeP (w : World) (e : Ending) (w' : World) : Prop := ∃ g r, e = .returned (.slice (some ⟨g, 0, none⟩) 3 3) ∧ ClM (some ⟨g, 0, none⟩) 3 r w' ∧ ClOK 3 r ∧ ExA (wq r) (Kz r) ∧ Below w.heap.size w w'
def i3 (a b c : Int) (j : Nat) : List Value := [.int .i64 (if j = 0 then a else if j = 1 then b else c)]
theorem row3 {g cap : Nat} {p : Nat → Int} {W : World} {a b c : Int} (h : Rw 3 1 g 3 cap (fun j => [.int .i64 (p j)]) W) (hp : p 0 = a ∧ p 1 = b ∧ p 2 = c) : Rw 3 1 g 3 cap (i3 a b c) W := h.congr (fun k hk => by
 obtain ⟨h0, h1, h2⟩ := hp
 rcases (show k = 0 ∨ k = 1 ∨ k = 2 by omega) with rfl | rfl | rfl
 · show [Value.int .i64 (p 0)] = _; rw [h0]; rfl
 · show [Value.int .i64 (p 1)] = _; rw [h1]; rfl
 · show [Value.int .i64 (p 2)] = _; rw [h2]; rfl)
theorem clok_nil (r : Nat → Cl) : ClOK 0 r := ⟨by decide, fun k hk => absurd hk (Nat.not_lt_zero k)⟩
theorem clm_nil (A : Option Addr) (r : Nat → Cl) (W : World) : ClM A 0 r W := fun h => absurd h (Nat.lt_irrefl 0)
section
variable {A : Option Addr} {c : Nat} {r : Nat → Cl} {w : World}
theorem lev50 (hM : ClM A 3 r w) (hok : ClOK 3 r) (hx : ExA (wq r) (Kz r)) : Calls Tryz.prog 13 #[.int .i64 50, .slice A 3 c] w (FOK (Rat.divInt 40 3) w) :=
 (sLevel_v 50 (by decide) hM hok (by decide)).mono fun e w' ⟨t, hl, _, hf⟩ => by rw [← hx.t50 hl]; exact hf
theorem lev500 (hM : ClM A 3 r w) (hok : ClOK 3 r) (hx : ExA (wq r) (Kz r)) : Calls Tryz.prog 13 #[.int .i64 500, .slice A 3 c] w (FOK ((100 : Int) : Rat) w) :=
 (sLevel_v 500 (by decide) hM hok (by decide)).mono fun e w' ⟨t, hl, _, hf⟩ => by rw [show ((100 : Int) : Rat) = 100 from rfl, ← hx.t500 hl]; exact hf
theorem lev_nil (w : World) : Calls Tryz.prog 13 #[.int .i64 7, .slice none 0 0] w (FOK 0 w) :=
 (sLevel_v (r := fun _ => ⟨0, zFH, 0⟩) 7 (by decide) (clm_nil none _ w) (clok_nil _) (by decide)).mono fun e w' ⟨t, hl, _, hf⟩ => by
  have h0 : t = 0 := by
   refine hl.uniq ⟨Rat.le_refl, hl.2.1, fun s h1 h2 => ?_⟩
   exact absurd h1 (Rat.not_lt.2 h2)
  rw [← h0]; exact hf
theorem exa50 (hM : ClM A 3 r w) (hok : ClOK 3 r) (hx : ExA (wq r) (Kz r)) : Calls Tryz.prog 14 #[.int .i64 50, .slice A 3 c] w fun e w' => ∃ (g cap : Nat) (h : Nat → FH), e = .returned (.tuple #[.slice (some ⟨g, 0, none⟩) 3 cap, .int .i64 0]) ∧ Rw 29 4 g 3 cap (fun j => zqL (h j)) w' ∧ FV w' (Rat.divInt 80 3) (h 2).s (h 2).A (h 2).n (h 2).t (h 2).B (h 2).m ∧ Below w.heap.size w w' :=
 (sExact_v 50 (by decide) hM hok (by decide)).mono fun e w' ⟨t, g, cap, h, he, hl, _, _, hR, hq, hb⟩ => ⟨g, cap, h, he, hR, by
  have h2 := hq 2 (by decide)
  rw [hx.t50 hl, hx.x50.2.2] at h2
  exact h2, hb⟩
def Parts3 (a b c : Int) (w : World) (e : Ending) (w' : World) : Prop := ∃ g cap, e = .returned (.tuple #[.slice (some ⟨g, 0, none⟩) 3 cap, .int .i64 0]) ∧ Rw 3 1 g 3 cap (i3 a b c) w' ∧ Below w.heap.size w w'
theorem par50 (hM : ClM A 3 r w) (hok : ClOK 3 r) (hx : ExA (wq r) (Kz r)) : Calls Tryz.prog 15 #[.int .i64 50, .slice A 3 c] w (Parts3 13 10 27 w) :=
 (sparts_v 50 (by decide) hM hok (by decide)).mono fun e w' ⟨g, cap, p, t, he, ⟨hl, _, hq⟩, _, hR, hb⟩ => ⟨g, cap, he, row3 hR (hx.p50 hl hq), hb⟩
theorem par500 (hM : ClM A 3 r w) (hok : ClOK 3 r) (hx : ExA (wq r) (Kz r)) : Calls Tryz.prog 15 #[.int .i64 500, .slice A 3 c] w (Parts3 100 10 100 w) :=
 (sparts_v 500 (by decide) hM hok (by decide)).mono fun e w' ⟨g, cap, p, t, he, ⟨hl, _, hq⟩, _, hR, hb⟩ => ⟨g, cap, he, row3 hR (hx.p500 hl hq), hb⟩
theorem par2 (hM : ClM A 3 r w) (hok : ClOK 3 r) (hx : ExB (wq r) (Kz r)) : Calls Tryz.prog 15 #[.int .i64 2, .slice A 3 c] w (Parts3 1 1 0 w) :=
 (sparts_v 2 (by decide) hM hok (by decide)).mono fun e w' ⟨g, cap, p, t, he, ⟨hl, _, hq⟩, _, hR, hb⟩ => ⟨g, cap, he, row3 hR (hx.p2 hl hq), hb⟩
end
set_option linter.unusedSimpArgs false in
set_option maxRecDepth 100000 in
set_option maxHeartbeats 4000000 in
theorem three_v (w : World) :
  Calls Tryz.prog 30 #[] w (ThreeP w) := by
 have hE := Env.start w
 go_enter Tryz.func30, Tryz.ntmps30
 go_wp2_with fail
 refine hE.fr (rffromInt_v 1 _ (by decide) (by decide)) ?_
 clear hE
 intro sa Aa na ca ta Ba ma da w1 hE
 go_wp2_with fail
 refine hE.fr (rffromInt_v 1 _ (by decide) (by decide)) ?_
 clear hE
 intro sb Ab nb cb tb Bb mb db w2 hE
 go_wp2_with fail
 refine hE.fr (rffromInt_v 2 _ (by decide) (by decide)) ?_
 clear hE
 intro sf Af nf cf tf Bf mf df w3 hE
 go_wp2_with fail
 obtain ⟨g4, hg4⟩ : ∃ g4, g4 = w3.heap.size := ⟨_, rfl⟩
 replace hE := hE.blk 46 #[.int .i64 1, .bool sa, .slice Aa na ca, .bool ta, .slice Ba ma da, .int .i64 100, .int .i64 2, .bool sb, .slice Ab nb cb, .bool tb, .slice Bb mb db, .int .i64 10, .int .i64 5, .bool sf, .slice Af nf cf, .bool tf, .slice Bf mf df, .int .i64 100] (g := g4) hg4.symm
 generalize w3.alloc (.cells #[.int .i64 1, .bool sa, .slice Aa na ca, .bool ta, .slice Ba ma da, .int .i64 100, .int .i64 2, .bool sb, .slice Ab nb cb, .bool tb, .slice Bb mb db, .int .i64 10, .int .i64 5, .bool sf, .slice Af nf cf, .bool tf, .slice Bf mf df, .int .i64 100] 46) = W4 at hE ⊢
 rw [← hg4]
 clear hg4
 have ho0 := Cl.ok_of (c := ca) (d := da) (I := 1) (K := 100) (hE.h3) (by decide +kernel) (by rw [fl_le]; decide +kernel) (by decide)
 have ho1 := Cl.ok_of (c := cb) (d := db) (I := 2) (K := 10) (hE.h2) (by decide +kernel) (by rw [fl_le]; decide +kernel) (by decide)
 have ho2 := Cl.ok_of (c := cf) (d := df) (I := 5) (K := 100) (hE.here.1.2) (by decide +kernel) (by rw [fl_le]; decide +kernel) (by decide)
 have hcm := clm_three (x := ⟨1, (FHof ((1 : Int) : Rat) sa Aa na ca ta Ba ma da), 100⟩) (y := ⟨2, (FHof ((1 : Int) : Rat) sb Ab nb cb tb Bb mb db), 10⟩) (z := ⟨5, (FHof ((2 : Int) : Rat) sf Af nf cf tf Bf mf df), 100⟩) (hE.here.2) ho0.2.1 ho1.2.1 ho2.2.1
 have hco := clok_three ho0.1 ho1.1 ho2.1 (show (1 : Int) < 2 by decide) (show (2 : Int) < 5 by decide)
 have hex : ExA (wq (clS3 ⟨1, (FHof ((1 : Int) : Rat) sa Aa na ca ta Ba ma da), 100⟩ ⟨2, (FHof ((1 : Int) : Rat) sb Ab nb cb tb Bb mb db), 10⟩ ⟨5, (FHof ((2 : Int) : Rat) sf Af nf cf tf Bf mf df), 100⟩)) (Kz (clS3 ⟨1, (FHof ((1 : Int) : Rat) sa Aa na ca ta Ba ma da), 100⟩ ⟨2, (FHof ((1 : Int) : Rat) sb Ab nb cb tb Bb mb db), 10⟩ ⟨5, (FHof ((2 : Int) : Rat) sf Af nf cf tf Bf mf df), 100⟩)) := ⟨⟨ho0.2.2, ho1.2.2, ho2.2.2⟩, rfl, rfl, rfl⟩
 go_ret
 exact ⟨_, _, rfl, hcm, hco, hex, hE.bel⟩
set_option linter.unusedSimpArgs false in
set_option maxRecDepth 100000 in
set_option maxHeartbeats 4000000 in
theorem sameInts_t {g n cap g2 cap2 : Nat} {p : Nat → Int} {w : World} (hn9 : n ≤ 1000) (hA : Rw 3 1 g n cap (fun j => [.int .i64 (p j)]) w) (hB : Rw 3 1 g2 n cap2 (fun j => [.int .i64 (p j)]) w) :
  Calls Tryz.prog 39 #[.slice (some ⟨g, 0, none⟩) n cap, .slice (some ⟨g2, 0, none⟩) n cap2] w (fun e w' => e = .returned (.bool true) ∧ Below w.heap.size w w') := by
 have hE := ((Env.start w).rwr hA).rwr hB
 go_enter Tryz.func39, Tryz.ntmps39
 go_wp2_with fail
 go_loopw [5] (fun x wr => ∃ k : Nat, k ≤ n ∧ x = .int .i64 (k : Int) ∧ Env w (fun V => ((True ∧ Rw 3 1 g n cap (fun j => [.int .i64 (p j)]) V) ∧ Rw 3 1 g2 n cap2 (fun j => [.int .i64 (p j)]) V)) wr) (fun x _ => n - (intOf x).toNat)
 case atStart => exact ⟨0, Nat.zero_le _, rfl, hE⟩
 case round =>
  clear hE
  obtain ⟨k, hk, rfl, hE⟩ := hrel
  by_cases hlt : k < n
  rotate_left
  ·
   obtain rfl : k = n := by omega
   have t1 : decide ((k : Int) < (k : Int)) = false := decide_eq_false (by omega)
   go_wp2_with fail
   go_ret
   exact ⟨rfl, hE.bel⟩
  have t1 : decide ((k : Int) < (n : Int)) = true := decide_eq_true (by omega)
  have t2 : (k : Int) < (n : Int) := by omega
  obtain ⟨z, hz⟩ : ∃ z, z = p k := ⟨_, rfl⟩
  have Hhz := Lib.hid hz
  clear hz
  go_upto_region 6 with (fail)
  clear t1
  replace hE := hE.drew
  refine wp_region_held_drew (S := fun V => Rw 3 1 g n cap (fun j => [.int .i64 (p j)]) V ∧ Rw 3 1 g2 n cap2 (fun j => [.int .i64 (p j)]) V) (by kernel_rfl) (⟨hE.here.1.2, hE.here.2⟩) (fun hHeld => ?_)
  generalize wr.drew = wd at *
  refine tk 0 ?_
  try simp only [PL]
  refine tk 1 ?_
  try simp only [PL]
  refine tk 2 ?_
  try simp only [PL]
  refine wpAnyH_take (i := 3) (v := ?v1_3_4) rfl (by kernel_rfl) (by kernel_rfl) (by kernel_rfl) (fun _ _ _ h => h) (Or.inl ⟨by rfl, ?hy1_3_4⟩) (by assumption) ?rest1_3_4
  case hy1_3_4 =>
   intro w hSw
   have kc := Rw.cell hSw.1 (k := k) (i := 0) (o := k) (v := .int .i64 z) hlt (by decide) (by omega) (by rw [Hhz.out]; rfl)
   clear hSw
   first | (go_simp; done) | (go_simp; with_reducible rfl)
  try simp only [PL]
  refine tk 4 ?_
  try simp only [PL]
  refine tk 5 ?_
  try simp only [PL]
  refine tk 6 ?_
  try simp only [PL]
  refine wpAnyH_take (i := 7) (v := ?v1_7_8) rfl (by kernel_rfl) (by kernel_rfl) (by kernel_rfl) (fun _ _ _ h => h) (Or.inl ⟨by rfl, ?hy1_7_8⟩) (by assumption) ?rest1_7_8
  case hy1_7_8 =>
   intro w hSw
   have kc := Rw.cell hSw.2 (k := k) (i := 0) (o := k) (v := .int .i64 z) hlt (by decide) (by omega) (by rw [Hhz.out]; rfl)
   clear hSw
   first | (go_simp; done) | (go_simp; with_reducible rfl)
  try simp only [PL]
  refine tk 8 ?_
  try simp only [PL]
  refine wpAnyH_done (by kernel_rfl) ?_ _
  go_wp2_with fail
  go_roundw
  case rel => exact ⟨k + 1, by omega, by go_num, hE⟩
  case measure => simp [intOf]; omega
theorem blk3_row {g : Nat} {a b c : Int} {W : World} (h : Blk 3 g #[.int .i64 a, .int .i64 b, .int .i64 c] W) : Rw 3 1 g 3 3 (i3 a b c) W :=
 ⟨Nat.le_refl _, by decide, _, h, rfl, fun i v hv => by
  rcases i with _ | _ | _ | i
  · cases hv; rfl
  · cases hv; rfl
  · cases hv; rfl
  · simp at hv, fun k hk i hi => by
  obtain rfl : i = 0 := by omega
  rcases (show k = 0 ∨ k = 1 ∨ k = 2 by omega) with rfl | rfl | rfl <;> rfl⟩
set_option linter.unusedSimpArgs false in
set_option maxRecDepth 100000 in
set_option maxHeartbeats 8000000 in
theorem awake_v (w : World) :
  Calls Tryz.prog 11 #[] w (fun e w' => e = .returned (.bool true) ∧ Below w.heap.size w w') := by
 have hE := Env.start w
 go_enter Tryz.func11, Tryz.ntmps11
 go_wp2_with fail
 refine (three_v _).mono ?_
 rintro e w1 ⟨g_, r_, rfl, hcm, hco, hex, hb⟩
 replace hE := hE.step hb
 clear hb
 go_wp2_with fail
 refine hE.fr (lev50 hcm hco hex) ?_
 clear hE
 intro sq Aq nq cq tq Bq mq dq w2 hE
 clear hcm hco hex
 go_upto_region 2 with (fail)
 obtain ⟨g3, hg3⟩ : ∃ g3, g3 = w2.heap.size := ⟨_, rfl⟩
 replace hE := hE.blk 29 #[.bool sq, .slice Aq nq cq, .bool tq, .slice Bq mq dq] (g := g3) hg3.symm
 generalize w2.alloc (.cells #[.bool sq, .slice Aq nq cq, .bool tq, .slice Bq mq dq] 29) = W3 at hE ⊢
 rw [← hg3]
 clear hg3
 go_wp2_with fail
 refine (three_v _).mono ?_
 rintro e w4 ⟨g_, r_, rfl, hcm, hco, hex, hb⟩
 replace hE := hE.step hb
 clear hb
 go_wp2_with fail
 refine (exa50 hcm hco hex).mono ?_
 rintro e w5 ⟨gx, cx, hx, rfl, hRx, hq2, hb⟩
 replace hE := ((hE.step hb).rwr hRx).fv hq2
 clear hb hRx hq2 hcm hco hex
 go_wp2_with fail
 refine (three_v _).mono ?_
 rintro e w6 ⟨g_, r_, rfl, hcm, hco, hex, hb⟩
 replace hE := hE.step hb
 clear hb
 go_wp2_with fail
 refine (par50 hcm hco hex).mono ?_
 rintro e w7 ⟨gp, cgp, rfl, hRi, hb⟩
 replace hE := (hE.step hb).rwr hRi
 clear hb hRi hcm hco hex
 go_wp2_with fail
 refine hE.fr (rffromInt_v 1 _ (by decide) (by decide)) ?_
 clear hE
 intro sa Aa na ca ta Ba ma da w8 hE
 go_wp2_with fail
 refine hE.fr (rffromInt_v 1 _ (by decide) (by decide)) ?_
 clear hE
 intro sb Ab nb cb tb Bb mb db w9 hE
 go_wp2_with fail
 refine hE.fr (rffromInt_v 1 _ (by decide) (by decide)) ?_
 clear hE
 intro sf Af nf cf tf Bf mf df w10 hE
 go_upto_region 5 with (fail)
 obtain ⟨g11, hg11⟩ : ∃ g11, g11 = w10.heap.size := ⟨_, rfl⟩
 have hl11_1 : g3 < g11 := by rw [hg11]; exact (hE.h6).lt
 replace hE := hE.blk 46 #[.int .i64 1, .bool sa, .slice Aa na ca, .bool ta, .slice Ba ma da, .int .i64 9, .int .i64 2, .bool sb, .slice Ab nb cb, .bool tb, .slice Bb mb db, .int .i64 9, .int .i64 3, .bool sf, .slice Af nf cf, .bool tf, .slice Bf mf df, .int .i64 9] (g := g11) hg11.symm
 generalize w10.alloc (.cells #[.int .i64 1, .bool sa, .slice Aa na ca, .bool ta, .slice Ba ma da, .int .i64 9, .int .i64 2, .bool sb, .slice Ab nb cb, .bool tb, .slice Bb mb db, .int .i64 9, .int .i64 3, .bool sf, .slice Af nf cf, .bool tf, .slice Bf mf df, .int .i64 9] 46) = W11 at hE ⊢
 rw [← hg11]
 clear hg11
 have ho0 := Cl.ok_of (c := ca) (d := da) (I := 1) (K := 9) (hE.h3) (by decide +kernel) (by rw [fl_le]; decide +kernel) (by decide)
 have ho1 := Cl.ok_of (c := cb) (d := db) (I := 2) (K := 9) (hE.h2) (by decide +kernel) (by rw [fl_le]; decide +kernel) (by decide)
 have ho2 := Cl.ok_of (c := cf) (d := df) (I := 3) (K := 9) (hE.here.1.2) (by decide +kernel) (by rw [fl_le]; decide +kernel) (by decide)
 have hcm := clm_three (x := ⟨1, (FHof ((1 : Int) : Rat) sa Aa na ca ta Ba ma da), 9⟩) (y := ⟨2, (FHof ((1 : Int) : Rat) sb Ab nb cb tb Bb mb db), 9⟩) (z := ⟨3, (FHof ((1 : Int) : Rat) sf Af nf cf tf Bf mf df), 9⟩) (hE.here.2) ho0.2.1 ho1.2.1 ho2.2.1
 have hco := clok_three ho0.1 ho1.1 ho2.1 (show (1 : Int) < 2 by decide) (show (2 : Int) < 3 by decide)
 have hex : ExB (wq (clS3 ⟨1, (FHof ((1 : Int) : Rat) sa Aa na ca ta Ba ma da), 9⟩ ⟨2, (FHof ((1 : Int) : Rat) sb Ab nb cb tb Bb mb db), 9⟩ ⟨3, (FHof ((1 : Int) : Rat) sf Af nf cf tf Bf mf df), 9⟩)) (Kz (clS3 ⟨1, (FHof ((1 : Int) : Rat) sa Aa na ca ta Ba ma da), 9⟩ ⟨2, (FHof ((1 : Int) : Rat) sb Ab nb cb tb Bb mb db), 9⟩ ⟨3, (FHof ((1 : Int) : Rat) sf Af nf cf tf Bf mf df), 9⟩)) := ⟨⟨ho0.2.2, ho1.2.2, ho2.2.2⟩, rfl, rfl, rfl⟩
 clear ho0 ho1 ho2
 go_wp2_with fail
 refine (par2 hcm hco hex).mono ?_
 rintro e w12 ⟨gr, cgr, rfl, hRi, hb⟩
 replace hE := (hE.step hb).rwr hRi
 clear hb hRi hcm hco hex
 go_wp2_with fail
 refine (three_v _).mono ?_
 rintro e w13 ⟨g_, r_, rfl, hcm, hco, hex, hb⟩
 replace hE := hE.step hb
 clear hb
 go_wp2_with fail
 refine (par500 hcm hco hex).mono ?_
 rintro e w14 ⟨gs, cgs, rfl, hRi, hb⟩
 replace hE := (hE.step hb).rwr hRi
 clear hb hRi hcm hco hex
 go_wp2_with fail
 refine (three_v _).mono ?_
 rintro e w15 ⟨g_, r_, rfl, hcm, hco, hex, hb⟩
 replace hE := hE.step hb
 clear hb
 go_wp2_with fail
 refine hE.fr (lev500 hcm hco hex) ?_
 clear hE
 intro sv Av nv cv tv Bv mv dv w16 hE
 clear hcm hco hex
 go_upto_region 8 with (fail)
 obtain ⟨g17, hg17⟩ : ∃ g17, g17 = w16.heap.size := ⟨_, rfl⟩
 have hl17_1 : g3 < g17 := by rw [hg17]; exact (hE.h10).lt
 have hl17_8 : g11 < g17 := by rw [hg17]; exact (hE.h3).lt
 replace hE := hE.blk 29 #[.bool sv, .slice Av nv cv, .bool tv, .slice Bv mv dv] (g := g17) hg17.symm
 generalize w16.alloc (.cells #[.bool sv, .slice Av nv cv, .bool tv, .slice Bv mv dv] 29) = W17 at hE ⊢
 rw [← hg17]
 clear hg17
 go_wp2_with fail
 refine hE.fr (lev_nil _) ?_
 clear hE
 intro sz Az nz cz tz Bz mz dz w18 hE
 go_upto_region 9 with (fail)
 obtain ⟨g19, hg19⟩ : ∃ g19, g19 = w18.heap.size := ⟨_, rfl⟩
 have hl19_1 : g3 < g19 := by rw [hg19]; exact (hE.h12).lt
 have hl19_8 : g11 < g19 := by rw [hg19]; exact (hE.h5).lt
 have hl19_12 : g17 < g19 := by rw [hg19]; exact (hE.here.1.2).lt
 replace hE := hE.blk 29 #[.bool sz, .slice Az nz cz, .bool tz, .slice Bz mz dz] (g := g19) hg19.symm
 generalize w18.alloc (.cells #[.bool sz, .slice Az nz cz, .bool tz, .slice Bz mz dz] 29) = W19 at hE ⊢
 rw [← hg19]
 clear hg19
 go_upto_region 11 with (fail)
 replace hE := hE.drew
 refine wp_region_held_drew (S := fun V => Blk 29 (g3) #[.bool sq, .slice Aq nq cq, .bool tq, .slice Bq mq dq] V ∧ Rw 29 4 gx 3 cx (fun j => zqL (hx j)) V ∧ Blk 29 (g17) #[.bool sv, .slice Av nv cv, .bool tv, .slice Bv mv dv] V ∧ Blk 29 (g19) #[.bool sz, .slice Az nz cz, .bool tz, .slice Bz mz dz] V) (by kernel_rfl) (⟨hE.h13, hE.h12, hE.h2, hE.here.2⟩) (fun hHeld => ?_)
 generalize W19.drew = wd at *
 refine wpAnyH_take (i := 0) (v := ?v2_0_1) rfl (by kernel_rfl) (by kernel_rfl) (by kernel_rfl) (fun _ _ _ h => h) (Or.inl ⟨by rfl, ?hy2_0_1⟩) (by assumption) ?rest2_0_1
 case hy2_0_1 =>
  intro w hSw
  have kc0 := (hSw.1).cell 0
  have kc1 := (hSw.1).cell 1
  have kc2 := (hSw.1).cell 2
  have kc3 := (hSw.1).cell 3
  clear hSw
  first | (go_simp; done) | (go_simp; with_reducible rfl)
 try simp only [PL]
 refine r1 1 (fun K hK => ?_)
 go_simp
 refine hE.fr (rquick_v 40 3 _ (by decide) (by decide) (by decide) (by decide) (by decide)) ?_
 clear hE
 intro sg Ag ng cg tg Bg mg dg w20 hE
 go_wp2_with fail
 refine hK.out _ _ (⟨hE.h14, hE.h13, hE.h3, hE.here.1.2⟩) (fun hHeld => ?_)
 clear hK K
 try simp only [PL]
 refine r1 2 (fun K hK => ?_)
 go_simp
 have hl1 := (hE.h15).ln (k := 1000000) (by rw [fl_le]; decide +kernel)
 have hl2 := (hE.here.2).ln (k := 1000000) (by rw [fl_le]; decide +kernel)
 have hc := frsame_v (ca := cq) (da := dq) (cb := cg) (db := dg) (hE.h15) (hE.here.2) hl1.1 hl1.2 hl2.1 hl2.2
 rw [decide_eq_true rfl] at hc
 refine hE.br (hc) ?_
 clear hE
 intro w21 hE
 clear hc hl1 hl2
 go_wp2_with fail
 refine hK.out _ _ (⟨hE.h14, hE.h13, hE.h3, hE.here.1.2⟩) (fun hHeld => ?_)
 clear hK K
 try simp only [PL]
 refine tk 3 ?_
 try simp only [PL]
 refine tk 4 ?_
 try simp only [PL]
 refine tk 5 ?_
 try simp only [PL]
 refine tk 6 ?_
 try simp only [PL]
 refine tk 7 ?_
 try simp only [PL]
 refine tk 8 ?_
 try simp only [PL]
 refine tk 9 ?_
 try simp only [PL]
 refine tk 10 ?_
 try simp only [PL]
 refine tk 11 ?_
 try simp only [PL]
 refine wpAnyH_take (i := 12) (v := ?v2_12_11) rfl (by kernel_rfl) (by kernel_rfl) (by kernel_rfl) (fun _ _ _ h => h) (Or.inl ⟨by rfl, ?hy2_12_11⟩) (by assumption) ?rest2_12_11
 case hy2_12_11 =>
  intro w hSw
  have kc0 := Rw.cell hSw.2.1 (k := 2) (i := 0) (o := 8) (v := .bool (hx 2).s) (by decide) (by decide) (by decide) rfl
  have kc1 := Rw.cell hSw.2.1 (k := 2) (i := 1) (o := 9) (v := .slice (hx 2).A (hx 2).n (hx 2).c) (by decide) (by decide) (by decide) rfl
  have kc2 := Rw.cell hSw.2.1 (k := 2) (i := 2) (o := 10) (v := .bool (hx 2).t) (by decide) (by decide) (by decide) rfl
  have kc3 := Rw.cell hSw.2.1 (k := 2) (i := 3) (o := 11) (v := .slice (hx 2).B (hx 2).m (hx 2).d) (by decide) (by decide) (by decide) rfl
  clear hSw
  first | (go_simp; done) | (go_simp; with_reducible rfl)
 try simp only [PL]
 refine r1 13 (fun K hK => ?_)
 go_simp
 refine hE.fr (rquick_v 80 3 _ (by decide) (by decide) (by decide) (by decide) (by decide)) ?_
 clear hE
 intro sh Ah nh ch th Bh mh dh w22 hE
 go_wp2_with fail
 refine hK.out _ _ (⟨hE.h15, hE.h14, hE.h4, hE.h2⟩) (fun hHeld => ?_)
 clear hK K
 try simp only [PL]
 refine r1 14 (fun K hK => ?_)
 go_simp
 have hl1 := (hE.h13).ln (k := 1000000) (by rw [fl_le]; decide +kernel)
 have hl2 := (hE.here.2).ln (k := 1000000) (by rw [fl_le]; decide +kernel)
 have hc := frsame_v (ca := (hx 2).c) (da := (hx 2).d) (cb := ch) (db := dh) (hE.h13) (hE.here.2) hl1.1 hl1.2 hl2.1 hl2.2
 rw [decide_eq_true rfl] at hc
 refine hE.br (hc) ?_
 clear hE
 intro w23 hE
 clear hc hl1 hl2
 go_wp2_with fail
 refine hK.out _ _ (⟨hE.h15, hE.h14, hE.h4, hE.h2⟩) (fun hHeld => ?_)
 clear hK K
 try simp only [PL]
 refine tk 15 ?_
 try simp only [PL]
 refine tk 16 ?_
 try simp only [PL]
 refine tk 17 ?_
 try simp only [PL]
 refine wpAnyH_take (i := 18) (v := ?v2_18_15) rfl (by kernel_rfl) (by kernel_rfl) (by kernel_rfl) (fun _ _ _ h => h) (Or.inl ⟨by rfl, ?hy2_18_15⟩) (by assumption) ?rest2_18_15
 case hy2_18_15 =>
  intro w hSw
  have kc0 := (hSw.2.2.1).cell 0
  have kc1 := (hSw.2.2.1).cell 1
  have kc2 := (hSw.2.2.1).cell 2
  have kc3 := (hSw.2.2.1).cell 3
  clear hSw
  first | (go_simp; done) | (go_simp; with_reducible rfl)
 try simp only [PL]
 refine r1 19 (fun K hK => ?_)
 go_simp
 refine hE.fr (rffromInt_v 100 _ (by decide) (by decide)) ?_
 clear hE
 intro sy Ay ny cy ty By my dy w24 hE
 go_wp2_with fail
 refine hK.out _ _ (⟨hE.h16, hE.h15, hE.h5, hE.h3⟩) (fun hHeld => ?_)
 clear hK K
 try simp only [PL]
 refine r1 20 (fun K hK => ?_)
 go_simp
 have hl1 := (hE.h6).ln (k := 1000000) (by rw [fl_le]; decide +kernel)
 have hl2 := (hE.here.2).ln (k := 1000000) (by rw [fl_le]; decide +kernel)
 have hc := frsame_v (ca := cv) (da := dv) (cb := cy) (db := dy) (hE.h6) (hE.here.2) hl1.1 hl1.2 hl2.1 hl2.2
 rw [decide_eq_true rfl] at hc
 refine hE.br (hc) ?_
 clear hE
 intro w25 hE
 clear hc hl1 hl2
 go_wp2_with fail
 refine hK.out _ _ (⟨hE.h16, hE.h15, hE.h5, hE.h3⟩) (fun hHeld => ?_)
 clear hK K
 try simp only [PL]
 refine tk 21 ?_
 try simp only [PL]
 refine tk 22 ?_
 try simp only [PL]
 refine tk 23 ?_
 try simp only [PL]
 refine wpAnyH_take (i := 24) (v := ?v2_24_19) rfl (by kernel_rfl) (by kernel_rfl) (by kernel_rfl) (fun _ _ _ h => h) (Or.inl ⟨by rfl, ?hy2_24_19⟩) (by assumption) ?rest2_24_19
 case hy2_24_19 =>
  intro w hSw
  have kc0 := (hSw.2.2.2).cell 0
  have kc1 := (hSw.2.2.2).cell 1
  have kc2 := (hSw.2.2.2).cell 2
  have kc3 := (hSw.2.2.2).cell 3
  clear hSw
  first | (go_simp; done) | (go_simp; with_reducible rfl)
 try simp only [PL]
 refine r1 25 (fun K hK => ?_)
 go_simp
 have hc := rfzero_v (ca := cz) (da := dz) (hE.h4)
 rw [decide_eq_true (show (0 : Rat).num = 0 from rfl)] at hc
 refine hE.br (hc) ?_
 clear hE
 intro w26 hE
 clear hc
 go_wp2_with fail
 refine hK.out _ _ (⟨hE.h16, hE.h15, hE.h5, hE.h3⟩) (fun hHeld => ?_)
 clear hK K
 try simp only [PL]
 refine tk 26 ?_
 try simp only [PL]
 refine tk 27 ?_
 try simp only [PL]
 refine wpAnyH_done (by kernel_rfl) ?_ _
 go_wp2_with fail
 obtain ⟨g27, hg27⟩ : ∃ g27, g27 = w26.heap.size := ⟨_, rfl⟩
 have hl27_1 : g3 < g27 := by rw [hg27]; exact (hE.h16).lt
 have hl27_8 : g11 < g27 := by rw [hg27]; exact (hE.h9).lt
 have hl27_12 : g17 < g27 := by rw [hg27]; exact (hE.h5).lt
 have hl27_14 : g19 < g27 := by rw [hg27]; exact (hE.h3).lt
 replace hE := hE.blk 3 #[.int .i64 13, .int .i64 10, .int .i64 27] (g := g27) hg27.symm
 generalize w26.alloc (.cells #[.int .i64 13, .int .i64 10, .int .i64 27] 3) = W27 at hE ⊢
 rw [← hg27]
 clear hg27
 refine hE.br (sameInts_t (hn9 := by decide) (p := fun j => if j = 0 then 13 else if j = 1 then 10 else 27) (hE.h14) (blk3_row (hE.here.2))) ?_
 clear hE
 intro w28 hE
 go_wp2_with fail
 obtain ⟨g29, hg29⟩ : ∃ g29, g29 = w28.heap.size := ⟨_, rfl⟩
 have hl29_1 : g3 < g29 := by rw [hg29]; exact (hE.h17).lt
 have hl29_8 : g11 < g29 := by rw [hg29]; exact (hE.h10).lt
 have hl29_12 : g17 < g29 := by rw [hg29]; exact (hE.h6).lt
 have hl29_14 : g19 < g29 := by rw [hg29]; exact (hE.h4).lt
 have hl29_18 : g27 < g29 := by rw [hg29]; exact (hE.here.2).lt
 replace hE := hE.blk 3 #[.int .i64 1, .int .i64 1, .int .i64 0] (g := g29) hg29.symm
 generalize w28.alloc (.cells #[.int .i64 1, .int .i64 1, .int .i64 0] 3) = W29 at hE ⊢
 rw [← hg29]
 clear hg29
 refine hE.br (sameInts_t (hn9 := by decide) (p := fun j => if j = 0 then 1 else if j = 1 then 1 else 0) (hE.h10) (blk3_row (hE.here.2))) ?_
 clear hE
 intro w30 hE
 go_wp2_with fail
 obtain ⟨g31, hg31⟩ : ∃ g31, g31 = w30.heap.size := ⟨_, rfl⟩
 have hl31_1 : g3 < g31 := by rw [hg31]; exact (hE.h18).lt
 have hl31_8 : g11 < g31 := by rw [hg31]; exact (hE.h11).lt
 have hl31_12 : g17 < g31 := by rw [hg31]; exact (hE.h7).lt
 have hl31_14 : g19 < g31 := by rw [hg31]; exact (hE.h5).lt
 have hl31_18 : g27 < g31 := by rw [hg31]; exact (hE.here.1.2).lt
 have hl31_19 : g29 < g31 := by rw [hg31]; exact (hE.here.2).lt
 replace hE := hE.blk 3 #[.int .i64 100, .int .i64 10, .int .i64 100] (g := g31) hg31.symm
 generalize w30.alloc (.cells #[.int .i64 100, .int .i64 10, .int .i64 100] 3) = W31 at hE ⊢
 rw [← hg31]
 clear hg31
 refine hE.br (sameInts_t (hn9 := by decide) (p := fun j => if j = 0 then 100 else if j = 1 then 10 else 100) (hE.h10) (blk3_row (hE.here.2))) ?_
 clear hE
 intro w32 hE
 go_wp2_with fail
 go_ret
 exact ⟨rfl, hE.bel⟩
end Go.Proofs.YtjgihmmeimfheaaGreat
