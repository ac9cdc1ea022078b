/-
  Several texts in one: The laws' awake of layer 23: the examples of the chapter. A list of claims that is built by appending. The laws' large and plain: lists of claims for the reference. The reference's Valid of fractions, as in the law of fractions. The walk of survivor.Without. The walk of the reference's Total. The walk of the reference's part. When a claim leaves, no other claim gets less. The reference's level: rounds in which claims become full. The walks of the kit's copies of limbs, wholes and fractions. The walk of the kit's copy of a whole. The walk of the kit's copy of a fraction.
-/
import Derived.Test.YtjgihmmeimfheaaGreatK3
import Derived.Test.YtjgihmmeimfheaaGreatK8
import Derived.Test.YtjgihmmeimfheaaGreatK20
import Derived.Test.YtjgihmmeimfheaaGreatK19
import Derived.Test.YtjgihmmeimfheaaGreatK13
import Derived.Test.YtjgihmmeimfheaaGreatK12
import Derived.Test.YtjgihmmeimfheaaGreatK14
import Derived.Test.YtjgihmmeimfheaaGreatK1
set_option linter.unusedSimpArgs false
set_option maxRecDepth 100000
set_option maxHeartbeats 8000000
namespace Go.Proofs.YtjgihmmeimfheaaGreat
section
open Go.RowKit

def clS3 (x y z : Cl) (k : Nat) : Cl := if k = 0 then x else if k = 1 then y else z
theorem clm_three {g : Nat} {x y z : Cl} {W : World} (hB : Blk 46 g #[.int .i64 x.I, .bool x.w.s, .slice x.w.A x.w.n x.w.c, .bool x.w.t, .slice x.w.B x.w.m x.w.d, .int .i64 x.K, .int .i64 y.I, .bool y.w.s, .slice y.w.A y.w.n y.w.c, .bool y.w.t, .slice y.w.B y.w.m y.w.d, .int .i64 y.K, .int .i64 z.I, .bool z.w.s, .slice z.w.A z.w.n z.w.c, .bool z.w.t, .slice z.w.B z.w.m z.w.d, .int .i64 z.K] W) (hx : x.w.rd W) (hy : y.w.rd W) (hz : z.w.rd W) : ClM (some ⟨g, 0, none⟩) 3 (clS3 x y z) W := fun _ => by
 refine ⟨g, 0, rfl, hB.lt, fun k hk => ?_⟩
 rcases (show k = 0 ∨ k = 1 ∨ k = 2 by omega) with rfl | rfl | rfl
 · exact ⟨⟨hB.cell 0, hB.cell 1, hB.cell 2, hB.cell 3, hB.cell 4, hB.cell 5⟩, hx⟩
 · exact ⟨⟨hB.cell 6, hB.cell 7, hB.cell 8, hB.cell 9, hB.cell 10, hB.cell 11⟩, hy⟩
 · exact ⟨⟨hB.cell 12, hB.cell 13, hB.cell 14, hB.cell 15, hB.cell 16, hB.cell 17⟩, hz⟩
theorem Cl.ok_of {q : Rat} {s t : Bool} {A B : Option Addr} {n m c d : Nat} {I K : Int} {W : World} (h : FV W q s A n t B m) (h0 : 0 ≤ q) (hl : fl q ≤ 4) (hK : 0 ≤ K ∧ K ≤ 1099511627776) : (Cl.mk I (FHof q s A n c t B m d) K).ok ∧ (FHof q s A n c t B m d).rd W ∧ (FHof q s A n c t B m d).q = q := by
 obtain ⟨l1, l2⟩ := h.ln hl
 have hs : s = false := by rw [h.1.sgn]; exact decide_eq_false (by have := Rat.num_nonneg.2 h0; omega)
 exact ⟨⟨⟨okF_of h (Nat.le_trans hl (by decide)), hs⟩, ⟨l1, l2⟩, hK⟩, h.rd, FHof.q_eq h⟩
theorem clok_three {x y z : Cl} (hx : x.ok) (hy : y.ok) (hz : z.ok) (h1 : x.I < y.I) (h2 : y.I < z.I) : ClOK 3 (clS3 x y z) := ⟨by decide, fun k hk => by
 rcases (show k = 0 ∨ k = 1 ∨ k = 2 by omega) with rfl | rfl | rfl
 · exact ⟨fun j hj => by omega, hx⟩
 · exact ⟨fun j hj => by obtain rfl : j = 0 := (by omega); exact h1, hy⟩
 · exact ⟨fun j hj => by obtain rfl : j = 1 := (by omega); exact h2, hz⟩⟩
def ThreeP (w : World) (e : Ending) (w' : World) : Prop := ∃ g r, e = .returned (.slice (some ⟨g, 0, none⟩) 3 3) ∧ ClM (some ⟨g, 0, none⟩) 3 r w' ∧ ClOK 3 r ∧ ExA (wq r) (Kz r) ∧ Below w.heap.size w w'
def i3 (a b c : Int) (j : Nat) : List Value := [.int .i64 (if j = 0 then a else if j = 1 then b else c)]
theorem row3 {g cap : Nat} {p : Nat → Int} {W : World} {a b c : Int} (h : Rw 3 1 g 3 cap (fun j => [.int .i64 (p j)]) W) (hp : p 0 = a ∧ p 1 = b ∧ p 2 = c) : Rw 3 1 g 3 cap (i3 a b c) W := h.congr (fun k hk => by
 obtain ⟨h0, h1, h2⟩ := hp
 rcases (show k = 0 ∨ k = 1 ∨ k = 2 by omega) with rfl | rfl | rfl
 · show [Value.int .i64 (p 0)] = _; rw [h0]; rfl
 · show [Value.int .i64 (p 1)] = _; rw [h1]; rfl
 · show [Value.int .i64 (p 2)] = _; rw [h2]; rfl)
theorem clok_nil (r : Nat → Cl) : ClOK 0 r := ⟨by decide, fun k hk => absurd hk (Nat.not_lt_zero k)⟩
theorem clm_nil (A : Option Addr) (r : Nat → Cl) (W : World) : ClM A 0 r W := fun h => absurd h (Nat.lt_irrefl 0)
section
variable {A : Option Addr} {c : Nat} {r : Nat → Cl} {w : World}
theorem lev50 (hM : ClM A 3 r w) (hok : ClOK 3 r) (hx : ExA (wq r) (Kz r)) : Calls Tryz.prog 13 #[.int .i64 50, .slice A 3 c] w (FOK (Rat.divInt 40 3) w) :=
 (sLevel_v 50 (by decide) hM hok (by decide) (SzR.ten (by decide) hok hM)).mono fun e w' ⟨t, hl, _, hf⟩ => by rw [← hx.t50 hl]; exact hf
theorem lev500 (hM : ClM A 3 r w) (hok : ClOK 3 r) (hx : ExA (wq r) (Kz r)) : Calls Tryz.prog 13 #[.int .i64 500, .slice A 3 c] w (FOK ((100 : Int) : Rat) w) :=
 (sLevel_v 500 (by decide) hM hok (by decide) (SzR.ten (by decide) hok hM)).mono fun e w' ⟨t, hl, _, hf⟩ => by rw [show ((100 : Int) : Rat) = 100 from rfl, ← hx.t500 hl]; exact hf
theorem lev_nil (w : World) : Calls Tryz.prog 13 #[.int .i64 7, .slice none 0 0] w (FOK 0 w) :=
 (sLevel_v (r := fun _ => ⟨0, zFH, 0⟩) 7 (by decide) (clm_nil none _ w) (clok_nil _) (by decide) ⟨szd_ten (by decide) (fun k hk => absurd hk (Nat.not_lt_zero k)), .inl (by decide)⟩).mono fun e w' ⟨t, hl, _, hf⟩ => by
  have h0 : t = 0 := by
   refine hl.uniq ⟨Rat.le_refl, hl.2.1, fun s h1 h2 => ?_⟩;exact absurd h1 (Rat.not_lt.2 h2)
  rw [← h0]; exact hf
theorem exa50 (hM : ClM A 3 r w) (hok : ClOK 3 r) (hx : ExA (wq r) (Kz r)) : Calls Tryz.prog 14 #[.int .i64 50, .slice A 3 c] w fun e w' => ∃ (g cap : Nat) (h : Nat → FH), e = .returned (.tuple #[.slice (some ⟨g, 0, none⟩) 3 cap, .int .i64 0]) ∧ Rw 29 4 g 3 cap (fun j => zqL (h j)) w' ∧ FV w' (Rat.divInt 80 3) (h 2).s (h 2).A (h 2).n (h 2).t (h 2).B (h 2).m ∧ Below w.heap.size w w' :=
 (sExact_v 50 (by decide) hM hok (by decide) (SzR.ten (by decide) hok hM)).mono fun e w' ⟨t, g, cap, h, he, hl, _, _, hR, hq, hb⟩ => ⟨g, cap, h, he, hR, by
  have h2 := hq 2 (by decide);rw [hx.t50 hl, hx.x50.2.2] at h2
  exact h2, hb⟩
def Parts3 (a b c : Int) (w : World) (e : Ending) (w' : World) : Prop := ∃ g cap, e = .returned (.tuple #[.slice (some ⟨g, 0, none⟩) 3 cap, .int .i64 0]) ∧ Rw 3 1 g 3 cap (i3 a b c) w' ∧ Below w.heap.size w w'
theorem par50 (hM : ClM A 3 r w) (hok : ClOK 3 r) (hx : ExA (wq r) (Kz r)) : Calls Tryz.prog 15 #[.int .i64 50, .slice A 3 c] w (Parts3 13 10 27 w) :=
 (sparts_v 50 (by decide) hM hok (by decide) (SzR.ten (by decide) hok hM)).mono fun e w' ⟨g, cap, p, t, he, ⟨hl, _, hq⟩, _, hR, hb⟩ => ⟨g, cap, he, row3 hR (hx.p50 hl hq), hb⟩
theorem par500 (hM : ClM A 3 r w) (hok : ClOK 3 r) (hx : ExA (wq r) (Kz r)) : Calls Tryz.prog 15 #[.int .i64 500, .slice A 3 c] w (Parts3 100 10 100 w) :=
 (sparts_v 500 (by decide) hM hok (by decide) (SzR.ten (by decide) hok hM)).mono fun e w' ⟨g, cap, p, t, he, ⟨hl, _, hq⟩, _, hR, hb⟩ => ⟨g, cap, he, row3 hR (hx.p500 hl hq), hb⟩
theorem par2 (hM : ClM A 3 r w) (hok : ClOK 3 r) (hx : ExB (wq r) (Kz r)) : Calls Tryz.prog 15 #[.int .i64 2, .slice A 3 c] w (Parts3 1 1 0 w) :=
 (sparts_v 2 (by decide) hM hok (by decide) (SzR.ten (by decide) hok hM)).mono fun e w' ⟨g, cap, p, t, he, ⟨hl, _, hq⟩, _, hR, hb⟩ => ⟨g, cap, he, row3 hR (hx.p2 hl hq), hb⟩
end
theorem three_v (w : World) :
  Calls Tryz.prog 30 #[] w (ThreeP w) := by
 have hE := Env.start w
 go_enter Tryz.func30, Tryz.ntmps30
 go_wp2_with fail
 refine hE.fr (rffromInt_v 1 _ (by decide) (by decide)) ?_;clear hE;intro sa Aa na ca ta Ba ma da w1 hE;go_wp2_with fail
 refine hE.fr (rffromInt_v 1 _ (by decide) (by decide)) ?_;clear hE;intro sb Ab nb cb tb Bb mb db w2 hE;go_wp2_with fail
 refine hE.fr (rffromInt_v 2 _ (by decide) (by decide)) ?_;clear hE;intro sf Af nf cf tf Bf mf df w3 hE;go_wp2_with fail
 obtain ⟨g4, hg4⟩ : ∃ g4, g4 = w3.heap.size := ⟨_, rfl⟩
 replace hE := hE.blk 46 #[.int .i64 1, .bool sa, .slice Aa na ca, .bool ta, .slice Ba ma da, .int .i64 100, .int .i64 2, .bool sb, .slice Ab nb cb, .bool tb, .slice Bb mb db, .int .i64 10, .int .i64 5, .bool sf, .slice Af nf cf, .bool tf, .slice Bf mf df, .int .i64 100] (g := g4) hg4.symm;generalize w3.alloc (.cells #[.int .i64 1, .bool sa, .slice Aa na ca, .bool ta, .slice Ba ma da, .int .i64 100, .int .i64 2, .bool sb, .slice Ab nb cb, .bool tb, .slice Bb mb db, .int .i64 10, .int .i64 5, .bool sf, .slice Af nf cf, .bool tf, .slice Bf mf df, .int .i64 100] 46) = W4 at hE ⊢;rw [← hg4];clear hg4;have ho0 := Cl.ok_of (c := ca) (d := da) (I := 1) (K := 100) (hE.h3) (by decide +kernel) (by rw [fl_le]; decide +kernel) (by decide);have ho1 := Cl.ok_of (c := cb) (d := db) (I := 2) (K := 10) (hE.h2) (by decide +kernel) (by rw [fl_le]; decide +kernel) (by decide);have ho2 := Cl.ok_of (c := cf) (d := df) (I := 5) (K := 100) (hE.here.1.2) (by decide +kernel) (by rw [fl_le]; decide +kernel) (by decide);have hcm := clm_three (x := ⟨1, (FHof ((1 : Int) : Rat) sa Aa na ca ta Ba ma da), 100⟩) (y := ⟨2, (FHof ((1 : Int) : Rat) sb Ab nb cb tb Bb mb db), 10⟩) (z := ⟨5, (FHof ((2 : Int) : Rat) sf Af nf cf tf Bf mf df), 100⟩) (hE.here.2) ho0.2.1 ho1.2.1 ho2.2.1;have hco := clok_three ho0.1 ho1.1 ho2.1 (show (1 : Int) < 2 by decide) (show (2 : Int) < 5 by decide);have hex : ExA (wq (clS3 ⟨1, (FHof ((1 : Int) : Rat) sa Aa na ca ta Ba ma da), 100⟩ ⟨2, (FHof ((1 : Int) : Rat) sb Ab nb cb tb Bb mb db), 10⟩ ⟨5, (FHof ((2 : Int) : Rat) sf Af nf cf tf Bf mf df), 100⟩)) (Kz (clS3 ⟨1, (FHof ((1 : Int) : Rat) sa Aa na ca ta Ba ma da), 100⟩ ⟨2, (FHof ((1 : Int) : Rat) sb Ab nb cb tb Bb mb db), 10⟩ ⟨5, (FHof ((2 : Int) : Rat) sf Af nf cf tf Bf mf df), 100⟩)) := ⟨⟨ho0.2.2, ho1.2.2, ho2.2.2⟩, rfl, rfl, rfl⟩
 go_ret
 exact ⟨_, _, rfl, hcm, hco, hex, hE.bel⟩
theorem sameInts_t {g n cap g2 cap2 : Nat} {p : Nat → Int} {w : World} (hn9 : n ≤ 1000) (hA : Rw 3 1 g n cap (fun j => [.int .i64 (p j)]) w) (hB : Rw 3 1 g2 n cap2 (fun j => [.int .i64 (p j)]) w) :
  Calls Tryz.prog 39 #[.slice (some ⟨g, 0, none⟩) n cap, .slice (some ⟨g2, 0, none⟩) n cap2] w (fun e w' => e = .returned (.bool true) ∧ Below w.heap.size w w') := by
 have hE := ((Env.start w).rwr hA).rwr hB
 go_enter Tryz.func39, Tryz.ntmps39
 go_wp2_with fail
 go_loopw [5] (fun x wr => ∃ k : Nat, k ≤ n ∧ x = .int .i64 (k : Int) ∧ Env w (fun V => ((True ∧ Rw 3 1 g n cap (fun j => [.int .i64 (p j)]) V) ∧ Rw 3 1 g2 n cap2 (fun j => [.int .i64 (p j)]) V)) wr) (fun x _ => n - (intOf x).toNat)
 case atStart => exact ⟨0, Nat.zero_le _, rfl, hE⟩
 case round =>
  clear hE;obtain ⟨k, hk, rfl, hE⟩ := hrel
  by_cases hlt : k < n
  rotate_left
  ·
   obtain rfl : k = n := by omega
   have t1 : decide ((k : Int) < (k : Int)) = false := decide_eq_false (by omega);go_wp2_with fail
   go_ret
   exact ⟨rfl, hE.bel⟩
  have t1 : decide ((k : Int) < (n : Int)) = true := decide_eq_true (by omega)
  have t2 : (k : Int) < (n : Int) := by omega
  obtain ⟨z, hz⟩ : ∃ z, z = p k := ⟨_, rfl⟩
  have Hhz := Lib.hid hz;clear hz
  go_upto_region 6 with (fail)
  clear t1;replace hE := hE.drew;refine wp_region_held_drew (S := fun V => Rw 3 1 g n cap (fun j => [.int .i64 (p j)]) V ∧ Rw 3 1 g2 n cap2 (fun j => [.int .i64 (p j)]) V) (by kernel_rfl) (⟨hE.here.1.2, hE.here.2⟩) (fun hHeld => ?_)
  generalize wr.drew = wd at *
  refine tk 0 ?_;refine tk 1 ?_;refine tk 2 ?_
  refine tk 3 ?_ (hy := by
   intro w hSw;have kc := Rw.cell hSw.1 (k := k) (i := 0) (o := k) (v := .int .i64 z) hlt (by decide) (by omega) (by rw [Hhz.out]; rfl);clear hSw
   first | (go_simp; done) | (go_simp; with_reducible rfl))
  try simp only [PL]
  refine tk 4 ?_;refine tk 5 ?_;refine tk 6 ?_
  refine tk 7 ?_ (hy := by
   intro w hSw;have kc := Rw.cell hSw.2 (k := k) (i := 0) (o := k) (v := .int .i64 z) hlt (by decide) (by omega) (by rw [Hhz.out]; rfl);clear hSw
   first | (go_simp; done) | (go_simp; with_reducible rfl))
  try simp only [PL]
  refine tk 8 ?_;refine wpAnyH_done (by kernel_rfl) ?_ _;go_wp2_with fail
  go_roundw
  case rel => exact ⟨k + 1, by omega, by go_num, hE⟩
  case measure => simp [intOf]; omega
theorem blk3_row {g : Nat} {a b c : Int} {W : World} (h : Blk 3 g #[.int .i64 a, .int .i64 b, .int .i64 c] W) : Rw 3 1 g 3 3 (i3 a b c) W :=
 ⟨Nat.le_refl _, by decide, _, h, rfl, fun i v hv => by
  rcases i with _ | _ | _ | i
  · cases hv; rfl
  · cases hv; rfl
  · cases hv; rfl
  · simp at hv, fun k hk i hi => by
  obtain rfl : i = 0 := by omega
  rcases (show k = 0 ∨ k = 1 ∨ k = 2 by omega) with rfl | rfl | rfl <;> rfl⟩
theorem awake_v (w : World) :
  Calls Tryz.prog 11 #[] w (fun e w' => e = .returned (.bool true) ∧ Below w.heap.size w w') := by
 have hE := Env.start w
 go_enter Tryz.func11, Tryz.ntmps11
 go_wp2_with fail
 refine (three_v _).mono ?_
 rintro e w1 ⟨g_, r_, rfl, hcm, hco, hex, hb⟩
 replace hE := hE.step hb;clear hb;go_wp2_with fail
 refine hE.fr (lev50 hcm hco hex) ?_;clear hE;intro sq Aq nq cq tq Bq mq dq w2 hE;clear hcm hco hex
 go_upto_region 2 with (fail)
 obtain ⟨g3, hg3⟩ : ∃ g3, g3 = w2.heap.size := ⟨_, rfl⟩
 replace hE := hE.blk 29 #[.bool sq, .slice Aq nq cq, .bool tq, .slice Bq mq dq] (g := g3) hg3.symm;generalize w2.alloc (.cells #[.bool sq, .slice Aq nq cq, .bool tq, .slice Bq mq dq] 29) = W3 at hE ⊢;rw [← hg3];clear hg3;go_wp2_with fail
 refine (three_v _).mono ?_
 rintro e w4 ⟨g_, r_, rfl, hcm, hco, hex, hb⟩
 replace hE := hE.step hb;clear hb;go_wp2_with fail
 refine (exa50 hcm hco hex).mono ?_
 rintro e w5 ⟨gx, cx, hx, rfl, hRx, hq2, hb⟩
 replace hE := ((hE.step hb).rwr hRx).fv hq2;clear hb hRx hq2 hcm hco hex;go_wp2_with fail
 refine (three_v _).mono ?_
 rintro e w6 ⟨g_, r_, rfl, hcm, hco, hex, hb⟩
 replace hE := hE.step hb;clear hb;go_wp2_with fail
 refine (par50 hcm hco hex).mono ?_
 rintro e w7 ⟨gp, cgp, rfl, hRi, hb⟩
 replace hE := (hE.step hb).rwr hRi;clear hb hRi hcm hco hex;go_wp2_with fail
 refine hE.fr (rffromInt_v 1 _ (by decide) (by decide)) ?_;clear hE;intro sa Aa na ca ta Ba ma da w8 hE;go_wp2_with fail
 refine hE.fr (rffromInt_v 1 _ (by decide) (by decide)) ?_;clear hE;intro sb Ab nb cb tb Bb mb db w9 hE;go_wp2_with fail
 refine hE.fr (rffromInt_v 1 _ (by decide) (by decide)) ?_;clear hE;intro sf Af nf cf tf Bf mf df w10 hE
 go_upto_region 5 with (fail)
 obtain ⟨g11, hg11⟩ : ∃ g11, g11 = w10.heap.size := ⟨_, rfl⟩
 have hl11_1 : g3 < g11 := by rw [hg11]; exact (hE.h6).lt
 replace hE := hE.blk 46 #[.int .i64 1, .bool sa, .slice Aa na ca, .bool ta, .slice Ba ma da, .int .i64 9, .int .i64 2, .bool sb, .slice Ab nb cb, .bool tb, .slice Bb mb db, .int .i64 9, .int .i64 3, .bool sf, .slice Af nf cf, .bool tf, .slice Bf mf df, .int .i64 9] (g := g11) hg11.symm;generalize w10.alloc (.cells #[.int .i64 1, .bool sa, .slice Aa na ca, .bool ta, .slice Ba ma da, .int .i64 9, .int .i64 2, .bool sb, .slice Ab nb cb, .bool tb, .slice Bb mb db, .int .i64 9, .int .i64 3, .bool sf, .slice Af nf cf, .bool tf, .slice Bf mf df, .int .i64 9] 46) = W11 at hE ⊢;rw [← hg11];clear hg11;have ho0 := Cl.ok_of (c := ca) (d := da) (I := 1) (K := 9) (hE.h3) (by decide +kernel) (by rw [fl_le]; decide +kernel) (by decide);have ho1 := Cl.ok_of (c := cb) (d := db) (I := 2) (K := 9) (hE.h2) (by decide +kernel) (by rw [fl_le]; decide +kernel) (by decide);have ho2 := Cl.ok_of (c := cf) (d := df) (I := 3) (K := 9) (hE.here.1.2) (by decide +kernel) (by rw [fl_le]; decide +kernel) (by decide);have hcm := clm_three (x := ⟨1, (FHof ((1 : Int) : Rat) sa Aa na ca ta Ba ma da), 9⟩) (y := ⟨2, (FHof ((1 : Int) : Rat) sb Ab nb cb tb Bb mb db), 9⟩) (z := ⟨3, (FHof ((1 : Int) : Rat) sf Af nf cf tf Bf mf df), 9⟩) (hE.here.2) ho0.2.1 ho1.2.1 ho2.2.1;have hco := clok_three ho0.1 ho1.1 ho2.1 (show (1 : Int) < 2 by decide) (show (2 : Int) < 3 by decide);have hex : ExB (wq (clS3 ⟨1, (FHof ((1 : Int) : Rat) sa Aa na ca ta Ba ma da), 9⟩ ⟨2, (FHof ((1 : Int) : Rat) sb Ab nb cb tb Bb mb db), 9⟩ ⟨3, (FHof ((1 : Int) : Rat) sf Af nf cf tf Bf mf df), 9⟩)) (Kz (clS3 ⟨1, (FHof ((1 : Int) : Rat) sa Aa na ca ta Ba ma da), 9⟩ ⟨2, (FHof ((1 : Int) : Rat) sb Ab nb cb tb Bb mb db), 9⟩ ⟨3, (FHof ((1 : Int) : Rat) sf Af nf cf tf Bf mf df), 9⟩)) := ⟨⟨ho0.2.2, ho1.2.2, ho2.2.2⟩, rfl, rfl, rfl⟩;clear ho0 ho1 ho2;go_wp2_with fail
 refine (par2 hcm hco hex).mono ?_
 rintro e w12 ⟨gr, cgr, rfl, hRi, hb⟩
 replace hE := (hE.step hb).rwr hRi;clear hb hRi hcm hco hex;go_wp2_with fail
 refine (three_v _).mono ?_
 rintro e w13 ⟨g_, r_, rfl, hcm, hco, hex, hb⟩
 replace hE := hE.step hb;clear hb;go_wp2_with fail
 refine (par500 hcm hco hex).mono ?_
 rintro e w14 ⟨gs, cgs, rfl, hRi, hb⟩
 replace hE := (hE.step hb).rwr hRi;clear hb hRi hcm hco hex;go_wp2_with fail
 refine (three_v _).mono ?_
 rintro e w15 ⟨g_, r_, rfl, hcm, hco, hex, hb⟩
 replace hE := hE.step hb;clear hb;go_wp2_with fail
 refine hE.fr (lev500 hcm hco hex) ?_;clear hE;intro sv Av nv cv tv Bv mv dv w16 hE;clear hcm hco hex
 go_upto_region 8 with (fail)
 obtain ⟨g17, hg17⟩ : ∃ g17, g17 = w16.heap.size := ⟨_, rfl⟩
 have hl17_1 : g3 < g17 := by rw [hg17]; exact (hE.h10).lt
 have hl17_8 : g11 < g17 := by rw [hg17]; exact (hE.h3).lt
 replace hE := hE.blk 29 #[.bool sv, .slice Av nv cv, .bool tv, .slice Bv mv dv] (g := g17) hg17.symm;generalize w16.alloc (.cells #[.bool sv, .slice Av nv cv, .bool tv, .slice Bv mv dv] 29) = W17 at hE ⊢;rw [← hg17];clear hg17;go_wp2_with fail
 refine hE.fr (lev_nil _) ?_;clear hE;intro sz Az nz cz tz Bz mz dz w18 hE
 go_upto_region 9 with (fail)
 obtain ⟨g19, hg19⟩ : ∃ g19, g19 = w18.heap.size := ⟨_, rfl⟩
 have hl19_1 : g3 < g19 := by rw [hg19]; exact (hE.h12).lt
 have hl19_8 : g11 < g19 := by rw [hg19]; exact (hE.h5).lt
 have hl19_12 : g17 < g19 := by rw [hg19]; exact (hE.here.1.2).lt
 replace hE := hE.blk 29 #[.bool sz, .slice Az nz cz, .bool tz, .slice Bz mz dz] (g := g19) hg19.symm;generalize w18.alloc (.cells #[.bool sz, .slice Az nz cz, .bool tz, .slice Bz mz dz] 29) = W19 at hE ⊢;rw [← hg19];clear hg19
 go_upto_region 11 with (fail)
 replace hE := hE.drew;refine wp_region_held_drew (S := fun V => Blk 29 (g3) #[.bool sq, .slice Aq nq cq, .bool tq, .slice Bq mq dq] V ∧ Rw 29 4 gx 3 cx (fun j => zqL (hx j)) V ∧ Blk 29 (g17) #[.bool sv, .slice Av nv cv, .bool tv, .slice Bv mv dv] V ∧ Blk 29 (g19) #[.bool sz, .slice Az nz cz, .bool tz, .slice Bz mz dz] V) (by kernel_rfl) (⟨hE.h13, hE.h12, hE.h2, hE.here.2⟩) (fun hHeld => ?_)
 generalize W19.drew = wd at *
 refine tk 0 ?_ (hy := by
  intro w hSw;have kc0 := (hSw.1).cell 0;have kc1 := (hSw.1).cell 1;have kc2 := (hSw.1).cell 2;have kc3 := (hSw.1).cell 3;clear hSw
  first | (go_simp; done) | (go_simp; with_reducible rfl))
 try simp only [PL]
 refine r1 1 (fun K hK => ?_);go_simp;refine hE.fr (rquick_v 40 3 _ (by decide) (by decide) (by decide) (by decide) (by decide)) ?_;clear hE;intro sg Ag ng cg tg Bg mg dg w20 hE;go_wp2_with fail
 refine hK.out _ _ (⟨hE.here.1.1.1.1.1.1.1.1.1.1.1.1.1.1.2, hE.h13, hE.h3, hE.here.1.2⟩) (fun hHeld => ?_);clear hK K;try simp only [PL]
 refine r1 2 (fun K hK => ?_);go_simp;have hl1 := (hE.here.1.1.1.1.1.1.1.1.1.1.1.1.1.1.1.2).ln (k := 1000000) (by rw [fl_le]; decide +kernel);have hl2 := (hE.here.2).ln (k := 1000000) (by rw [fl_le]; decide +kernel);have hc := frsame_v (ca := cq) (da := dq) (cb := cg) (db := dg) (hE.here.1.1.1.1.1.1.1.1.1.1.1.1.1.1.1.2) (hE.here.2) hl1.1 hl1.2 hl2.1 hl2.2;rw [decide_eq_true rfl] at hc;refine hE.br (hc) ?_;clear hE;intro w21 hE;clear hc hl1 hl2;go_wp2_with fail
 refine hK.out _ _ (⟨hE.here.1.1.1.1.1.1.1.1.1.1.1.1.1.1.2, hE.h13, hE.h3, hE.here.1.2⟩) (fun hHeld => ?_);clear hK K;try simp only [PL]
 refine tk 3 ?_;refine tk 4 ?_;refine tk 5 ?_;refine tk 6 ?_;refine tk 7 ?_;refine tk 8 ?_;refine tk 9 ?_;refine tk 10 ?_;refine tk 11 ?_
 refine tk 12 ?_ (hy := by
  intro w hSw;have kc0 := Rw.cell hSw.2.1 (k := 2) (i := 0) (o := 8) (v := .bool (hx 2).s) (by decide) (by decide) (by decide) rfl;have kc1 := Rw.cell hSw.2.1 (k := 2) (i := 1) (o := 9) (v := .slice (hx 2).A (hx 2).n (hx 2).c) (by decide) (by decide) (by decide) rfl;have kc2 := Rw.cell hSw.2.1 (k := 2) (i := 2) (o := 10) (v := .bool (hx 2).t) (by decide) (by decide) (by decide) rfl;have kc3 := Rw.cell hSw.2.1 (k := 2) (i := 3) (o := 11) (v := .slice (hx 2).B (hx 2).m (hx 2).d) (by decide) (by decide) (by decide) rfl;clear hSw
  first | (go_simp; done) | (go_simp; with_reducible rfl))
 try simp only [PL]
 refine r1 13 (fun K hK => ?_);go_simp;refine hE.fr (rquick_v 80 3 _ (by decide) (by decide) (by decide) (by decide) (by decide)) ?_;clear hE;intro sh Ah nh ch th Bh mh dh w22 hE;go_wp2_with fail
 refine hK.out _ _ (⟨hE.here.1.1.1.1.1.1.1.1.1.1.1.1.1.1.1.2, hE.here.1.1.1.1.1.1.1.1.1.1.1.1.1.1.2, hE.h4, hE.h2⟩) (fun hHeld => ?_);clear hK K;try simp only [PL]
 refine r1 14 (fun K hK => ?_);go_simp;have hl1 := (hE.h13).ln (k := 1000000) (by rw [fl_le]; decide +kernel);have hl2 := (hE.here.2).ln (k := 1000000) (by rw [fl_le]; decide +kernel);have hc := frsame_v (ca := (hx 2).c) (da := (hx 2).d) (cb := ch) (db := dh) (hE.h13) (hE.here.2) hl1.1 hl1.2 hl2.1 hl2.2;rw [decide_eq_true rfl] at hc;refine hE.br (hc) ?_;clear hE;intro w23 hE;clear hc hl1 hl2;go_wp2_with fail
 refine hK.out _ _ (⟨hE.here.1.1.1.1.1.1.1.1.1.1.1.1.1.1.1.2, hE.here.1.1.1.1.1.1.1.1.1.1.1.1.1.1.2, hE.h4, hE.h2⟩) (fun hHeld => ?_);clear hK K;try simp only [PL]
 refine tk 15 ?_;refine tk 16 ?_;refine tk 17 ?_
 refine tk 18 ?_ (hy := by
  intro w hSw;have kc0 := (hSw.2.2.1).cell 0;have kc1 := (hSw.2.2.1).cell 1;have kc2 := (hSw.2.2.1).cell 2;have kc3 := (hSw.2.2.1).cell 3;clear hSw
  first | (go_simp; done) | (go_simp; with_reducible rfl))
 try simp only [PL]
 refine r1 19 (fun K hK => ?_);go_simp;refine hE.fr (rffromInt_v 100 _ (by decide) (by decide)) ?_;clear hE;intro sy Ay ny cy ty By my dy w24 hE;go_wp2_with fail
 refine hK.out _ _ (⟨hE.here.1.1.1.1.1.1.1.1.1.1.1.1.1.1.1.1.2, hE.here.1.1.1.1.1.1.1.1.1.1.1.1.1.1.1.2, hE.h5, hE.h3⟩) (fun hHeld => ?_);clear hK K;try simp only [PL]
 refine r1 20 (fun K hK => ?_);go_simp;have hl1 := (hE.h6).ln (k := 1000000) (by rw [fl_le]; decide +kernel);have hl2 := (hE.here.2).ln (k := 1000000) (by rw [fl_le]; decide +kernel);have hc := frsame_v (ca := cv) (da := dv) (cb := cy) (db := dy) (hE.h6) (hE.here.2) hl1.1 hl1.2 hl2.1 hl2.2;rw [decide_eq_true rfl] at hc;refine hE.br (hc) ?_;clear hE;intro w25 hE;clear hc hl1 hl2;go_wp2_with fail
 refine hK.out _ _ (⟨hE.here.1.1.1.1.1.1.1.1.1.1.1.1.1.1.1.1.2, hE.here.1.1.1.1.1.1.1.1.1.1.1.1.1.1.1.2, hE.h5, hE.h3⟩) (fun hHeld => ?_);clear hK K;try simp only [PL]
 refine tk 21 ?_;refine tk 22 ?_;refine tk 23 ?_
 refine tk 24 ?_ (hy := by
  intro w hSw;have kc0 := (hSw.2.2.2).cell 0;have kc1 := (hSw.2.2.2).cell 1;have kc2 := (hSw.2.2.2).cell 2;have kc3 := (hSw.2.2.2).cell 3;clear hSw
  first | (go_simp; done) | (go_simp; with_reducible rfl))
 try simp only [PL]
 refine r1 25 (fun K hK => ?_);go_simp;have hc := rfzero_v (ca := cz) (da := dz) (hE.h4);rw [decide_eq_true (show (0 : Rat).num = 0 from rfl)] at hc;refine hE.br (hc) ?_;clear hE;intro w26 hE;clear hc;go_wp2_with fail
 refine hK.out _ _ (⟨hE.here.1.1.1.1.1.1.1.1.1.1.1.1.1.1.1.1.2, hE.here.1.1.1.1.1.1.1.1.1.1.1.1.1.1.1.2, hE.h5, hE.h3⟩) (fun hHeld => ?_);clear hK K;try simp only [PL]
 refine tk 26 ?_;refine tk 27 ?_;refine wpAnyH_done (by kernel_rfl) ?_ _;go_wp2_with fail
 obtain ⟨g27, hg27⟩ : ∃ g27, g27 = w26.heap.size := ⟨_, rfl⟩
 have hl27_1 : g3 < g27 := by rw [hg27]; exact (hE.here.1.1.1.1.1.1.1.1.1.1.1.1.1.1.1.1.2).lt
 have hl27_8 : g11 < g27 := by rw [hg27]; exact (hE.h9).lt
 have hl27_12 : g17 < g27 := by rw [hg27]; exact (hE.h5).lt
 have hl27_14 : g19 < g27 := by rw [hg27]; exact (hE.h3).lt
 replace hE := hE.blk 3 #[.int .i64 13, .int .i64 10, .int .i64 27] (g := g27) hg27.symm;generalize w26.alloc (.cells #[.int .i64 13, .int .i64 10, .int .i64 27] 3) = W27 at hE ⊢;rw [← hg27];clear hg27;refine hE.br (sameInts_t (hn9 := by decide) (p := fun j => if j = 0 then 13 else if j = 1 then 10 else 27) (hE.here.1.1.1.1.1.1.1.1.1.1.1.1.1.1.2) (blk3_row (hE.here.2))) ?_;clear hE;intro w28 hE;go_wp2_with fail
 obtain ⟨g29, hg29⟩ : ∃ g29, g29 = w28.heap.size := ⟨_, rfl⟩
 have hl29_1 : g3 < g29 := by rw [hg29]; exact (hE.here.1.1.1.1.1.1.1.1.1.1.1.1.1.1.1.1.1.2).lt
 have hl29_8 : g11 < g29 := by rw [hg29]; exact (hE.h10).lt
 have hl29_12 : g17 < g29 := by rw [hg29]; exact (hE.h6).lt
 have hl29_14 : g19 < g29 := by rw [hg29]; exact (hE.h4).lt
 have hl29_18 : g27 < g29 := by rw [hg29]; exact (hE.here.2).lt
 replace hE := hE.blk 3 #[.int .i64 1, .int .i64 1, .int .i64 0] (g := g29) hg29.symm;generalize w28.alloc (.cells #[.int .i64 1, .int .i64 1, .int .i64 0] 3) = W29 at hE ⊢;rw [← hg29];clear hg29;refine hE.br (sameInts_t (hn9 := by decide) (p := fun j => if j = 0 then 1 else if j = 1 then 1 else 0) (hE.h10) (blk3_row (hE.here.2))) ?_;clear hE;intro w30 hE;go_wp2_with fail
 obtain ⟨g31, hg31⟩ : ∃ g31, g31 = w30.heap.size := ⟨_, rfl⟩
 have hl31_1 : g3 < g31 := by rw [hg31]; exact (hE.here.1.1.1.1.1.1.1.1.1.1.1.1.1.1.1.1.1.1.2).lt
 have hl31_8 : g11 < g31 := by rw [hg31]; exact (hE.h11).lt
 have hl31_12 : g17 < g31 := by rw [hg31]; exact (hE.h7).lt
 have hl31_14 : g19 < g31 := by rw [hg31]; exact (hE.h5).lt
 have hl31_18 : g27 < g31 := by rw [hg31]; exact (hE.here.1.2).lt
 have hl31_19 : g29 < g31 := by rw [hg31]; exact (hE.here.2).lt
 replace hE := hE.blk 3 #[.int .i64 100, .int .i64 10, .int .i64 100] (g := g31) hg31.symm;generalize w30.alloc (.cells #[.int .i64 100, .int .i64 10, .int .i64 100] 3) = W31 at hE ⊢;rw [← hg31];clear hg31;refine hE.br (sameInts_t (hn9 := by decide) (p := fun j => if j = 0 then 100 else if j = 1 then 10 else 100) (hE.h10) (blk3_row (hE.here.2))) ?_;clear hE;intro w32 hE;go_wp2_with fail
 go_ret
 exact ⟨rfl, hE.bel⟩
end
section
open Go.RowKit

def clL (I K : Int) (x : FH) : List Value := [.int .i64 I, .bool x.s, .slice x.A x.n x.c, .bool x.t, .slice x.B x.m x.d, .int .i64 K]
theorem clL_ok (I K : Int) (x : FH) : ∀ v ∈ clL I K x, noLimb v = true ∧ v.oneCell' = true := fun v hv => by
 unfold clL at hv;simp only [List.mem_cons, List.not_mem_nil, or_false] at hv
 rcases hv with rfl | rfl | rfl | rfl | rfl | rfl <;> exact ⟨rfl, rfl⟩
theorem info_cl1 : (Tryz.prog.info? 46).map (fun i => (i.zero, i.size, i.bytes)) = some (some (.agg #[.int .i64 0, .bool false, .slice none 0 0, .bool false, .slice none 0 0, .int .i64 0]), 6, 80) := by kernel_rfl
def clElem : Elem 22 46 6 := ⟨Tryz.underlying22, .agg #[.int .i64 0, .bool false, .slice none 0 0, .bool false, .slice none 0 0, .int .i64 0], 80, info_cl1, rfl, by decide, fun v hv => by
 simp only [Value.cells, List.mem_toArray, List.mem_cons, List.not_mem_nil, or_false] at hv
 rcases hv with rfl | rfl | rfl | rfl | rfl | rfl <;> rfl, by decide⟩
section
variable {T : TypeId} {m b0 n : Nat} {v : Value} {e : Nat → List Value} {w w' : World}
theorem RwV.lt (hv : RwV T m b0 v n e w) : ∀ q, v.ownBlock = some q → q < w.heap.size := fun q hq => by
 rcases hv with ⟨rfl, -⟩ | ⟨g, cap, rfl, -, hB⟩
 · cases hq
 · cases hq; exact hB.lt
theorem RwV.farN {k : Nat} (hv : RwV T m b0 v n e w) (hq : ∀ q, v.ownBlock = some q → q ≠ k) (hg : w.grownBy w' (some k)) : RwV T m b0 v n e w' := by
 rcases hv with hv | ⟨g, cap, rfl, hb, hR⟩
 · exact .inl hv
 · exact .inr ⟨g, cap, rfl, hb, hR.grownB hg (hq g rfl)⟩
theorem FqS.grownR {h : Nat → FH} {k : Nat} {q : Nat → Rat} (hq : FqS h k q w) (hv : RwV T m b0 v n e w) (hg : w.grownBy w' v.ownBlock) : FqS h k q w' := fun j hj => FV.grownR (hq j hj) hv hg
theorem RwV.congr {e' : Nat → List Value} (hv : RwV T m b0 v n e w) (he : ∀ k, k < n → e k = e' k) : RwV T m b0 v n e' w := by
 rcases hv with hv | ⟨g, cap, rfl, hb, hR⟩
 · exact .inl hv
 · exact .inr ⟨g, cap, rfl, hb, hR.congr he⟩
end
def clR (I K : Nat → Int) (h : Nat → FH) (k : Nat) : List Value := clL (I k) (K k) (h k)
theorem clR_push (I K : Nat → Int) (h : Nat → FH) (n : Nat) (x : FH) (j : Nat) : updE (clR I K h) n (clL (I n) (K n) x) j = clR I K (updF h n x) j := by
 unfold updE clR updF
 by_cases e : j = n
 · subst e; simp
 · simp [e]
def clB (I K : Nat → Int) (h : Nat → FH) (q : Nat → Rat) (k : Nat) : Cl := ⟨I k, FHof (q k) (h k).s (h k).A (h k).n (h k).c (h k).t (h k).B (h k).m (h k).d, K k⟩
theorem clm_built {b0 n : Nat} {v : Value} {I K : Nat → Int} {h : Nat → FH} {q : Nat → Rat} {W : World} (hR : RwV 46 6 b0 v n (clR I K h) W) (hq : FqS h n q W) : ∃ A c, v = .slice A n c ∧ ClM A n (clB I K h q) W := by
 rcases hR with ⟨rfl, rfl⟩ | ⟨g, cap, rfl, -, hB⟩
 · exact ⟨none, 0, rfl, fun h0 => absurd h0 (Nat.lt_irrefl 0)⟩
 ·
  refine ⟨some ⟨g, 0, none⟩, cap, rfl, fun _ => ⟨g, 0, rfl, hB.lt, fun k hk => ⟨⟨?_, ?_, ?_, ?_, ?_, ?_⟩, FHof.rd_of (hq k hk)⟩⟩⟩
  · exact hB.cell hk (i := 0) (by decide) (by omega) rfl
  · exact hB.cell hk (i := 1) (by decide) (by omega) rfl
  · exact hB.cell hk (i := 2) (by decide) (by omega) rfl
  · exact hB.cell hk (i := 3) (by decide) (by omega) rfl
  · exact hB.cell hk (i := 4) (by decide) (by omega) rfl
  · exact hB.cell hk (i := 5) (by decide) (by omega) rfl
theorem wq_built {n : Nat} {I K : Nat → Int} {h : Nat → FH} {q : Nat → Rat} {W : World} (hq : FqS h n q W) {k : Nat} (hk : k < n) : wq (clB I K h q) k = q k := FHof.q_eq (hq k hk)
theorem push_claim (ty : TypeId) {b0 n k : Nat} {v : Value} {I K : Nat → Int} {h : Nat → FH} {W : World} (hv : RwV 46 6 b0 v n (clR I K h) W) (hb0 : b0 ≤ W.heap.size) (x : FH) (hB : Blk 46 k (clL (I n) (K n) x).toArray W) (hn : n ≤ 1000) :
  ∃ v' W', (Builtin.append_ #[22, 22] ty #[v, .slice (some ⟨k, 0, none⟩) 1 1]).run Tryz.prog W = .ok v' W' ∧ RwV 46 6 b0 v' (n + 1) (clR I K (updF h n x)) W' ∧ W.grownBy W' v.ownBlock := by
 obtain ⟨g, cap, w8, hr, hg0, hR, hgr⟩ := append_rw clElem ty hv hb0 ⟨k, 0, none⟩ 1 (clL (I n) (K n) x) rfl (fun u hu => (clL_ok _ _ _ u hu).1) (fun u hu => (clL_ok _ _ _ u hu).2) (fun j u hu => by rw [Addr.add_mid, Nat.zero_add, hB.cell, List.getElem?_toArray]; exact hu) hn;exact ⟨_, w8, hr, .inr ⟨g, cap, rfl, hg0, hR.congr (fun j _ => clR_push I K h n x j)⟩, hgr⟩
end
section
open Go.RowKit

theorem info_rc1 : (Tryz.prog.info? 92).map (fun i => (i.zero, i.size, i.bytes)) = some (some (.agg #[.int .i64 0, .bool false, .slice none 0 0, .bool false, .slice none 0 0, .int .i64 0]), 6, 80) := by kernel_rfl
def rclElem : Elem 54 92 6 := ⟨Tryz.underlying54, .agg #[.int .i64 0, .bool false, .slice none 0 0, .bool false, .slice none 0 0, .int .i64 0], 80, info_rc1, rfl, by decide, fun v hv => by
 simp only [Value.cells, List.mem_toArray, List.mem_cons, List.not_mem_nil, or_false] at hv
 rcases hv with rfl | rfl | rfl | rfl | rfl | rfl <;> rfl, by decide⟩
theorem clR_step (I K : Nat → Int) (h : Nat → FH) (n : Nat) (j : Nat) : updE (clR I K h) n (clL (I n) (K n) (h n)) j = clR I K h j := by
 unfold updE clR
 by_cases e : j = n
 · subst e; simp
 · simp [e]
theorem push_any {tS T : TypeId} (E : Elem tS T 6) (ty : TypeId) {b0 n k : Nat} {v : Value} {e : Nat → List Value} {W : World} (hv : RwV T 6 b0 v n e W) (hb0 : b0 ≤ W.heap.size) (I K : Int) (x : FH) (hB : Blk T k (clL I K x).toArray W) (hn : n ≤ 1000) :
  ∃ v' W', (Builtin.append_ #[tS, tS] ty #[v, .slice (some ⟨k, 0, none⟩) 1 1]).run Tryz.prog W = .ok v' W' ∧ RwV T 6 b0 v' (n + 1) (updE e n (clL I K x)) W' ∧ W.grownBy W' v.ownBlock := by
 obtain ⟨g, cap, w8, hr, hg0, hR, hgr⟩ := append_rw E ty hv hb0 ⟨k, 0, none⟩ 1 (clL I K x) rfl (fun u hu => (clL_ok _ _ _ u hu).1) (fun u hu => (clL_ok _ _ _ u hu).2) (fun j u hu => by rw [Addr.add_mid, Nat.zero_add, hB.cell, List.getElem?_toArray]; exact hu) hn;exact ⟨_, w8, hr, .inr ⟨g, cap, rfl, hg0, hR⟩, hgr⟩
theorem clm_shared {T : TypeId} {b0 n : Nat} {v : Value} {r : Nat → Cl} {W : World} (hR : RwV T 6 b0 v n (clR (fun j => (r j).I) (Kz r) (fun j => (r j).w)) W) (hrd : ∀ k, k < n → (r k).w.rd W) : ∃ A c, v = .slice A n c ∧ ClM A n r W := by
 rcases hR with ⟨rfl, rfl⟩ | ⟨g, cap, rfl, -, hB⟩
 · exact ⟨none, 0, rfl, fun h0 => absurd h0 (Nat.lt_irrefl 0)⟩
 ·
  refine ⟨some ⟨g, 0, none⟩, cap, rfl, fun _ => ⟨g, 0, rfl, hB.lt, fun k hk => ⟨⟨?_, ?_, ?_, ?_, ?_, ?_⟩, hrd k hk⟩⟩⟩
  · exact hB.cell hk (i := 0) (by decide) (by omega) rfl
  · exact hB.cell hk (i := 1) (by decide) (by omega) rfl
  · exact hB.cell hk (i := 2) (by decide) (by omega) rfl
  · exact hB.cell hk (i := 3) (by decide) (by omega) rfl
  · exact hB.cell hk (i := 4) (by decide) (by omega) rfl
  · exact hB.cell hk (i := 5) (by decide) (by omega) rfl
theorem ClM.rds {A : Option Addr} {n : Nat} {r : Nat → Cl} {W : World} (h : ClM A n r W) : ∀ k, k < n → (r k).w.rd W := fun k hk => by
 obtain ⟨b, o, -, -, hc⟩ := h (by omega);exact (hc k hk).2
def SameCl (n : Nat) (r : Nat → Cl) (w : World) (e : Ending) (w' : World) : Prop := ∃ A c, e = .returned (.slice A n c) ∧ ClM A n r w' ∧ Below w.heap.size w w'
theorem lplain_v {A : Option Addr} {n c : Nat} {r : Nat → Cl} {w : World} (hM : ClM A n r w) (hn : n ≤ 100) :
  Calls Tryz.prog 27 #[.slice A n c] w (SameCl n r w) := by
 have HhM := Lib.hid hM;clear hM;have hE := Env.start w
 go_enter Tryz.func27, Tryz.ntmps27
 go_wp2_with fail
 go_loopw [3, 4] (fun mv x wr => ∃ (k : Nat) (v : Value), k ≤ n ∧ v = mv ∧ x = .int .i64 (k : Int) ∧ Env w (fun V => (True ∧ RwV 92 6 w.heap.size v k (clR (fun j => (r j).I) (Kz r) (fun j => (r j).w)) V)) wr) (fun _ x _ => n - (intOf x).toNat)
 case atStart => exact ⟨0, .slice none 0 0, Nat.zero_le _, rfl, rfl, hE.rwv (.inl ⟨rfl, rfl⟩)⟩
 case round =>
  clear hE;obtain ⟨k, v, hk, rfl, rfl, hE⟩ := hrel
  by_cases hlt : k < n
  rotate_left
  ·
   obtain rfl : n = k := by omega
   have t1 : decide ((n : Int) < (n : Int)) = false := decide_eq_false (by omega);obtain ⟨A2, c2, rfl, hM2⟩ := clm_shared (hE.here.2) (HhM.out.below hE.bel).rds;replace hE := (Env.again hE.bel).clm hM2;clear hM2;go_wp2_with fail
   go_ret
   exact ⟨A2, c2, rfl, hE.here.2, hE.bel⟩
  have t1 : decide ((k : Int) < (n : Int)) = true := decide_eq_true (by omega)
  have t2 : (k : Int) < (n : Int) := by omega
  obtain ⟨b, o, rfl, hb, hc⟩ := (HhM.out.below hE.bel) (by omega);clear hb hc
  obtain ⟨x, hx2⟩ : ∃ x, x = r k := ⟨_, rfl⟩
  have Hhx2 := Lib.hid hx2;clear hx2;replace hE := hE.clm (HhM.out.below hE.bel)
  go_upto_region 5 with (fail)
  clear t1;replace hE := hE.drew;refine wp_region_held_drew (S := fun V => ClM (some ⟨b, o, none⟩) n r V) (by kernel_rfl) (hE.here.2) (fun hHeld => ?_)
  generalize wr.drew = wd at *
  refine tk 0 ?_;refine tk 1 ?_;refine tk 2 ?_;refine tk 3 ?_;refine tk 4 ?_
  refine tk 5 ?_ (hy := by
   intro w hSw;obtain ⟨b2, o2, e2, -, hc2⟩ := hSw (by omega)
   cases e2
   obtain ⟨⟨d0, d1, d2, d3, d4, d5⟩, -⟩ := hc2 k hlt;rw [← Hhx2.out] at d0 d1 d2 d3 d4 d5;clear hc2;clear hSw
   first | (go_simp; done) | (go_simp; with_reducible rfl))
  try simp only [PL]
  refine tk 6 ?_;refine tk 7 ?_;refine tk 8 ?_;refine tk 9 ?_
  refine tk 10 ?_ (hy := by
   intro w hSw;obtain ⟨b2, o2, e2, -, hc2⟩ := hSw (by omega)
   cases e2
   obtain ⟨⟨d0, d1, d2, d3, d4, d5⟩, -⟩ := hc2 k hlt;rw [← Hhx2.out] at d0 d1 d2 d3 d4 d5;clear hc2;clear hSw
   first | (go_simp; done) | (go_simp; with_reducible rfl))
  try simp only [PL]
  refine tk 11 ?_;refine tk 12 ?_;refine tk 13 ?_;refine tk 14 ?_
  refine tk 15 ?_ (hy := by
   intro w hSw;obtain ⟨b2, o2, e2, -, hc2⟩ := hSw (by omega)
   cases e2
   obtain ⟨⟨d0, d1, d2, d3, d4, d5⟩, -⟩ := hc2 k hlt;rw [← Hhx2.out] at d0 d1 d2 d3 d4 d5;clear hc2;clear hSw
   first | (go_simp; done) | (go_simp; with_reducible rfl))
  try simp only [PL]
  refine tk 16 ?_;refine r1 17 (fun K hK => ?_);go_simp
  obtain ⟨g1, hg1⟩ : ∃ g1, g1 = wd.heap.size := ⟨_, rfl⟩
  have hlw_g1 : w.heap.size ≤ g1 := by rw [hg1]; exact hE.bel.size
  replace hE := hE.blk 92 #[.int .i64 x.I, .bool x.w.s, .slice x.w.A x.w.n x.w.c, .bool x.w.t, .slice x.w.B x.w.m x.w.d, .int .i64 x.K] (g := g1) hg1.symm;generalize wd.alloc (.cells #[.int .i64 x.I, .bool x.w.s, .slice x.w.A x.w.n x.w.c, .bool x.w.t, .slice x.w.B x.w.m x.w.d, .int .i64 x.K] 92) = W1 at hE ⊢;rw [← hg1];clear hg1;refine hK.out _ _ (hE.here.1.2) (fun hHeld => ?_);clear hK K;try simp only [PL]
  refine r1 18 (fun K hK => ?_);obtain ⟨v2, wz, hr, hR2, hgw⟩ := push_any rclElem 54 (hE.h2) hE.bel.size (r k).I (Kz r k) (r k).w (show Blk 92 g1 (clL (r k).I (r k).K (r k).w).toArray _ from by rw [← Hhx2.out]; exact hE.here.2) (by omega);replace hR2 := hR2.congr (fun j _ => clR_step (fun j => (r j).I) (Kz r) (fun j => (r j).w) k j);refine Eq.mpr (if_pos (by rfl)) ?_;refine app_step rfl rfl rfl hr ?_;clear hr;replace hE := ((Env.again (Go.Proofs.YtjgihmmeimfheaaGreat.Below.grownR hE.bel (hE.h2) hgw (Nat.le_refl _) hE.bel.size)).rwv hR2).clm (HhM.out.below (Go.Proofs.YtjgihmmeimfheaaGreat.Below.grownR hE.bel (hE.h2) hgw (Nat.le_refl _) hE.bel.size));clear hR2 hgw;refine hK.out _ _ (hE.here.2) (fun hHeld => ?_);clear hK K;try simp only [PL]
  refine tk 19 ?_;refine wpAnyH_done (by kernel_rfl) ?_ _;go_wp2_with fail
  go_roundw
  case rel => exact ⟨k + 1, v2, by omega, rfl, by go_num, ((Env.again hE.bel).rwv (hE.here.1.2))⟩
  case measure => simp [intOf]; omega
end
section
open Go.RowKit

theorem rffits_any {sa ta : Bool} {Aa Ba : Option Addr} {na ca ma da : Nat} {w : World} :
  Calls Tryz.prog 95 #[.agg #[.bool sa, .slice Aa na ca, .bool ta, .slice Ba ma da]] w (fun e w' => e = .returned (.bool (decide (na ≤ 256) && decide (ma ≤ 256))) ∧ Below w.heap.size w w') := by
 have hE := (Env.start w).blk 29 #[.bool sa, .slice Aa na ca, .bool ta, .slice Ba ma da] (g := w.heap.size) rfl
 obtain ⟨W0, hW0⟩ : ∃ W0, W0 = (w.alloc (.cells #[.bool sa, .slice Aa na ca, .bool ta, .slice Ba ma da] 29)) := ⟨_, rfl⟩
 rw [← hW0] at hE;have HW0 := Lib.hid hW0;clear hW0
 go_enter Tryz.func95, Tryz.ntmps95
 go_upto_region 1 with (fail)
 rw [← HW0.out]
 by_cases h1 : na ≤ 256
 ·
  have una : decide ((na : Int) ≤ 256) = true := decide_eq_true (by omega);have xna : decide (na ≤ 256) = true := decide_eq_true (by omega)
  by_cases h2 : ma ≤ 256
  ·
   have uma : decide ((ma : Int) ≤ 256) = true := decide_eq_true (by omega);have xma : decide (ma ≤ 256) = true := decide_eq_true (by omega);obtain ⟨k1, k2, k3, k4⟩ := (hE.here.2).c4;go_wp2_with fail
   go_ret
   exact ⟨by rw [xna, xma]; rfl, hE.bel⟩
  ·
   have uma : decide ((ma : Int) ≤ 256) = false := decide_eq_false (by omega);have xma : decide (ma ≤ 256) = false := decide_eq_false (by omega);obtain ⟨k5, k6, k7, k8⟩ := (hE.here.2).c4;go_wp2_with fail
   go_ret
   exact ⟨by rw [xna, xma]; rfl, hE.bel⟩
 ·
  have una : decide ((na : Int) ≤ 256) = false := decide_eq_false (by omega);have xna : decide (na ≤ 256) = false := decide_eq_false (by omega);obtain ⟨k9, k10, k11, k12⟩ := (hE.here.2).c4;go_wp2_with fail
  go_ret
  exact ⟨by rw [xna]; rfl, hE.bel⟩
theorem gcd_len2 {f g : Nat → Nat} {n m : Nat} (hg : ∀ j, j < m → g j < 65536) (hm : 0 < vs b16 g m) : ln b16 (Nat.gcd (vs b16 f n) (vs b16 g m)) ≤ m := by
 rw [ln_le b16_two];exact Nat.lt_of_le_of_lt (Nat.le_of_dvd hm (Nat.gcd_dvd_right _ _)) (vs_lt hg)
theorem vs_top {b : Nat} (hb : 2 ≤ b) (f : Nat → Nat) {n : Nat} (hn : n ≠ 0) (h : f (n - 1) ≠ 0) : vs b f n ≠ 0 := by
 obtain ⟨k, rfl⟩ : ∃ k, n = k + 1 := ⟨n - 1, by omega⟩
 rw [vs_succ];have h1 : f k ≠ 0 := h;have h2 : 0 < b ^ k := Nat.pow_pos (by omega);have h3 := Nat.mul_pos (Nat.pos_of_ne_zero h1) h2;rw [Nat.mul_comm] at h3;omega
theorem rfvalid_any {sa ta : Bool} {Aa Ba : Option Addr} {na ca ma da : Nat} {fa ga : Nat → Nat} {w : World} (ra : FRd w Aa na fa Ba ma ga) (hn : na ≤ 900000) (hm : ma ≤ 900000) :
  Calls Tryz.prog 57 #[.agg #[.bool sa, .slice Aa na ca, .bool ta, .slice Ba ma da]] w (fun e w' => e = .returned (.bool (okF sa na fa ta ma ga)) ∧ Below w.heap.size w w') := by
 obtain ⟨r, hres⟩ : ∃ r, r = okF sa na fa ta ma ga := ⟨_, rfl⟩
 rw [← hres];unfold okF at hres;have HR := Lib.hid hres;clear hres;obtain ⟨rd1, rd2, rd3, rd4⟩ := ra;have R1 := Lib.hid rd1;have R2 := Lib.hid rd2;have R3 := Lib.hid rd3;have R4 := Lib.hid rd4;clear rd1 rd2 rd3 rd4;have hE := (Env.start w).blk 29 #[.bool sa, .slice Aa na ca, .bool ta, .slice Ba ma da] (g := w.heap.size) rfl
 obtain ⟨W0, hW0⟩ : ∃ W0, W0 = (w.alloc (.cells #[.bool sa, .slice Aa na ca, .bool ta, .slice Ba ma da] 29)) := ⟨_, rfl⟩
 rw [← hW0] at hE;have HW0 := Lib.hid hW0;clear hW0
 go_enter Tryz.func57, Tryz.ntmps57
 go_upto_region 1 with (fail)
 rw [← HW0.out]
 obtain ⟨v1, hv1⟩ : ∃ v1, okW sa na fa = v1 := ⟨_, rfl⟩
 obtain ⟨v2, hv2⟩ : ∃ v2, okW ta ma ga = v2 := ⟨_, rfl⟩
 have HV1 := Lib.hid hv1;have HV2 := Lib.hid hv2;clear hv1 hv2;obtain ⟨k1, k2, k3, k4⟩ := (hE.here.2).c4;go_wp2_with fail
 have hc := rvalid_any sa Aa na ca fa _ ((R1.out.below hE.bel).more hE.bel.size) R3.out (by omega);rw [HV1.out] at hc;refine hc.mono ?_;clear hc;clear k1 k2 k3 k4
 rintro e v01 ⟨rfl, hb⟩
 replace hE := hE.step hb;clear hb
 cases v1
 ·
  go_wp2_with fail
  go_ret
  refine ⟨ret_bool ?_, hE.bel⟩;rw [HR.out]
  rw [HV1.out]; cases decide (256 < na) <;> cases decide (256 < ma) <;> rfl
 ·
  obtain ⟨k5, k6, k7, k8⟩ := (hE.here.2).c4;go_wp2_with fail
  have hc := rvalid_any ta Ba ma da ga _ ((R2.out.below hE.bel).more hE.bel.size) R4.out (by omega);rw [HV2.out] at hc;refine hc.mono ?_;clear hc;clear k5 k6 k7 k8
  rintro e v02 ⟨rfl, hb⟩
  replace hE := hE.step hb;clear hb
  cases v2
  ·
   go_wp2_with fail
   go_ret
   refine ⟨ret_bool ?_, hE.bel⟩;rw [HR.out]
   rw [HV1.out, HV2.out]; cases decide (256 < na) <;> cases decide (256 < ma) <;> rfl
  ·
   obtain ⟨v3, hv3⟩ : ∃ v3, (decide (na ≤ 256) && decide (ma ≤ 256)) = v3 := ⟨_, rfl⟩
   have HV3 := Lib.hid hv3;clear hv3;obtain ⟨k9, k10, k11, k12⟩ := (hE.here.2).c4;go_wp2_with fail
   have hc := rffits_any (sa := sa) (ta := ta) (Aa := Aa) (Ba := Ba) (na := na) (ca := ca) (ma := ma) (da := da) (w := v02);rw [HV3.out] at hc;refine hc.mono ?_;clear hc;clear k9 k10 k11 k12
   rintro e v03 ⟨rfl, hb⟩
   replace hE := hE.step hb;clear hb
   have hfit : (decide (256 < na) || decide (256 < ma)) = !v3 := by
    rw [← HV3.out, Bool.not_and, ← decide_not, ← decide_not]; simp only [Nat.not_le]
   have HF := Lib.hid hfit;clear hfit
   cases v3
   ·
    go_wp2_with fail
    go_ret
    refine ⟨ret_bool ?_, hE.bel⟩;rw [HR.out];rw [HF.out]; rfl
   ·
    cases ta
    rotate_left
    ·
     obtain ⟨k13, k14, k15, k16⟩ := (hE.here.2).c4;go_wp2_with fail
     go_ret
     refine ⟨ret_bool ?_, hE.bel⟩;rw [HR.out];rw [HF.out, HV1.out, HV2.out]; rfl
    by_cases h0 : ma = 0
    ·
     subst h0;obtain ⟨k17, k18, k19, k20⟩ := (hE.here.2).c4;go_wp2_with fail
     go_ret
     refine ⟨ret_bool ?_, hE.bel⟩;rw [HR.out];rw [HF.out, HV1.out, HV2.out]; rfl
    ·
     have t1 : ((ma : Int) == 0) = false := beq_eq_false_iff_ne.2 (by omega);have t2 : (ma == 0) = false := beq_eq_false_iff_ne.2 h0;have T0 := Lib.hid h0;clear h0;have x1 := okW_wv ((R1.out.below hE.bel).more hE.bel.size) R3.out HV1.out;have x2 := okW_wv ((R2.out.below hE.bel).more hE.bel.size) R4.out HV2.out;have hE := (hE.wv x1).wv x2;clear x1 x2
     obtain ⟨gg, hgg⟩ : ∃ x, x = Nat.gcd (vs b16 fa na) (vs b16 ga ma) := ⟨_, rfl⟩
     have HG := Lib.hid hgg;clear hgg;obtain ⟨k21, k22, k23, k24⟩ := (hE.h2).c4;go_wp2_with fail
     have hc := rcommon_v (c := ca) (d := da) (hE.here.1.2) (hE.here.2) (by omega) (by omega);rw [toI_abs, toI_abs, ← HG.out] at hc;refine hc.mono ?_;clear hc;clear k21 k22 k23 k24
     rintro e v04 ⟨Ag, ng, cg, rfl, hg, hb⟩
     replace hE := hE.step hb;clear hb;replace hE := hE.wv hg
     have hng : ng ≤ 1000000 := by
      rw [hg.len, HG.out, Int.natAbs_natCast];refine Nat.le_trans (gcd_len2 (f := fa) (g := ga) R4.out ?_) (by omega);have hx := HV2.out;unfold okW at hx;rw [if_neg T0.out] at hx;have hy := (Bool.and_eq_true_iff.1 hx).2;exact Nat.pos_of_ne_zero (fun h => by have := vs_top b16_two ga T0.out (fun h9 => by rw [h9] at hy; exact absurd hy (by decide)); omega)
     clear hg;go_wp2_with fail
     have hc := rone_v (c := cg) (hE.here.2) hng;refine hc.mono ?_;clear hc
     rintro e v05 ⟨rfl, hb⟩
     replace hE := hE.step hb;clear hb
     obtain ⟨v5, hv5⟩ : ∃ v, v = decide (((gg : Nat) : Int) = 1) := ⟨_, rfl⟩
     rw [← hv5];have HV5 := Lib.hid hv5;clear hv5;go_wp2_with fail
     go_ret
     refine ⟨ret_bool ?_, hE.bel⟩;rw [HR.out, HF.out, HV1.out, HV2.out, HV5.out, HG.out, decide_eq_false T0.out];generalize Nat.gcd (vs b16 fa na) (vs b16 ga ma) = x
     have h9 : decide ((x : Int) = 1) = (x == 1) := by rw [Bool.eq_iff_iff, decide_eq_true_iff, beq_iff_eq]; omega
     rw [h9];rfl
end
section
open Go.RowKit

def skip (i k : Nat) : Nat := if k < i then k else k + 1
def lenW (i j : Nat) : Nat := if i < j then j - 1 else j
theorem skip_len {i j : Nat} (h : j ≠ i) : skip i (lenW i j) = j ∧ lenW i (j + 1) = lenW i j + 1 := by
 unfold skip lenW
 constructor
 · split <;> split <;> omega
 · split <;> split <;> omega
theorem skip_own (i : Nat) : lenW i (i + 1) = lenW i i := by
 unfold lenW
 split <;> split <;> omega
theorem lenW_le (i j : Nat) : lenW i j ≤ j := by unfold lenW; split <;> omega
theorem skip_lt {i k n : Nat} (hi : i < n) (h : k < n - 1) : skip i k < n := by unfold skip; split <;> omega
theorem skip_up (i k : Nat) : skip i k < skip i (k + 1) := by unfold skip; split <;> split <;> omega
theorem ClOK.up {n : Nat} {r : Nat → Cl} (h : ClOK n r) : ∀ {d j : Nat}, j + (d + 1) < n → (r j).I < (r (j + (d + 1))).I
 | 0, j, hk => (h.2 (j + 1) hk).1 j rfl
 | d + 1, j, hk => by
  have h1 := ClOK.up h (d := d) (j := j) (by omega);have h2 := (h.2 (j + (d + 1) + 1) (by omega)).1 (j + (d + 1)) rfl
  have h3 : j + (d + 1 + 1) = j + (d + 1) + 1 := by omega
  rw [h3];omega
theorem ClOK.lt {n : Nat} {r : Nat → Cl} (h : ClOK n r) {j k : Nat} (hjk : j < k) (hk : k < n) : (r j).I < (r k).I := by
 obtain ⟨d, rfl⟩ : ∃ d, k = j + (d + 1) := ⟨k - j - 1, by omega⟩
 exact h.up hk
theorem ClOK.inj {n : Nat} {r : Nat → Cl} (h : ClOK n r) {j k : Nat} (hj : j < n) (hk : k < n) (e : (r j).I = (r k).I) : j = k := by
 rcases Nat.lt_trichotomy j k with h1 | h1 | h1
 · have := h.lt h1 hk; omega
 · exact h1
 · have := h.lt h1 hj; omega
theorem clone_num {q : Rat} {s t : Bool} {A A' B : Option Addr} {n m : Nat} {w : World} (h : FV w q s A n t B m) {w' : World} (hb : Below w.heap.size w w') (hn : Num16 w' A' q.num.natAbs) : FV w' q s A' n t B m := ⟨⟨h.1.1, h.1.2.1, hn⟩, h.2.below hb⟩
theorem clone_den {q : Rat} {s t : Bool} {A B' B : Option Addr} {n m : Nat} {w : World} (h : FV w q s A n t B m) {w' : World} (hb : Below w.heap.size w w') (hn : Num16 w' B' ((q.den : Nat) : Int).natAbs) : FV w' q s A n t B' m := ⟨h.1.below hb, ⟨h.2.1, h.2.2.1, hn⟩⟩
def WoP (i n : Nat) (r : Nat → Cl) (w : World) (e : Ending) (w' : World) : Prop :=
 (i < n ∧ ∃ A2 c2 r2, e = .returned (.tuple #[.slice A2 (n - 1) c2, .int .i64 0]) ∧ ClM A2 (n - 1) r2 w' ∧ ClOK (n - 1) r2 ∧ (∀ k, k < n - 1 → (r2 k).I = (r (skip i k)).I ∧ wq r2 k = wq r (skip i k) ∧ Kz r2 k = Kz r (skip i k)) ∧ Below w.heap.size w w') ∨
 (n ≤ i ∧ e = .returned (.tuple #[.slice none 0 0, .int .i64 6]) ∧ Below w.heap.size w w')
theorem wo_ok {i n : Nat} {r : Nat → Cl} {h : Nat → FH} {W : World} (hok : ClOK n r) (hw : ∀ k, k < n → 0 ≤ wq r k ∧ fl (wq r k) ≤ 4) (hi : i < n) (hq : FqS h (n - 1) (fun j => wq r (skip i j)) W) : ClOK (n - 1) (clB (fun j => (r (skip i j)).I) (fun j => Kz r (skip i j)) h (fun j => wq r (skip i j))) ∧ ∀ k, k < n - 1 → (clB (fun j => (r (skip i j)).I) (fun j => Kz r (skip i j)) h (fun j => wq r (skip i j)) k).I = (r (skip i k)).I ∧ wq (clB (fun j => (r (skip i j)).I) (fun j => Kz r (skip i j)) h (fun j => wq r (skip i j))) k = wq r (skip i k) ∧ Kz (clB (fun j => (r (skip i j)).I) (fun j => Kz r (skip i j)) h (fun j => wq r (skip i j))) k = Kz r (skip i k) := by
 refine ⟨⟨by have := hok.1; omega, fun k hk => ⟨fun j hj => ?_, ?_⟩⟩, fun k hk => ⟨rfl, wq_built hq hk, rfl⟩⟩
 ·
  subst hj;exact hok.lt (skip_up i j) (skip_lt hi hk)
 ·
  have hs := skip_lt hi hk;exact (Cl.ok_of (hq k hk) (hw _ hs).1 (hw _ hs).2 (hok.K _ hs)).1
theorem swithout_v {A : Option Addr} {n c : Nat} {r : Nat → Cl} {w : World} (z : Int) (i : Nat) (hM : ClM A n r w) (hok : ClOK n r) (hn : n ≤ 32) (hz : ∀ k, k < n → ((r k).I = z ↔ k = i)) :
  Calls Tryz.prog 36 #[.slice A n c, .int .i64 z] w (WoP i n r w) := by
 have HhM := Lib.hid hM;clear hM;have Hhok := Lib.hid hok;clear hok;have Hhz := Lib.hid hz;clear hz;have hw4 := Hhok.out.w HhM.out;have Hhw4 := Lib.hid hw4;clear hw4;have hE := Env.start w
 go_enter Tryz.func36, Tryz.ntmps36
 go_wp2_with fail
 refine (svalid_any A n c r _ (HhM.out.below hE.bel)).mono ?_
 rintro e w1 ⟨v, rfl, hv, hb⟩
 replace hE := hE.step hb;obtain rfl : v = true := hv.2 Hhok.out;clear hv hb;go_wp2_with fail
 go_loopw [6, 14] (fun mv x wr => ∃ (j : Nat) (h : Nat → FH) (v : Value), j ≤ n ∧ v = mv ∧ x = .int .i64 (j : Int) ∧ Env w (fun V => ((True ∧ RwV 46 6 w.heap.size v (lenW i j) (clR (fun j => (r (skip i j)).I) (fun j => Kz r (skip i j)) h) V) ∧ FqS h (lenW i j) (fun j => wq r (skip i j)) V)) wr) (fun _ x _ => n - (intOf x).toNat)
 case atStart => exact ⟨0, fun _ => zFH, .slice none 0 0, Nat.zero_le _, rfl, rfl, (hE.rwv (.inl ⟨rfl, rfl⟩)).fqs (fun j hj => absurd hj (Nat.not_lt_zero j))⟩
 case round =>
  clear hE;obtain ⟨j, h, v, hj, rfl, rfl, hE⟩ := hrel
  by_cases hlt : j < n
  rotate_left
  ·
   obtain rfl : n = j := by omega
   have t1 : decide ((n : Int) < (n : Int)) = false := decide_eq_false (by omega);have hF := Lib.hid (hE.here.2);obtain ⟨A2, c2, rfl, hM2⟩ := clm_built (hE.here.1.2) (hE.here.2);replace hE := (Env.again hE.bel).clm hM2;clear hM2
   by_cases hin : i < n
   ·
    have hl : lenW i n = n - 1 := by unfold lenW; rw [if_pos hin]
    have t2 : ((lenW i n : Nat) == n) = false := beq_eq_false_iff_ne.2 (by omega);have t3 : (((lenW i n : Nat) : Int) == (n : Int)) = false := beq_eq_false_iff_ne.2 (by omega);have Hhin := Lib.hid hin;clear hin;have Hhl := Lib.hid hl;clear hl;go_wp2_with fail
    refine bodyPost_ret (v := .tuple #[.slice A2 (lenW i n) c2, .int .i64 0]) (by simp [results, Tryz.results36, go_sem]) rfl ?_;have hl := Hhl.out;have hq := hF.out;rw [hl] at hq hE ⊢;obtain ⟨o1, o2⟩ := wo_ok Hhok.out Hhw4.out Hhin.out hq;exact .inl ⟨Hhin.out, _, _, _, rfl, hE.here.2, o1, o2, hE.bel⟩
   have hl : lenW i n = n := by unfold lenW; rw [if_neg hin]
   have t2 : ((lenW i n : Nat) == n) = true := beq_iff_eq.2 hl;have t3 : (((lenW i n : Nat) : Int) == (n : Int)) = true := beq_iff_eq.2 (by omega);have Hhin := Lib.hid hin;clear hin;have Hhl := Lib.hid hl;clear hl;go_wp2_with fail
   refine bodyPost_ret (v := .tuple #[.slice none 0 0, .int .i64 6]) (by simp [results, Tryz.results36, go_sem]) rfl ?_;exact .inr ⟨by have := Hhin.out; omega, rfl, hE.bel⟩
  have t1 : decide ((j : Int) < (n : Int)) = true := decide_eq_true (by omega)
  have t2 : (j : Int) < (n : Int) := by omega
  obtain ⟨b, o, rfl, hb, hc⟩ := (HhM.out.below hE.bel) (by omega)
  obtain ⟨x, hx⟩ : ∃ x, x = r j := ⟨_, rfl⟩
  obtain ⟨⟨d0, d1, d2, d3, d4, d5⟩, -⟩ := hc j hlt;rw [← hx] at d0 d1 d2 d3 d4 d5;clear hb hc;have hwv := ClM.fv (HhM.out.below hE.bel) Hhok.out hlt
  obtain ⟨pw, hpw⟩ : ∃ pw, pw = wq r j := ⟨_, rfl⟩
  have hxw : FV wr pw x.w.s x.w.A x.w.n x.w.t x.w.B x.w.m := by rw [hx, hpw]; exact hwv.2.1
  clear hwv
  have hfw : fl pw ≤ 4 := by rw [hpw]; exact (Hhw4.out j hlt).2
  obtain ⟨hln, hlm⟩ := hxw.ln hfw
  have hzj : x.I = z ↔ j = i := by rw [hx]; exact Hhz.out j hlt
  have hown : ∀ q, v.ownBlock = some q → q < wr.heap.size := (hE.here.1.2).lt
  have Hhx := Lib.hid hx;clear hx;have Hhpw := Lib.hid hpw;clear hpw;have Hhzj := Lib.hid hzj;clear hzj;have Hhown := Lib.hid hown;clear hown;replace hE := hE.fv hxw;clear hxw
  go_upto_region 7 with (fail)
  clear d0 d1 d2 d3 d4 d5 t1
  obtain ⟨g1, hg1⟩ : ∃ g1, g1 = wr.heap.size := ⟨_, rfl⟩
  have hlw_g1 : w.heap.size ≤ g1 := by rw [hg1]; exact hE.bel.size
  have hown : ∀ q, v.ownBlock = some q → q < g1 := by rw [hg1]; exact Hhown.out
  replace hE := hE.blk 46 #[.int .i64 x.I, .bool x.w.s, .slice x.w.A x.w.n x.w.c, .bool x.w.t, .slice x.w.B x.w.m x.w.d, .int .i64 x.K] (g := g1) hg1.symm;generalize wr.alloc (.cells #[.int .i64 x.I, .bool x.w.s, .slice x.w.A x.w.n x.w.c, .bool x.w.t, .slice x.w.B x.w.m x.w.d, .int .i64 x.K] 46) = W1 at hE ⊢;rw [← hg1];clear hg1;clear Hhown
  by_cases hji : j = i
  ·
   have u1 : (x.I != z) = false := by rw [bne_eq_false_iff_eq]; exact Hhzj.out.2 hji
   subst hji;have hl := Lib.hid (skip_own j);have k2 := (hE.here.2).cell 0;have k3 := (hE.here.2).cell 1;have k4 := (hE.here.2).cell 2;have k5 := (hE.here.2).cell 3;have k6 := (hE.here.2).cell 4;have k7 := (hE.here.2).cell 5;have hown := Lib.hid hown;go_wp2_with fail
   clear k2 k3 k4 k5 k6 k7
   go_roundw
   case rel => refine ⟨j + 1, h, v, by omega, rfl, by go_num, ?_⟩; rw [hl.out]; exact (((Env.again hE.bel).rwv (hE.h3)).fqs (hE.h2))
   case measure => simp [intOf]; omega
  have u1 : (x.I != z) = true := by rw [bne_iff_ne]; exact fun h => hji (Hhzj.out.1 h)
  obtain ⟨hs1, hs2⟩ := skip_len hji;have Hhs1 := Lib.hid hs1;clear hs1;have Hhs2 := Lib.hid hs2;clear hs2;have Hhji := Lib.hid hji;clear hji;have hown := Lib.hid hown;have k8 := (hE.here.2).cell 0;have k9 := (hE.here.2).cell 1;have k10 := (hE.here.2).cell 2;have k11 := (hE.here.2).cell 3;have k12 := (hE.here.2).cell 4;have k13 := (hE.here.2).cell 5;go_wp2_with fail
  clear k8 k9 k10 k11 k12 k13;have hfv := hE.here.1.2;refine (clone_v (hE.here.1.2).1 (by omega)).mono ?_
  rintro e w14 ⟨A1, c1, rfl, hnum, hb⟩
  have hnew := clone_num (hE.here.1.2) hb hnum;replace hE := (hE.step hb).fv hnew;clear hb hnum hnew hfv;have x15 := (hE.here.1.2).cell 2;have f15 := (hE.here.1.2).frozen 2;replace hE := ((((((Env.again (hE.bel.setCell (p := ⟨g1, 2, none⟩) (by show w.heap.size ≤ g1; omega) (.slice A1 x.w.n c1))).rwv ((hE.h4).farN (fun q e => by have := hown.out q e; omega) (grownBy_setCellI _ _ 2 (.slice A1 x.w.n c1)))).fqs (FqS.grownB (hE.h3) (hE.here.1.2) rfl (grownBy_setCellI _ _ 2 (.slice A1 x.w.n c1)))).fv ((hE.h2).sep (i := 2) (hE.here.1.2) rfl (.slice A1 x.w.n c1))).blkI (show Blk 46 g1 #[.int .i64 x.I, .bool x.w.s, .slice A1 x.w.n c1, .bool x.w.t, .slice x.w.B x.w.m x.w.d, .int .i64 x.K] _ by simpa using (hE.here.1.2).set_ 2 (.slice A1 x.w.n c1))).fv ((hE.here.2).sep (i := 2) (hE.here.1.2) rfl (.slice A1 x.w.n c1)))
  go_upto_region 9 with (fail)
  clear x15 f15;generalize w14.setCell ⟨g1, 2, none⟩ (.slice A1 x.w.n c1) = W15 at hE ⊢;have k16 := (hE.here.1.2).cell 0;have k17 := (hE.here.1.2).cell 1;have k18 := (hE.here.1.2).cell 2;have k19 := (hE.here.1.2).cell 3;have k20 := (hE.here.1.2).cell 4;have k21 := (hE.here.1.2).cell 5;go_wp2_with fail
  clear k16 k17 k18 k19 k20 k21;refine (clone_v (hE.here.2).2 (by omega)).mono ?_
  rintro e w22 ⟨B1, c3, rfl, hnum, hb⟩
  have hnew := clone_den (hE.here.2) hb hnum;replace hE := (hE.step hb).fv hnew;clear hb hnum hnew;have x23 := (hE.h2).cell 4;have f23 := (hE.h2).frozen 4;replace hE := (((((((Env.again (hE.bel.setCell (p := ⟨g1, 4, none⟩) (by show w.heap.size ≤ g1; omega) (.slice B1 x.w.m c3))).rwv ((hE.h5).farN (fun q e => by have := hown.out q e; omega) (grownBy_setCellI _ _ 4 (.slice B1 x.w.m c3)))).fqs (FqS.grownB (hE.h4) (hE.h2) rfl (grownBy_setCellI _ _ 4 (.slice B1 x.w.m c3)))).fv ((hE.h3).sep (i := 4) (hE.h2) rfl (.slice B1 x.w.m c3))).blkI (show Blk 46 g1 #[.int .i64 x.I, .bool x.w.s, .slice A1 x.w.n c1, .bool x.w.t, .slice B1 x.w.m c3, .int .i64 x.K] _ by simpa using (hE.h2).set_ 4 (.slice B1 x.w.m c3))).fv ((hE.here.1.2).sep (i := 4) (hE.h2) rfl (.slice B1 x.w.m c3))).fv ((hE.here.2).sep (i := 4) (hE.h2) rfl (.slice B1 x.w.m c3)))
  go_upto_region 10 with (fail)
  clear x23 f23;generalize w22.setCell ⟨g1, 4, none⟩ (.slice B1 x.w.m c3) = W23 at hE ⊢;have hbA := belAlloc W23 (.cells #[.int .i64 x.I, .bool x.w.s, .slice A1 x.w.n c1, .bool x.w.t, .slice B1 x.w.m c3, .int .i64 x.K] 46);have hBn := Blk.new W23 46 #[.int .i64 x.I, .bool x.w.s, .slice A1 x.w.n c1, .bool x.w.t, .slice B1 x.w.m c3, .int .i64 x.K];have hE2 := hE.step hbA;have hlj := lenW_le i j;obtain ⟨v2, wz, hr, hR2, hgw⟩ := push_claim 22 (hE2.here.1.1.1.1.1.2) hE2.bel.size (⟨x.w.s, A1, x.w.n, c1, fun _ => 0, x.w.t, B1, x.w.m, c3, fun _ => 0⟩ : FH) (show Blk 46 _ (clL ((fun j => (r (skip i j)).I) (lenW i j)) ((fun j => Kz r (skip i j)) (lenW i j)) (⟨x.w.s, A1, x.w.n, c1, fun _ => 0, x.w.t, B1, x.w.m, c3, fun _ => 0⟩ : FH)).toArray _ from by show Blk _ _ (clL (r (skip i (lenW i j))).I (r (skip i (lenW i j))).K _).toArray _; rw [Hhs1.out, ← Hhx.out]; exact hBn) (by omega);have hq2 := (FqS.grownR (hE2.here.1.1.1.1.2) (hE2.here.1.1.1.1.1.2) hgw).push (x := (⟨x.w.s, A1, x.w.n, c1, fun _ => 0, x.w.t, B1, x.w.m, c3, fun _ => 0⟩ : FH)) (FV.grownR ((hE2.here.2).to (show pw = wq r (skip i (lenW i j)) by rw [Hhs1.out, Hhpw.out])) (hE2.here.1.1.1.1.1.2) hgw);have hE3 := ((Env.again (Go.Proofs.YtjgihmmeimfheaaGreat.Below.grownR hE2.bel (hE2.here.1.1.1.1.1.2) hgw (Nat.le_refl _) hE2.bel.size)).rwv hR2).fqs hq2;have HF := Lib.hid hE3;clear hbA hBn hE2 hlj hR2 hgw hq2 hE3;have k24 := (hE.h2).cell 0;have k25 := (hE.h2).cell 1;have k26 := (hE.h2).cell 2;have k27 := (hE.h2).cell 3;have k28 := (hE.h2).cell 4;have k29 := (hE.h2).cell 5;go_wp2_with (first | refine wpList_appP hr rfl rfl rfl rfl ?_)
  clear k24 k25 k26 k27 k28 k29;have hE3 := HF.out
  go_roundw
  case rel => refine ⟨j + 1, updF h (lenW i j) (⟨x.w.s, A1, x.w.n, c1, fun _ => 0, x.w.t, B1, x.w.m, c3, fun _ => 0⟩ : FH), v2, by omega, rfl, by go_num, ?_⟩; rw [Hhs2.out]; exact hE3
  case measure => simp [intOf]; omega
end
section
open Go.RowKit

theorem rstotal_v {A : Option Addr} {n c : Nat} {r : Nat → Cl} {w : World} (a : Int) (hM : ClM A n r w) (hok : ClOK n r) (hn : n ≤ 32) :
  Calls Tryz.prog 102 #[.int .i64 a, .slice A n c] w (fun e w' => e = .returned (.int .i64 (totZ a (wq r) (Kz r) n)) ∧ Below w.heap.size w w') := by
 have hKb := hok.K
 have hcb := fun k (hk : k ≤ n) => capS_b (w := wq r) (K := Kz r) (n := k) (M := 1099511627776) (fun j hj => hKb j (by omega)) (by decide)
 have hE := Env.start w;have Hhok := Lib.hid hok;clear hok;have Hhcb := Lib.hid hcb;clear hcb;have HhM := Lib.hid hM;clear hM
 have hmin : ∀ (W : World) (ts : Array TypeId) (t : TypeId), (Builtin.min_ ts t #[.int .i64 (capS (wq r) (Kz r) n), .int .i64 a]).run Tryz.prog W = .ok (.int .i64 (totZ a (wq r) (Kz r) n)) W := by
  intro W ts t; rw [run_min_int2]; congr 2; unfold totZ; split <;> omega
 have Hmin := Lib.hid hmin;clear hmin
 go_enter Tryz.func102, Tryz.ntmps102
 go_wp2_with fail
 go_loopw [5, 6] (fun s x wr => ∃ k : Nat, k ≤ n ∧ s = .int .i64 (capS (wq r) (Kz r) k) ∧ x = .int .i64 (k : Int) ∧ Env w (fun V => True) wr) (fun _ x _ => n - (intOf x).toNat)
 case atStart => exact ⟨0, Nat.zero_le _, rfl, rfl, hE⟩
 case round =>
  clear hE;obtain ⟨k, hk, rfl, rfl, hE⟩ := hrel
  by_cases hlt : k < n
  rotate_left
  ·
   obtain rfl : k = n := by omega
   have t1 : decide ((k : Int) < (k : Int)) = false := decide_eq_false (by omega);have hmin := Hmin.out;go_wp2_with fail
   go_ret
   exact ⟨rfl, hE.bel⟩
  obtain ⟨b, o, rfl, hb, hc⟩ := (HhM.out.below hE.bel) (by omega);clear hb
  obtain ⟨x, hx⟩ : ∃ x, x = r k := ⟨_, rfl⟩
  obtain ⟨⟨d0, d1, d2, d3, d4, d5⟩, hrd⟩ := hc k hlt;rw [← hx] at d0 d1 d2 d3 d4 d5 hrd
  have hxok : x.ok := by rw [hx]; exact (Hhok.out.2 k hlt).2
  have hfv := (Cl.fv hxok hrd).1;have t1 : decide ((k : Int) < (n : Int)) = true := decide_eq_true (by omega)
  have t2 : (k : Int) < (n : Int) := by omega
  obtain ⟨s, hs⟩ : ∃ s, s = capS (wq r) (Kz r) k := ⟨_, rfl⟩
  have hcs : capS (wq r) (Kz r) (k + 1) = s + if x.w.q = 0 then 0 else x.K := by rw [hs, hx]; rfl
  have hsb : 0 ≤ s ∧ s ≤ 35184372088832 := by have := Hhcb.out k hk; rw [hs]; omega
  have hxb : 0 ≤ x.K ∧ x.K ≤ 1099511627776 := by have := Hhok.out.K k hlt; rw [hx]; exact this
  rw [← hs];replace hE := hE.fv hfv;have Hhx := Lib.hid hx;clear hx;have Hhs := Lib.hid hs;clear hs;have Hhcs := Lib.hid hcs;clear hcs;clear hc hrd hxok hfv d0 d5;go_wp2_with fail
  clear d1 d2 d3 d4 t1
  obtain ⟨v, hv⟩ : ∃ v, v = decide (x.w.q.num = 0) := ⟨_, rfl⟩
  have hvz : v = true ↔ x.w.q = 0 := by rw [hv, decide_eq_true_iff]; exact Rat.num_eq_zero
  have hcon := rfzero_v (ca := x.w.c) (da := x.w.d) (hE.here.2);rw [← hv] at hcon;clear hv;refine hE.br (hcon) ?_;clear hE;intro w1 hE;clear hcon
  cases v with
  | true =>
   have h0 := hvz.1 rfl;have Hh0 := Lib.hid h0;clear h0;clear hvz;go_wp2_with fail
   go_roundw
   case rel => exact ⟨k + 1, by omega, by rw [Hhcs.out, if_pos Hh0.out, Int.add_zero], by go_num, Env.again hE.bel⟩
   case measure => simp [intOf]; omega
  | false =>
   have h0 : ¬ x.w.q = 0 := fun h => by have := hvz.2 h; cases this
   have Hh0 := Lib.hid h0;clear h0;clear hvz;obtain ⟨b2, o2, e2, -, hc2⟩ := (HhM.out.below hE.bel) (by omega)
   cases e2
   obtain ⟨⟨d0, d1, d2, d3, d4, d5⟩, -⟩ := hc2 k hlt;rw [← Hhx.out] at d5;clear hc2 d0 d1 d2 d3 d4
   have o1 : IntKind.i64.wrap (s + x.K) = s + x.K := by rw [IntKind.wrap_i64]; omega
   go_wp2_with fail
   go_roundw
   case rel => exact ⟨k + 1, by omega, by rw [Hhcs.out, if_neg Hh0.out], by go_num, Env.again hE.bel⟩
   case measure => simp [intOf]; omega
end
section
open Go.RowKit

theorem rspart_v {t p : Rat} {sq tq : Bool} {Aq Bq : Option Addr} {nq cq mq dq : Nat} {x : Cl} {w : World} (hq : FV w t sq Aq nq tq Bq mq) (hx : FV w p x.w.s x.w.A x.w.n x.w.t x.w.B x.w.m) (lt : fl t ≤ 76) (lp : fl p ≤ 4) (bx : 0 ≤ x.K ∧ x.K ≤ 1099511627776) :
  Calls Tryz.prog 101 #[.agg #[.bool sq, .slice Aq nq cq, .bool tq, .slice Bq mq dq], .agg #[.int .i64 x.I, .bool x.w.s, .slice x.w.A x.w.n x.w.c, .bool x.w.t, .slice x.w.B x.w.m x.w.d, .int .i64 x.K]] w (FR (part t (p, ((x.K : Int) : Rat))) w) := by
 have hfp : fl (t * p) ≤ 80 := fl_times lt lp;have hfK : fl ((x.K : Int) : Rat) ≤ 3 := fl_int3 (by omega) (by omega);have hE := ((((Env.start w).fv hq).fv hx).blk 29 #[.bool sq, .slice Aq nq cq, .bool tq, .slice Bq mq dq] (g := w.heap.size) rfl).blk 92 #[.int .i64 x.I, .bool x.w.s, .slice x.w.A x.w.n x.w.c, .bool x.w.t, .slice x.w.B x.w.m x.w.d, .int .i64 x.K] (g := w.heap.size + 1) (by simp);have hE := hE.blk 29 #[.bool false, .slice none 0 0, .bool false, .slice none 0 0] (g := w.heap.size + 1 + 1) (by simp)
 obtain ⟨W0, hW0⟩ : ∃ W0, W0 = (((w.alloc (.cells #[.bool sq, .slice Aq nq cq, .bool tq, .slice Bq mq dq] 29)).alloc (.cells #[.int .i64 x.I, .bool x.w.s, .slice x.w.A x.w.n x.w.c, .bool x.w.t, .slice x.w.B x.w.m x.w.d, .int .i64 x.K] 92)).alloc (.cells #[.bool false, .slice none 0 0, .bool false, .slice none 0 0] 29)) := ⟨_, rfl⟩
 rw [← hW0] at hE;have HW0 := Lib.hid hW0;clear hW0
 go_enter Tryz.func101, Tryz.ntmps101
 go_upto_region 1 with (fail)
 rw [← HW0.out];obtain ⟨k1, k2, k3, k4⟩ := (hE.h2).c4;have k5 := (hE.here.1.2).cell 0;have k6 := (hE.here.1.2).cell 1;have k7 := (hE.here.1.2).cell 2;have k8 := (hE.here.1.2).cell 3;have k9 := (hE.here.1.2).cell 4;have k10 := (hE.here.1.2).cell 5;go_wp2_with fail
 refine hE.fr (rtimes_v (ca := cq) (da := dq) (cb := x.w.c) (db := x.w.d) (hE.h4) (hE.h3) (by omega) (by omega)) ?_;clear hE k1 k2 k3 k4 k5 k6 k7 k8 k9 k10;intro sr Ar nr cr tr Br mr dr w11 hE
 go_upto_region 2 with (fail)
 obtain ⟨g12, hg12⟩ : ∃ g12, g12 = w11.heap.size := ⟨_, rfl⟩
 have hl12_2 : w.heap.size < g12 := by rw [hg12]; exact (hE.h3).lt
 have hl12_3 : w.heap.size + 1 < g12 := by rw [hg12]; exact (hE.h2).lt
 have hl12_4 : w.heap.size + 1 + 1 < g12 := by rw [hg12]; exact (hE.here.1.2).lt
 replace hE := hE.blk 29 #[.bool sr, .slice Ar nr cr, .bool tr, .slice Br mr dr] (g := g12) hg12.symm;generalize w11.alloc (.cells #[.bool sr, .slice Ar nr cr, .bool tr, .slice Br mr dr] 29) = W12 at hE ⊢;rw [← hg12];clear hg12
 obtain ⟨v, hv⟩ : ∃ v, decide (0 < cmpQ (t * p) ((x.K : Int) : Rat)) = v := ⟨_, rfl⟩
 have hcm : v = true ↔ ¬ t * p ≤ ((x.K : Int) : Rat) := by
  rw [← hv, decide_eq_true_iff, cmpQ_val]
  split
  · rename_i h1; exact ⟨fun h2 => absurd h2 (by decide), fun h2 => absurd (Rat.le_of_lt h1) h2⟩
  ·
   rename_i h1; split
   · rename_i h2; exact ⟨fun h3 => absurd h3 (by decide), fun h3 => absurd (by rw [h2]; exact Rat.le_refl) h3⟩
   · rename_i h2; refine ⟨fun _ => fun h3 => ?_, fun _ => by decide⟩; grind
 have Hhcm := Lib.hid hcm;clear hcm;replace hE := hE.drew;refine wp_region_held_drew (S := fun V => Blk 29 (g12) #[.bool sr, .slice Ar nr cr, .bool tr, .slice Br mr dr] V ∧ Blk 92 (w.heap.size + 1) #[.int .i64 x.I, .bool x.w.s, .slice x.w.A x.w.n x.w.c, .bool x.w.t, .slice x.w.B x.w.m x.w.d, .int .i64 x.K] V) (by kernel_rfl) (⟨hE.here.2, hE.h3⟩) (fun hHeld => ?_)
 generalize W12.drew = wd at *
 refine tk 0 ?_ (hy := by
  intro w hSw;have kc0 := (hSw.1).cell 0;have kc1 := (hSw.1).cell 1;have kc2 := (hSw.1).cell 2;have kc3 := (hSw.1).cell 3;clear hSw
  first | (go_simp; done) | (go_simp; with_reducible rfl))
 try simp only [PL]
 refine tk 1 ?_
 refine tk 2 ?_ (hy := by
  intro w hSw;have kc0 := (hSw.2).cell 0;have kc1 := (hSw.2).cell 1;have kc2 := (hSw.2).cell 2;have kc3 := (hSw.2).cell 3;have kc4 := (hSw.2).cell 4;have kc5 := (hSw.2).cell 5;clear hSw
  first | (go_simp; done) | (go_simp; with_reducible rfl))
 try simp only [PL]
 refine r1 3 (fun K hK => ?_);go_simp;refine hE.fr (rffromInt_v x.K _ (by omega) (by omega)) ?_;clear hE;intro sf Af nf cf tf Bf mf df w13 hE;go_wp2_with fail
 refine hK.out _ _ (⟨hE.here.1.2, hE.h4⟩) (fun hHeld => ?_);clear hK K;try simp only [PL]
 refine r1 4 (fun K hK => ?_);go_simp;refine hE.br (rorder_v (ca := cr) (da := dr) (cb := cf) (db := df) (hE.h2) (hE.here.2) (by omega) (by omega)) ?_;clear hE;intro w14 hE;go_wp2_with fail
 refine hK.out _ _ (⟨hE.here.1.2, hE.h4⟩) (fun hHeld => ?_);clear hK K;try simp only [PL]
 refine tk 5 ?_;refine wpAnyH_done (by kernel_rfl) ?_ _
 cases v with
 | true =>
  have hq : ((x.K : Int) : Rat) = part t (p, ((x.K : Int) : Rat)) := by unfold part mn; rw [if_neg (Hhcm.out.1 (by simp))]
  have Hhq := Lib.hid hq;clear hq
  go_upto_region 3 with (fail)
  clear hv;have k15 := (hE.h4).cell 0;have k16 := (hE.h4).cell 1;have k17 := (hE.h4).cell 2;have k18 := (hE.h4).cell 3;have k19 := (hE.h4).cell 4;have k20 := (hE.h4).cell 5;go_wp2_with fail
  refine hE.fr (rffromInt_v x.K _ (by omega) (by omega)) ?_;clear hE k15 k16 k17 k18 k19 k20;intro s2 A2 n2 c2 t2 B2 m2 d2 w21 hE
  have hRl : w.heap.size ≤ w.heap.size + 1 + 1 := by omega
  obtain ⟨WW, hWW, hB, hV, hBel⟩ := ret_frac hE hE.h4 hRl hE.here.2 c2 d2;obtain ⟨x0, x1, x2, x3⟩ := (hE.h4).c4;obtain ⟨fz0, fz1, fz2, fz3⟩ := hE.h4.f4;have HWW := Lib.hid hWW;clear hWW;go_wp2_with fail
  clear x0 x1 x2 x3;rw [← HWW.out];obtain ⟨y0, y1, y2, y3⟩ := hB.c4;refine bodyPost_ret (v := .agg #[.bool s2, .slice A2 n2 c2, .bool t2, .slice B2 m2 d2]) (by simp [results, Tryz.results101, go_sem, y0, y1, y2, y3]) rfl ?_;exact ⟨s2, A2, n2, c2, t2, B2, m2, d2, rfl, hV.to Hhq.out, hBel⟩
 | false =>
  have hq : t * p = part t (p, ((x.K : Int) : Rat)) := by unfold part mn; rw [if_pos (Classical.byContradiction fun h1 => absurd (Hhcm.out.2 h1) Bool.false_ne_true)]
  have Hhq := Lib.hid hq;clear hq
  go_upto_region 4 with (fail)
  clear hv;obtain ⟨k22, k23, k24, k25⟩ := (hE.here.1.2).c4
  have hRl : w.heap.size ≤ w.heap.size + 1 + 1 := by omega
  obtain ⟨WW, hWW, hB, hV, hBel⟩ := ret_frac hE hE.h3 hRl hE.h2 cr dr;obtain ⟨x0, x1, x2, x3⟩ := (hE.h3).c4;obtain ⟨fz0, fz1, fz2, fz3⟩ := hE.h3.f4;have HWW := Lib.hid hWW;clear hWW;go_wp2_with fail
  clear x0 x1 x2 x3;rw [← HWW.out];obtain ⟨y0, y1, y2, y3⟩ := hB.c4;refine bodyPost_ret (v := .agg #[.bool sr, .slice Ar nr cr, .bool tr, .slice Br mr dr]) (by simp [results, Tryz.results101, go_sem, y0, y1, y2, y3]) rfl ?_;exact ⟨sr, Ar, nr, cr, tr, Br, mr, dr, rfl, hV.to Hhq.out, hBel⟩
end
section

theorem su_le {f g : Nat → Rat} : ∀ {n : Nat}, (∀ k, k < n → f k ≤ g k) → su f n ≤ su g n
 | 0, _ => Rat.le_refl
 | n + 1, h => by
  unfold su;have h1 := su_le (n := n) (fun k hk => h k (by omega));have h2 := h n (Nat.lt_succ_self n)
  grind
theorem su_eq {f g : Nat → Rat} : ∀ {n : Nat}, (∀ k, k < n → f k ≤ g k) → su f n = su g n → ∀ k, k < n → f k = g k
 | 0, _, _, k, hk => absurd hk (Nat.not_lt_zero k)
 | n + 1, h, e, k, hk => by
  unfold su at e;have h1 := su_le (n := n) (fun k hk => h k (by omega));have h2 := h n (Nat.lt_succ_self n)
  by_cases hkn : k = n
  · subst hkn; grind
  · exact su_eq (n := n) (fun k hk => h k (by omega)) (by grind) k (by omega)
theorem capS_su (w : Nat → Rat) (K : Nat → Int) : ∀ n, ((capS w K n : Int) : Rat) = su (fun k => if w k = 0 then 0 else ((K k : Int) : Rat)) n
 | 0 => rfl
 | n + 1 => by
  unfold capS su;rw [Rat.intCast_add, capS_su w K n]
  congr 1
  split
  · rfl
  · rfl
theorem part_cap {t w : Rat} {K : Int} (hK : 0 ≤ K) : part t (w, ((K : Int) : Rat)) ≤ if w = 0 then 0 else ((K : Int) : Rat) := by
 split
 · rename_i h; rw [h, part_zero hK]; exact Rat.le_refl
 · exact mn_r _ _
end
section

def outW (w : Nat → Rat) (f : Nat → Bool) (n : Nat) : Rat := su (fun k => if f k then 0 else w k) n
def inK (K : Nat → Int) (f : Nat → Bool) (n : Nat) : Rat := su (fun k => if f k then ((K k : Int) : Rat) else 0) n
def FullAt (w : Nat → Rat) (K : Nat → Int) (f : Nat → Bool) (n : Nat) (s : Rat) : Prop := ∀ k, k < n → f k = true → w k ≠ 0 ∧ ((K k : Int) : Rat) ≤ s * w k
section
variable {w : Nat → Rat} {K : Nat → Int} {n : Nat}
theorem su_zero_of : ∀ {n : Nat} {g : Nat → Rat}, (∀ k, k < n → g k = 0) → su g n = 0
 | 0, _, _ => rfl
 | n + 1, g, h => by
  unfold su;rw [su_zero_of (n := n) (fun k hk => h k (by omega)), h n (Nat.lt_succ_self n)]
  grind
theorem su_mul (s : Rat) (g : Nat → Rat) : ∀ n, su (fun k => s * g k) n = s * su g n
 | 0 => by unfold su; grind
 | n + 1 => by unfold su; rw [su_mul s g n]; grind
theorem share_lv {a : Rat} {f : Nat → Bool} {s : Rat} (hwK : ∀ k, k < n → 0 ≤ w k ∧ 0 ≤ K k) (hs0 : 0 ≤ s) (hf : FullAt w K f n s) (hW : 0 < outW w f n) (hs : s * outW w f n = a - inK K f n) (hno : ∀ k, k < n → f k = false → w k ≠ 0 → s * w k < ((K k : Int) : Rat)) :
  Lv (prs w K (List.range n)) a s := by
 have hpart : ∀ k, k < n → part s (w k, ((K k : Int) : Rat)) = (if f k then ((K k : Int) : Rat) else 0) + s * (if f k then 0 else w k) := fun k hk => by
  unfold part mn
  by_cases hfk : f k = true
  ·
   have := (hf k hk hfk).2;rw [hfk];simp only [if_true]
   split
   · grind
   · grind
  ·
   have hfk' : f k = false := by simpa using hfk
   rw [hfk'];simp only [Bool.false_eq_true, if_false]
   by_cases h0 : w k = 0
   ·
    have := Rat.intCast_nonneg.2 (hwK k hk).2;rw [h0, if_pos (by grind)]
    grind
   ·
    have := hno k hk hfk' h0;rw [if_pos (Rat.le_of_lt this)]
    grind
 refine ⟨hs0, ?_, fun s' hlt h0' => ?_⟩
 ·
  rw [FF_su, su_congr hpart, su_add, su_mul]
  unfold outW inK at *
  grind
 ·
  have hle : ∀ k, k < n → part s' (w k, ((K k : Int) : Rat)) ≤ (if f k then ((K k : Int) : Rat) else 0) + s' * (if f k then 0 else w k) := fun k hk => by
   by_cases hfk : f k = true
   ·
    rw [hfk];simp only [if_true];have : part s' (w k, ((K k : Int) : Rat)) ≤ ((K k : Int) : Rat) := mn_r _ _
    grind
   ·
    have hfk' : f k = false := by simpa using hfk
    rw [hfk'];simp only [Bool.false_eq_true, if_false];have : part s' (w k, ((K k : Int) : Rat)) ≤ s' * w k := mn_l _ _
    grind
  have h1 := su_le hle;rw [su_add, su_mul] at h1;rw [FF_su];have h2 : s' * outW w f n < s * outW w f n := Rat.mul_lt_mul_of_pos_right hlt hW
  unfold outW inK at *
  grind
theorem FullAt.mono {f : Nat → Bool} {s s' : Rat} (hwK : ∀ k, k < n → 0 ≤ w k ∧ 0 ≤ K k) (h : FullAt w K f n s) (hs : s ≤ s') : FullAt w K f n s' := fun k hk hf => by
 obtain ⟨h1, h2⟩ := h k hk hf;have := Rat.mul_le_mul_of_nonneg_right hs (hwK k hk).1;exact ⟨h1, by grind⟩
theorem join_le {a s : Rat} {f f' : Nat → Bool} (hj : ∀ k, k < n → f k = true → f' k = true) (hn : FullAt w K f' n s) (hs : s * outW w f n = a - inK K f n) : s * outW w f' n ≤ a - inK K f' n := by
 have h1 : ∀ k, k < n → (if f' k then ((K k : Int) : Rat) else 0) + s * (if f' k then 0 else w k) ≤ (if f k then ((K k : Int) : Rat) else 0) + s * (if f k then 0 else w k) := fun k hk => by
  by_cases h2 : f k = true
  ·
   rw [h2, hj k hk h2];exact Rat.le_refl
  ·
   have h2' : f k = false := by simpa using h2
   rw [h2']
   by_cases h3 : f' k = true
   ·
    have := (hn k hk h3).2;rw [h3];simp only [if_true, Bool.false_eq_true, if_false]
    grind
   ·
    have h3' : f' k = false := by simpa using h3
    rw [h3'];exact Rat.le_refl
 have h2 := su_le h1;rw [su_add, su_add, su_mul, su_mul] at h2
 unfold outW inK at *
 grind
theorem out_none {f : Nat → Bool} (hwK : ∀ k, k < n → 0 ≤ w k ∧ 0 ≤ K k) (h : outW w f n = 0) : ∀ k, k < n → f k = false → w k = 0 := fun k hk hf => by
 have h1 := su_eq (f := fun _ => 0) (g := fun k => if f k then 0 else w k) (n := n) (fun j hj => by
  show (0 : Rat) ≤ if f j then 0 else w j
  split
  · exact Rat.le_refl
  · exact (hwK j hj).1) (by rw [su_zero_of (fun _ _ => rfl)]; exact h.symm) k hk
 simp only [hf, Bool.false_eq_true, if_false] at h1;exact h1.symm
theorem cap_full {f : Nat → Bool} {s : Rat} (hf : FullAt w K f n s) (hn : ∀ k, k < n → f k = false → w k = 0) : ((capS w K n : Int) : Rat) = inK K f n := by
 rw [capS_su];unfold inK
 refine su_congr fun k hk => ?_
 by_cases h : f k = true
 · rw [h, if_neg (hf k hk h).1]; rfl
 ·
  have h' : f k = false := by simpa using h
  rw [h', if_pos (hn k hk h')]; rfl
theorem most_lv {t : Rat} (hwK : ∀ k, k < n → 0 ≤ w k ∧ 0 ≤ K k) (h0 : 0 ≤ t) (hall : ∀ k, k < n → w k ≠ 0 → ((K k : Int) : Rat) ≤ t * w k) (hex : t = 0 ∨ ∃ k, k < n ∧ w k ≠ 0 ∧ t * w k = ((K k : Int) : Rat)) :
  Lv (prs w K (List.range n)) ((capS w K n : Int) : Rat) t := by
 refine ⟨h0, ?_, fun s' hlt h0' => ?_⟩
 ·
  rw [FF_su, capS_su]
  refine su_congr fun k hk => ?_
  show part t (w k, ((K k : Int) : Rat)) = _
  by_cases hw : w k = 0
  · rw [if_pos hw, hw, part_zero (hwK k hk).2]
  ·
   rw [if_neg hw];have := hall k hk hw;unfold part mn
   split <;> grind
 ·
  rw [FF_su, capS_su]
  have hle : ∀ k, k < n → part s' (w k, ((K k : Int) : Rat)) ≤ if w k = 0 then 0 else ((K k : Int) : Rat) := fun k hk => part_cap (hwK k hk).2
  refine Rat.not_le.1 fun hge => ?_
  have he := su_eq hle (Rat.le_antisymm (su_le hle) hge)
  rcases hex with rfl | ⟨k, hk, hw, e⟩
  · grind
  ·
   have h1 := he k hk;rw [if_neg hw, ← e] at h1
   have hw0 : 0 < w k := by have := (hwK k hk).1; grind
   have h2 : s' * w k < t * w k := Rat.mul_lt_mul_of_pos_right hlt hw0;have h3 : part s' (w k, t * w k) ≤ s' * w k := mn_l _ _
   grind
def mxq (w : Nat → Rat) (K : Nat → Int) (f : Nat → Bool) : Nat → Rat
 | 0 => 0
 | k + 1 => if f k = true ∧ mxq w K f k < ((K k : Int) : Rat) / w k then ((K k : Int) : Rat) / w k else mxq w K f k
theorem mxq_nn {f : Nat → Bool} : ∀ {n : Nat}, (∀ k, k < n → 0 ≤ w k ∧ 0 ≤ K k) → 0 ≤ mxq w K f n
 | 0, _ => Rat.le_refl
 | n + 1, h => by
  have h1 := mxq_nn (f := f) (n := n) (fun k hk => h k (by omega));unfold mxq
  split
  · rename_i h2; grind
  · exact h1
theorem mxq_ge {f : Nat → Bool} : ∀ {n : Nat}, (∀ k, k < n → 0 ≤ w k ∧ 0 ≤ K k) → ∀ k, k < n → f k = true → w k ≠ 0 → ((K k : Int) : Rat) ≤ mxq w K f n * w k
 | 0, _, k, hk, _, _ => absurd hk (Nat.not_lt_zero k)
 | n + 1, h, k, hk, hf, hw => by
  have hw0 : 0 < w k := by have := (h k hk).1; grind
  have e : ((K k : Int) : Rat) / w k * w k = ((K k : Int) : Rat) := Rat.div_mul_cancel hw
  have hge : mxq w K f n ≤ mxq w K f (n + 1) := by
   show mxq w K f n ≤ if f n = true ∧ mxq w K f n < ((K n : Int) : Rat) / w n then ((K n : Int) : Rat) / w n else mxq w K f n
   split
   · rename_i h2; exact Rat.le_of_lt h2.2
   · exact Rat.le_refl
  by_cases hkn : k = n
  ·
   subst hkn
   have h3 : ((K k : Int) : Rat) / w k ≤ mxq w K f (k + 1) := by
    show _ ≤ if f k = true ∧ mxq w K f k < ((K k : Int) : Rat) / w k then ((K k : Int) : Rat) / w k else mxq w K f k
    split
    · exact Rat.le_refl
    ·
     rename_i h2
     exact Rat.not_lt.1 fun h4 => h2 ⟨hf, h4⟩
   have h5 := Rat.mul_le_mul_of_nonneg_right h3 (Rat.le_of_lt hw0);rw [e] at h5;exact h5
  ·
   have h1 := mxq_ge (n := n) (fun k hk => h k (by omega)) k (by omega) hf hw;have h2 := Rat.mul_le_mul_of_nonneg_right hge (Rat.le_of_lt hw0);exact Rat.le_trans h1 h2
theorem mxq_ex {f : Nat → Bool} : ∀ {n : Nat}, (∀ k, k < n → f k = true → w k ≠ 0) → mxq w K f n = 0 ∨ ∃ k, k < n ∧ w k ≠ 0 ∧ mxq w K f n * w k = ((K k : Int) : Rat)
 | 0, _ => .inl rfl
 | n + 1, h => by
  have h1 := mxq_ex (n := n) (fun k hk => h k (by omega));unfold mxq
  split
  ·
   rename_i h2;exact .inr ⟨n, Nat.lt_succ_self n, h n (Nat.lt_succ_self n) h2.1, Rat.div_mul_cancel (h n (Nat.lt_succ_self n) h2.1)⟩
  ·
   rcases h1 with h1 | ⟨k, hk, hw, e⟩
   · exact .inl h1
   · exact .inr ⟨k, by omega, hw, e⟩
def cntB (f : Nat → Bool) : Nat → Nat
 | 0 => 0
 | k + 1 => cntB f k + if f k = true then 1 else 0
theorem cntB_le (f : Nat → Bool) : ∀ n, cntB f n ≤ n
 | 0 => Nat.le_refl 0
 | n + 1 => by have := cntB_le f n; unfold cntB; split <;> omega
theorem cntB_mono {f g : Nat → Bool} : ∀ {n : Nat}, (∀ k, k < n → f k = true → g k = true) → cntB f n ≤ cntB g n
 | 0, _ => Nat.le_refl 0
 | n + 1, h => by
  have h1 := cntB_mono (n := n) (fun k hk => h k (by omega));have h2 := h n (Nat.lt_succ_self n);unfold cntB
  by_cases h3 : f n = true
  · rw [if_pos h3, if_pos (h2 h3)]; omega
  · rw [if_neg h3]; omega
theorem cntB_lt {f g : Nat → Bool} : ∀ {n : Nat}, (∀ k, k < n → f k = true → g k = true) → (∃ k, k < n ∧ f k = false ∧ g k = true) → cntB f n < cntB g n
 | 0, _, ⟨k, hk, _⟩ => absurd hk (Nat.not_lt_zero k)
 | n + 1, h, ⟨k, hk, h1, h2⟩ => by
  have h3 := cntB_mono (n := n) (fun k hk => h k (by omega));have h4 := h n (Nat.lt_succ_self n);unfold cntB
  by_cases hkn : k = n
  ·
   subst hkn;rw [h1, h2];simp only [Bool.false_eq_true, if_false, if_true];omega
  ·
   have h5 := cntB_lt (n := n) (fun k hk => h k (by omega)) ⟨k, by omega, h1, h2⟩
   by_cases h6 : f n = true
   · rw [if_pos h6, if_pos (h4 h6)]; omega
   · rw [if_neg h6]; omega
end
end
section
open Go.RowKit

theorem copyLimbs_nil (c : Nat) (f : Nat → Nat) (w : World) : Calls Tryz.prog 154 #[.slice none 0 c] w (ClonePost 59 .u16 none 0 f w) := by
 go_enter Tryz.func154, Tryz.ntmps154
 go_wp2
 go_ret
 exact ⟨_, rfl, World.ownsRow_nil .., Below.refl _ _, fun _ => rfl⟩
theorem copyLimbs_some (a : Addr) (n c : Nat) (f : Nat → Nat) (w : World) (h : Rd w.heap.size .u16 w (some a) n f) (hn : n ≤ 100000000) : Calls Tryz.prog 154 #[.slice (some a) n c] w (ClonePost 59 .u16 (some a) n f w) := by
 obtain ⟨i0, hi, hz0, hz1, hz2⟩ := info_parts info_u16
 go_enter Tryz.func154, Tryz.ntmps154
 have hcell : ∀ (j : Nat) (u : Value), (nums .u16 n f)[j]? = some u → w.cell? (a.add j) = some u := by
  intro j u hu
  have hj : j < n := by
   rcases Nat.lt_or_ge j n with hj | hj
   · exact hj
   · rw [List.getElem?_eq_none (by rw [nums_length]; exact hj)] at hu; cases hu
  obtain ⟨b, o, e, hb, hc⟩ := h (by omega)
  have e' : a = ⟨b, o, none⟩ := by injection e
  subst e';rw [nums_get hj] at hu;have h1 := hc j hj;unfold Addr.add
  split
  · rename_i h0; subst h0; rw [← hu]; exact h1
  · rw [← hu]; exact h1
 have HC := Lib.hid hcell;clear hcell
 have HL : (nums .u16 n f).length = n * 1 := by rw [nums_length]; omega
 have H1 : ∀ u ∈ nums .u16 n f, u.oneCell' = true := by simp [nums, Value.oneCell']
 have HM : 0 + n ≤ maxLen := by unfold maxLen; omega
 have HB : (0 + n) * 2 ≤ 140737488355328 := by omega
 go_wp2_with (at_builtin; refine wpList_append_own _ rfl _ _ 25 rfl w.heap.size 59 i0 (.int .u16 0) 1 2 Tryz.underlying25 hi hz0 hz1 hz2 rfl (by decide) _ _ _ rfl (World.ownsRow_nil w _ _ _) a n c (nums .u16 n f) rfl HL HC.out H1 HM HB (Nat.le_refl _) ?_; intro v' w1 hown hgrow hnil)
 go_ret
 refine ⟨_, rfl, ?_, ?_, fun e => by cases e⟩
 ·
  rw [Nat.zero_add, List.nil_append] at hown;exact hown
 · exact (Below.refl _ _).grown hgrow (Nat.le_refl _) (fun k e => by cases e)
theorem copyLimbs_any (A : Option Addr) (n c : Nat) (f : Nat → Nat) (w : World) (h : Rd w.heap.size .u16 w A n f) (hn : n ≤ 100000000) : Calls Tryz.prog 154 #[.slice A n c] w (ClonePost 59 .u16 A n f w) := by
 cases A with
 | some a => exact copyLimbs_some a n c f w h hn
 | none =>
  rcases Nat.eq_zero_or_pos n with rfl | h0
  · exact copyLimbs_nil c f w
  ·
   obtain ⟨b, o, e, -⟩ := h h0
   cases e
theorem copyLimbs_rd (A : Option Addr) (n c : Nat) (f : Nat → Nat) (w : World) (h : Rd w.heap.size .u16 w A n f) (hn : n ≤ 100000000) : Calls Tryz.prog 154 #[.slice A n c] w (fun e w' => ∃ A' c', e = .returned (.slice A' n c') ∧ Rd w'.heap.size .u16 w' A' n f ∧ Below w.heap.size w w') := by
 refine (copyLimbs_any A n c f w h hn).mono ?_
 rintro e w' ⟨v, rfl, hown, hb, -⟩
 obtain ⟨A', c', rfl, _, hro⟩ := RowO.of_own hown;exact ⟨A', c', rfl, hro.rd, hb⟩
end
section
open Go.RowKit

theorem rd16_stable (A : Option Addr) (n : Nat) (f : Nat → Nat) : Stable (fun V => Rd (World.heap V).size .u16 V A n f) := fun _ _ hb h => (h.below hb).more hb.size
theorem Env.rd16 {w W : World} {P : World → Prop} {A : Option Addr} {n : Nat} {f : Nat → Nat} (hE : Env w P W) (h : Rd W.heap.size .u16 W A n f) : Env w (fun V => P V ∧ Rd (World.heap V).size .u16 V A n f) W := hE.and (rd16_stable A n f) h
theorem copyWhole_rd {s : Bool} {A : Option Addr} {n c : Nat} {f : Nat → Nat} {w : World} (h : Rd w.heap.size .u16 w A n f) (hn : n ≤ 100000000) :
  Calls Tryz.prog 129 #[.agg #[.bool s, .slice A n c]] w (fun e w' => ∃ A' c', e = .returned (.agg #[.bool s, .slice A' n c']) ∧ Rd w'.heap.size .u16 w' A' n f ∧ Below w.heap.size w w') := by
 have Hh := Lib.hid h;clear h;have hE := (Env.start w).blk 27 #[.bool s, .slice A n c] (g := w.heap.size) rfl;have hE := hE.blk 27 #[.bool false, .slice none 0 0] (g := w.heap.size + 1) (by simp)
 obtain ⟨W0, hW0⟩ : ∃ W0, W0 = ((w.alloc (.cells #[.bool s, .slice A n c] 27)).alloc (.cells #[.bool false, .slice none 0 0] 27)) := ⟨_, rfl⟩
 rw [← hW0] at hE;have HW0 := Lib.hid hW0;clear hW0
 go_enter Tryz.func129, Tryz.ntmps129
 go_upto_region 1 with (fail)
 rw [← HW0.out];obtain ⟨k1, k2⟩ := (hE.here.1.2).c2;go_wp2_with fail
 refine (copyLimbs_rd A n c f _ ((Hh.out.below hE.bel).more hE.bel.size) hn).mono ?_;clear k1 k2
 rintro e w9 ⟨A2, c2, rfl, hr, hb⟩
 replace hE := (hE.step hb).rd16 hr;clear hr hb
 have hgl3 : w.heap.size ≤ w.heap.size := by omega
 obtain ⟨x3_0, x3_1⟩ := (hE.h2).c2;have f3 := (hE.h2).frozen 1;replace hE := ((((Env.again (hE.bel.setCell (p := ⟨w.heap.size, 1, none⟩) hgl3 (.slice A2 n c2))).blkI (show Blk 27 w.heap.size #[.bool s, .slice A2 n c2] _ by simpa using (hE.h2).set_ 1 (.slice A2 n c2))).blkI ((hE.here.1.2).far (p := ⟨w.heap.size, 1, none⟩) (by first | omega | (simp; done) | (simp; omega)) (.slice A2 n c2))).rd16 (Rd.grownB (hE.here.2) (hE.h2) rfl (grownBy_setCellI _ _ 1 (.slice A2 n c2))))
 go_upto_region 2 with (fail)
 clear x3_0 x3_1 f3 hgl3;generalize w9.setCell ⟨w.heap.size, 1, none⟩ (.slice A2 n c2) = W3 at hE ⊢;obtain ⟨k4, k5⟩ := (hE.h2).c2
 have hRl : w.heap.size ≤ w.heap.size + 1 := by omega
 have hB := (hE.here.1.2).s2 (.bool s) (.slice A2 n c2);have hBel := bel2 hE.bel hRl (.bool s) (.slice A2 n c2);have hV := Rd.grownB (hE.here.2) (hE.here.1.2) rfl (sets_grown [.bool s, .slice A2 n c2] 0 _ ⟨_, hE.here.1.2, rfl⟩).1;obtain ⟨x0, x1⟩ := (hE.here.1.2).c2;have fz0 := (hE.here.1.2).frozen 0;have fz1 := (hE.here.1.2).frozen 1;go_wp2_with fail
 clear x0 x1;obtain ⟨y0, y1⟩ := hB.c2;refine bodyPost_ret (v := .agg #[.bool s, .slice A2 n c2]) (by simp [results, Tryz.results129, go_sem, y0, y1]) rfl ?_;exact ⟨A2, c2, rfl, hV, hBel⟩
end
section
open Go.RowKit

theorem copyFrac_rd {s t : Bool} {A B : Option Addr} {n m c d : Nat} {fa ga : Nat → Nat} {w : World} (h : FRd w A n fa B m ga) (hn : n ≤ 100000000) (hm : m ≤ 100000000) :
  Calls Tryz.prog 98 #[.agg #[.bool s, .slice A n c, .bool t, .slice B m d]] w (fun e w' => ∃ A' c' B' d', e = .returned (.agg #[.bool s, .slice A' n c', .bool t, .slice B' m d']) ∧ FRd w' A' n fa B' m ga ∧ Below w.heap.size w w') := by
 obtain ⟨h1, h2, h3, h4⟩ := h;have Hh1 := Lib.hid h1;clear h1;have Hh2 := Lib.hid h2;clear h2;have Hh3 := Lib.hid h3;clear h3;have Hh4 := Lib.hid h4;clear h4;have hE := (Env.start w).blk 29 #[.bool s, .slice A n c, .bool t, .slice B m d] (g := w.heap.size) rfl;have hE := hE.blk 29 #[.bool false, .slice none 0 0, .bool false, .slice none 0 0] (g := w.heap.size + 1) (by simp)
 obtain ⟨W0, hW0⟩ : ∃ W0, W0 = ((w.alloc (.cells #[.bool s, .slice A n c, .bool t, .slice B m d] 29)).alloc (.cells #[.bool false, .slice none 0 0, .bool false, .slice none 0 0] 29)) := ⟨_, rfl⟩
 rw [← hW0] at hE;have HW0 := Lib.hid hW0;clear hW0
 go_enter Tryz.func98, Tryz.ntmps98
 go_upto_region 1 with (fail)
 rw [← HW0.out];obtain ⟨k1, k2, k3, k4⟩ := (hE.here.1.2).c4;go_wp2_with fail
 refine (copyWhole_rd (s := s) ((Hh1.out.below hE.bel).more hE.bel.size) hn).mono ?_;clear k1 k2 k3 k4
 rintro e w5 ⟨A2, c2, rfl, hr, hb⟩
 replace hE := (hE.step hb).rd16 hr;clear hr hb;have x6_0 := (hE.h2).cell 0;have f6_0 := (hE.h2).frozen 0;have x6_1 := (hE.h2).cell 1;have f6_1 := (hE.h2).frozen 1;have hE6_0 := ((((Env.again (hE.bel.setCell (p := ⟨w.heap.size, 0, none⟩) (by show w.heap.size ≤ w.heap.size; omega) (.bool s))).blkI (show Blk 29 (w.heap.size) #[.bool s, .slice A n c, .bool t, .slice B m d] _ by simpa using (hE.h2).set_ 0 (.bool s))).blkI ((hE.here.1.2).far (p := ⟨w.heap.size, 0, none⟩) (by first | omega | (simp; done) | (simp; omega)) (.bool s))).rd16 (Rd.grownB (hE.here.2) (hE.h2) rfl (grownBy_setCellI _ _ 0 (.bool s))));have hE6_1 := ((((Env.again (hE6_0.bel.setCell (p := ⟨w.heap.size, 1, none⟩) (by show w.heap.size ≤ w.heap.size; omega) (.slice A2 n c2))).blkI (show Blk 29 (w.heap.size) #[.bool s, .slice A2 n c2, .bool t, .slice B m d] _ by simpa using (hE6_0.here.1.1.2).set_ 1 (.slice A2 n c2))).blkI ((hE6_0.here.1.2).far (p := ⟨w.heap.size, 1, none⟩) (by first | omega | (simp; done) | (simp; omega)) (.slice A2 n c2))).rd16 (Rd.grownB (hE6_0.here.2) (hE6_0.here.1.1.2) rfl (grownBy_setCellI _ _ 1 (.slice A2 n c2))));replace hE := hE6_1;clear hE6_0 hE6_1
 go_upto_region 2 with (fail)
 clear x6_0 x6_1 f6_0 f6_1;generalize ((w5.setCell ⟨w.heap.size, 0, none⟩ (.bool s)).setCell ⟨w.heap.size, 1, none⟩ (.slice A2 n c2)) = W6 at hE ⊢;obtain ⟨k7, k8, k9, k10⟩ := (hE.h2).c4;go_wp2_with fail
 refine (copyWhole_rd (s := t) ((Hh2.out.below hE.bel).more hE.bel.size) hm).mono ?_;clear k7 k8 k9 k10
 rintro e w11 ⟨B2, d2, rfl, hr, hb⟩
 replace hE := (hE.step hb).rd16 hr;clear hr hb;have x12_0 := (hE.h3).cell 2;have f12_0 := (hE.h3).frozen 2;have x12_1 := (hE.h3).cell 3;have f12_1 := (hE.h3).frozen 3;have hE12_0 := (((((Env.again (hE.bel.setCell (p := ⟨w.heap.size, 2, none⟩) (by show w.heap.size ≤ w.heap.size; omega) (.bool t))).blkI (show Blk 29 (w.heap.size) #[.bool s, .slice A2 n c2, .bool t, .slice B m d] _ by simpa using (hE.h3).set_ 2 (.bool t))).blkI ((hE.h2).far (p := ⟨w.heap.size, 2, none⟩) (by first | omega | (simp; done) | (simp; omega)) (.bool t))).rd16 (Rd.grownB (hE.here.1.2) (hE.h3) rfl (grownBy_setCellI _ _ 2 (.bool t)))).rd16 (Rd.grownB (hE.here.2) (hE.h3) rfl (grownBy_setCellI _ _ 2 (.bool t))));have hE12_1 := (((((Env.again (hE12_0.bel.setCell (p := ⟨w.heap.size, 3, none⟩) (by show w.heap.size ≤ w.heap.size; omega) (.slice B2 m d2))).blkI (show Blk 29 (w.heap.size) #[.bool s, .slice A2 n c2, .bool t, .slice B2 m d2] _ by simpa using (hE12_0.here.1.1.1.2).set_ 3 (.slice B2 m d2))).blkI ((hE12_0.here.1.1.2).far (p := ⟨w.heap.size, 3, none⟩) (by first | omega | (simp; done) | (simp; omega)) (.slice B2 m d2))).rd16 (Rd.grownB (hE12_0.here.1.2) (hE12_0.here.1.1.1.2) rfl (grownBy_setCellI _ _ 3 (.slice B2 m d2)))).rd16 (Rd.grownB (hE12_0.here.2) (hE12_0.here.1.1.1.2) rfl (grownBy_setCellI _ _ 3 (.slice B2 m d2))));replace hE := hE12_1;clear hE12_0 hE12_1
 go_upto_region 3 with (fail)
 clear x12_0 x12_1 f12_0 f12_1;generalize ((w11.setCell ⟨w.heap.size, 2, none⟩ (.bool t)).setCell ⟨w.heap.size, 3, none⟩ (.slice B2 m d2)) = W12 at hE ⊢;obtain ⟨k13, k14, k15, k16⟩ := (hE.h3).c4
 have hRl : w.heap.size ≤ w.heap.size + 1 := by omega
 have hB := (hE.h2).s4 (.bool s) (.slice A2 n c2) (.bool t) (.slice B2 m d2);have hBel := bel4 hE.bel hRl (.bool s) (.slice A2 n c2) (.bool t) (.slice B2 m d2);have hVr1 := Rd.grownB (hE.here.1.2) (hE.h2) rfl (sets_grown [.bool s, .slice A2 n c2, .bool t, .slice B2 m d2] 0 _ ⟨_, hE.h2, rfl⟩).1;have hVr2 := Rd.grownB (hE.here.2) (hE.h2) rfl (sets_grown [.bool s, .slice A2 n c2, .bool t, .slice B2 m d2] 0 _ ⟨_, hE.h2, rfl⟩).1;obtain ⟨x0, x1, x2, x3⟩ := (hE.h2).c4;have fz0 := (hE.h2).frozen 0;have fz1 := (hE.h2).frozen 1;have fz2 := (hE.h2).frozen 2;have fz3 := (hE.h2).frozen 3;go_wp2_with fail
 clear x0 x1 x2 x3;obtain ⟨y0, y1, y2, y3⟩ := hB.c4;refine bodyPost_ret (v := .agg #[.bool s, .slice A2 n c2, .bool t, .slice B2 m d2]) (by simp [results, Tryz.results98, go_sem, y0, y1, y2, y3]) rfl ?_;exact ⟨A2, c2, B2, d2, rfl, ⟨hVr1, hVr2, Hh3.out, Hh4.out⟩, hBel⟩
end
end Go.Proofs.YtjgihmmeimfheaaGreat
