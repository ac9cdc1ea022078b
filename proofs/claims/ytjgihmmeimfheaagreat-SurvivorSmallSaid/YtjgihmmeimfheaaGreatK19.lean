/-
  Several texts in one: The walk of survivor.exact. slices.Clone of indexed claims; survivor.units as an iterator. The walks of survivor.Level and Exact, and of the laws' usable, total, within and sumAt.
-/
import Derived.Test.YtjgihmmeimfheaaGreatK8
import Derived.Test.YtjgihmmeimfheaaGreatK18
import Derived.Test.YtjgihmmeimfheaaGreatK13
import Derived.RangeFuncCalls
import Derived.RangeFuncLeaves
import Derived.RangeFuncBox
import Derived.Shelf.Abstract
import Derived.Shelf.RegionOpen
import Derived.OwnWalkIn
import Derived.TacticsInMore
import Derived.LoopNIn
import Derived.LoopIn
import Derived.Test.YtjgihmmeimfheaaGreatK2
import Derived.Test.YtjgihmmeimfheaaGreatK3
set_option linter.unusedSimpArgs false
set_option maxRecDepth 100000
set_option maxHeartbeats 8000000
namespace Go.Proofs.YtjgihmmeimfheaaGreat
section
open Go.RowKit

def zqL (x : FH) : List Value := [.bool x.s, .slice x.A x.n x.c, .bool x.t, .slice x.B x.m x.d]
theorem zqL_ok (x : FH) : ∀ v ∈ zqL x, noLimb v = true ∧ v.oneCell' = true := fun v hv => by
 unfold zqL at hv;simp only [List.mem_cons, List.not_mem_nil, or_false] at hv
 rcases hv with rfl | rfl | rfl | rfl <;> exact ⟨rfl, rfl⟩
def updF (h : Nat → FH) (n : Nat) (x : FH) (j : Nat) : FH := if j = n then x else h j
theorem updF_row (h : Nat → FH) (n : Nat) (x : FH) (k : Nat) : updE (fun j => zqL (h j)) n (zqL x) k = zqL (updF h n x k) := by
 unfold updE updF
 split <;> rfl
def FqS (h : Nat → FH) (n : Nat) (q : Nat → Rat) (V : World) : Prop := ∀ j, j < n → FV V (q j) (h j).s (h j).A (h j).n (h j).t (h j).B (h j).m
theorem FqS.stable (h : Nat → FH) (n : Nat) (q : Nat → Rat) : Stable (FqS h n q) := fun _ _ hb hq j hj => FV.below (hq j hj) hb
theorem FqS.push {h : Nat → FH} {n : Nat} {q : Nat → Rat} {V : World} (hq : FqS h n q V) {x : FH} (hx : FV V (q n) x.s x.A x.n x.t x.B x.m) : FqS (updF h n x) (n + 1) q V := fun j hj => by
 unfold updF
 split
 · rename_i e; subst e; exact hx
 · rename_i e; exact hq j (by omega)
theorem FqS.grownB {w w' : World} {t : TypeId} {g : Nat} {cs : Array Value} {h : Nat → FH} {n : Nat} {q : Nat → Rat} (hq : FqS h n q w) (hB : Blk t g cs w) (hn : cs.toList.all noLimb = true) (hg : w.grownBy w' (some g)) : FqS h n q w' := fun j hj => FV.grownB (hq j hj) hB hn hg
theorem FqS.row {w w' : World} {T : TypeId} {m g k cap : Nat} {e : Nat → List Value} {h : Nat → FH} {n : Nat} {q : Nat → Rat} (hq : FqS h n q w) (hR : Rw T m g k cap e w) (hg : w.grownBy w' (some g)) : FqS h n q w' := fun j hj => hR.fv (hq j hj) hg
theorem Env.fqs {w W : World} {P : World → Prop} {h : Nat → FH} {n : Nat} {q : Nat → Rat} (hE : Env w P W) (hq : FqS h n q W) : Env w (fun V => P V ∧ FqS h n q V) W := hE.and (FqS.stable _ _ _) hq
theorem st4_grown {w : World} {t : TypeId} {g : Nat} {cs : Array Value} (hB : Blk t g cs w) (a b c d : Value) : w.grownBy ((((w.setCell ⟨g, 0, none⟩ a).setCell ⟨g, 1, none⟩ b).setCell ⟨g, 2, none⟩ c).setCell ⟨g, 3, none⟩ d) (some g) := (sets_grown [a, b, c, d] 0 w ⟨cs, hB, rfl⟩).1
theorem info_fr1 : (Tryz.prog.info? 29).map (fun i => (i.zero, i.size, i.bytes)) = some (some (.agg #[.bool false, .slice none 0 0, .bool false, .slice none 0 0]), 4, 64) := by kernel_rfl
def frElem : Elem 33 29 4 := ⟨Tryz.underlying33, .agg #[.bool false, .slice none 0 0, .bool false, .slice none 0 0], 64, info_fr1, rfl, by decide, fun v hv => by
 simp only [Value.cells, List.mem_toArray, List.mem_cons, List.not_mem_nil, or_false] at hv
 rcases hv with rfl | rfl | rfl | rfl <;> rfl, by decide⟩
def mkC {tS T : TypeId} {m : Nat} (E : Elem tS T m) (n : Nat) : Array Value := madeCells E.z.cells (n * m)
theorem make_row {tS T : TypeId} {m : Nat} (E : Elem tS T m) (n : Nat) (hn : n ≤ 1000000) (w : World) : (Instr.makeSlice tS (.int .i64 0) (.int .i64 (n : Int))).run Tryz.prog w = .ok (.slice (some ⟨w.heap.size, 0, none⟩) 0 n) (w.alloc (.cells (mkC E n) T)) := by
 unfold mkC;obtain ⟨i, hi, hz, hs, hb⟩ := info_parts E.info;have hfew := E.few
 have h := run_make (P := Tryz.prog) w tS T i E.z E.und hi hz .i64 .i64 0 (n : Int) (Int.le_refl _) (by omega) (by
  rw [hb];have h1 : E.bytes * n ≤ 4096 * 1000000 := Nat.mul_le_mul hfew hn;have h2 : ((E.bytes * n : Nat) : Int) = (E.bytes : Int) * (n : Int) := Int.natCast_mul _ _
  omega) (by omega)
 rw [h, hs];simp only [Int.toNat_natCast, Int.toNat_zero]
theorem row_made {tS T : TypeId} {m : Nat} (E : Elem tS T m) (n : Nat) (hn : n ≤ 1000000) (e : Nat → List Value) (w : World) : Rw T m w.heap.size 0 n e (w.alloc (.cells (mkC E n) T)) :=
 (Rw.made w T m 0 n E.z.cells E.size E.noL (Nat.zero_le _) (by unfold maxLen; omega) E.pos).congr (fun k hk => absurd hk (Nat.not_lt_zero k))
theorem push_row {tS T : TypeId} {m : Nat} (E : Elem tS T m) (ty : TypeId) {b0 g n cap k : Nat} {e : Nat → List Value} {W : World} (hR : Rw T m g n cap e W) (hg : b0 ≤ g) (x : List Value) (hx : x.length = m ∧ ∀ v ∈ x, noLimb v = true ∧ v.oneCell' = true) (hB : Blk T k x.toArray W) (hn : n ≤ 1000) :
  ∃ g' cap' W', (Builtin.append_ #[tS, tS] ty #[.slice (some ⟨g, 0, none⟩) n cap, .slice (some ⟨k, 0, none⟩) 1 1]).run Tryz.prog W = .ok (.slice (some ⟨g', 0, none⟩) (n + 1) cap') W' ∧ b0 ≤ g' ∧ Rw T m g' (n + 1) cap' (updE e n x) W' ∧ W.grownBy W' (some g) :=
 append_rw E ty (v := .slice (some ⟨g, 0, none⟩) n cap) (.inr ⟨g, cap, rfl, hg, hR⟩) (Nat.le_trans hg (Nat.le_of_lt hR.lt)) ⟨k, 0, none⟩ 1 x hx.1 (fun v hv => (hx.2 v hv).1) (fun v hv => (hx.2 v hv).2) (fun j u hu => by rw [Addr.add_mid, Nat.zero_add, hB.cell, List.getElem?_toArray]; exact hu) hn
def ExP (a : Int) (r : Nat → Cl) (n : Nat) (w : World) (e : Ending) (w' : World) : Prop := ∃ t g cap h, e = .returned (.slice (some ⟨g, 0, none⟩) n cap) ∧ Lv (prs (wq r) (Kz r) (List.range n)) ((totZ a (wq r) (Kz r) n : Int) : Rat) t ∧ fl t ≤ 48 ∧ w.heap.size ≤ g ∧ Rw 29 4 g n cap (fun j => zqL (h j)) w' ∧ FqS h n (xq t (wq r) (Kz r)) w' ∧ Below w.heap.size w w'
theorem sexact_v {A : Option Addr} {n c : Nat} {r : Nat → Cl} {w : World} (a : Int) (ha : 0 ≤ a ∧ a ≤ 1099511627776) (hM : ClM A n r w) (hok : ClOK n r) (hn : n ≤ 32) (hD : SzR n r) :
  Calls Tryz.prog 41 #[.int .i64 a, .slice A n c] w (ExP a r n w) := by
 have hw4 := hok.w hM;have hK := hok.K;have Hhok := Lib.hid hok;clear hok;have HhM := Lib.hid hM;clear hM;have Hhw4 := Lib.hid hw4;clear hw4;have HhK := Lib.hid hK;clear hK;have hE := Env.start w
 go_enter Tryz.func41, Tryz.ntmps41
 go_wp2_with fail
 refine (slevel_v a ha HhM.out Hhok.out hn hD).mono ?_
 rintro e w1 ⟨t, hlv, hft, sq, Aq, nq, cq, tq, Bq, mq, dq, rfl, hq, hb⟩
 replace hE := (hE.step hb).fv hq;clear hb hq;have Hhlv := Lib.hid hlv;clear hlv
 go_upto_region 2 with (fail)
 have hw0 : w.heap.size ≤ w1.heap.size := hE.bel.size
 obtain ⟨g1, hg1⟩ : ∃ g1, g1 = w1.heap.size := ⟨_, rfl⟩
 replace hE := hE.blk 29 #[.bool sq, .slice Aq nq cq, .bool tq, .slice Bq mq dq] (g := g1) hg1.symm;generalize w1.alloc (.cells #[.bool sq, .slice Aq nq cq, .bool tq, .slice Bq mq dq] 29) = W1 at hE ⊢;rw [← hg1]
 have hw5 : w.heap.size ≤ g1 := by rw [hg1]; exact hw0
 clear hg1;have hmk := make_row frElem n (by omega)
 go_upto_region 3 with (fail)
 clear hmk;have hrm := row_made frElem n (by omega) (fun j => zqL ((fun _ => zFH) j)) W1;have hbm := belAlloc W1 (.cells (mkC frElem n) 29)
 obtain ⟨g0, hg0⟩ : ∃ g, g = W1.heap.size := ⟨_, rfl⟩
 have hg05 : g1 < g0 := by rw [hg0]; exact (hE.here.2).lt
 rw [← hg0] at hrm ⊢;replace hE := (hE.step hbm).rwr hrm;clear hbm hrm;generalize W1.alloc (.cells (mkC frElem n) 29) = W7 at hE ⊢;clear hg0;replace hE := hE.fqs (h := fun _ => zFH) (n := 0) (q := xq t (wq r) (Kz r)) (fun j hj => absurd hj (Nat.not_lt_zero j));go_wp2_with fail
 go_loopw [6, 20] (fun v x wr => ∃ (k g cap : Nat) (h : Nat → FH), k ≤ n ∧ v = .slice (some ⟨g, 0, none⟩) k cap ∧ x = .int .i64 (k : Int) ∧ g1 < g ∧ Env w (fun V => ((((True ∧ FV V t sq Aq nq tq Bq mq) ∧ Blk 29 (g1) #[.bool sq, .slice Aq nq cq, .bool tq, .slice Bq mq dq] V) ∧ Rw 29 4 g k cap (fun j => zqL (h j)) V) ∧ FqS h k (xq t (wq r) (Kz r)) V)) wr) (fun _ x _ => n - (intOf x).toNat)
 case atStart => exact ⟨0, g0, n, fun _ => zFH, Nat.zero_le _, rfl, rfl, hg05, hE⟩
 case round =>
  clear hE hg05;obtain ⟨k, g, cap, h, hk, rfl, rfl, hg5, hE⟩ := hrel
  by_cases hlt : k < n
  rotate_left
  ·
   obtain rfl : k = n := by omega
   have t1 : decide ((k : Int) < (k : Int)) = false := decide_eq_false (by omega);go_wp2_with fail
   go_ret
   exact ⟨t, g, cap, h, rfl, Hhlv.out, hft, by omega, hE.here.1.2, hE.here.2, hE.bel⟩
  obtain ⟨b, o, rfl, hb, hc⟩ := (HhM.out.below hE.bel) (by omega)
  obtain ⟨x, hx⟩ : ∃ x, x = r k := ⟨_, rfl⟩
  obtain ⟨⟨d0, d1, d2, d3, d4, d5⟩, hrd⟩ := hc k hlt;rw [← hx] at d0 d1 d2 d3 d4 d5 hrd
  have hxok : x.ok := by rw [hx]; exact (Hhok.out.2 k hlt).2
  have hfv := Cl.fv hxok hrd;have hf4 := hfv.2.2;have hfv1 := hfv.1;have hxb := hxok.2.2
  have hwx : wq r k = x.w.q := by rw [hx]; rfl
  have hKx : Kz r k = x.K := by rw [hx]; rfl
  have t1 : decide ((k : Int) < (n : Int)) = true := decide_eq_true (by omega)
  have t2 : (k : Int) < (n : Int) := by omega
  have hE := hE.fv hfv1;clear hfv hfv1 hrd hc hxok;have hfp : fl (t * x.w.q) ≤ 52 := fl_times hft hf4;have hfK : fl ((x.K : Int) : Rat) ≤ 3 := fl_int3 (by omega) (by omega)
  have hxq : xq t (wq r) (Kz r) k = mn (t * x.w.q) ((x.K : Int) : Rat) := by unfold xq part; rw [hwx, hKx]
  have Hhx := Lib.hid hx;clear hx;have Hhwx := Lib.hid hwx;clear hwx;have HhKx := Lib.hid hKx;clear hKx;have Hhxq := Lib.hid hxq;clear hxq
  go_upto_region 6 with (fail)
  clear d0 d1 d2 d3 d4 d5 t1
  obtain ⟨g2, hg2⟩ : ∃ g2, g2 = wr.heap.size := ⟨_, rfl⟩
  have hl2_1 : g1 < g2 := by rw [hg2]; exact (hE.h3).lt
  have hl2_2 : g < g2 := by rw [hg2]; exact Rw.lt (hE.h2)
  replace hE := hE.blk 46 #[.int .i64 x.I, .bool x.w.s, .slice x.w.A x.w.n x.w.c, .bool x.w.t, .slice x.w.B x.w.m x.w.d, .int .i64 x.K] (g := g2) hg2.symm;generalize wr.alloc (.cells #[.int .i64 x.I, .bool x.w.s, .slice x.w.A x.w.n x.w.c, .bool x.w.t, .slice x.w.B x.w.m x.w.d, .int .i64 x.K] 46) = W2 at hE ⊢;rw [← hg2];clear hg2;obtain ⟨k3, k4, k5, k6⟩ := (hE.h4).c4;have k7 := (hE.here.2).cell 0;have k8 := (hE.here.2).cell 1;have k9 := (hE.here.2).cell 2;have k10 := (hE.here.2).cell 3;have k11 := (hE.here.2).cell 4;have k12 := (hE.here.2).cell 5;go_wp2_with fail
  refine hE.fr (fmul_v (ca := cq) (da := dq) (cb := x.w.c) (db := x.w.d) (hE.h5) (hE.here.1.2) (by omega) (by omega) (by omega)) ?_;clear hE k3 k4 k5 k6 k7 k8 k9 k10 k11 k12;intro sr Ar nr cr tr Br mr dr w13 hE
  go_upto_region 7 with (fail)
  obtain ⟨g14, hg14⟩ : ∃ g14, g14 = w13.heap.size := ⟨_, rfl⟩
  have hl14_1 : g1 < g14 := by rw [hg14]; exact (hE.h5).lt
  have hl14_2 : g < g14 := by rw [hg14]; exact Rw.lt (hE.h4)
  have hl14_5 : g2 < g14 := by rw [hg14]; exact (hE.here.1.2).lt
  replace hE := hE.blk 29 #[.bool sr, .slice Ar nr cr, .bool tr, .slice Br mr dr] (g := g14) hg14.symm;generalize w13.alloc (.cells #[.bool sr, .slice Ar nr cr, .bool tr, .slice Br mr dr] 29) = W14 at hE ⊢;rw [← hg14];clear hg14;have k15 := (hE.h2).cell 0;have k16 := (hE.h2).cell 1;have k17 := (hE.h2).cell 2;have k18 := (hE.h2).cell 3;have k19 := (hE.h2).cell 4;have k20 := (hE.h2).cell 5;go_wp2_with fail
  refine hE.fr (ffromInt_v x.K _ (by omega) (by omega)) ?_;clear hE k15 k16 k17 k18 k19 k20;intro sf Af nf cf tf Bf mf df w21 hE
  go_upto_region 8 with (fail)
  obtain ⟨g22, hg22⟩ : ∃ g22, g22 = w21.heap.size := ⟨_, rfl⟩
  have hl22_1 : g1 < g22 := by rw [hg22]; exact (hE.h7).lt
  have hl22_2 : g < g22 := by rw [hg22]; exact Rw.lt (hE.h6)
  have hl22_5 : g2 < g22 := by rw [hg22]; exact (hE.h3).lt
  have hl22_7 : g14 < g22 := by rw [hg22]; exact (hE.here.1.2).lt
  replace hE := hE.blk 29 #[.bool sf, .slice Af nf cf, .bool tf, .slice Bf mf df] (g := g22) hg22.symm;generalize w21.alloc (.cells #[.bool sf, .slice Af nf cf, .bool tf, .slice Bf mf df] 29) = W22 at hE ⊢;rw [← hg22];clear hg22
  obtain ⟨v, hv⟩ : ∃ v, decide (0 < cmpQ (t * x.w.q) ((x.K : Int) : Rat)) = v := ⟨_, rfl⟩
  obtain ⟨k23, k24, k25, k26⟩ := (hE.h2).c4;obtain ⟨k27, k28, k29, k30⟩ := (hE.here.2).c4;go_wp2_with fail
  refine hE.br (fcmp_v (ca := cr) (da := dr) (cb := cf) (db := df) (hE.h3) (hE.here.1.2) (by omega) (by omega)) ?_;clear hE k23 k24 k25 k26 k27 k28 k29 k30;intro w31 hE
  have hcm : v = true ↔ ¬ t * x.w.q ≤ ((x.K : Int) : Rat) := by
   rw [← hv, decide_eq_true_iff, cmpQ_val]
   split
   · rename_i h1; exact ⟨fun h2 => absurd h2 (by decide), fun h2 => absurd (Rat.le_of_lt h1) h2⟩
   ·
    rename_i h1; split
    · rename_i h2; exact ⟨fun h3 => absurd h3 (by decide), fun h3 => absurd (by rw [h2]; exact Rat.le_refl) h3⟩
    · rename_i h2; refine ⟨fun _ => fun h3 => ?_, fun _ => by decide⟩; grind
  have Hhcm := Lib.hid hcm;clear hcm
  cases v with
  | true =>
   go_upto_region 9 with (fail)
   clear hv;obtain ⟨k32, k33, k34, k35⟩ := (hE.here.2).c4
   have hgl36 : w.heap.size ≤ g14 := by omega
   obtain ⟨x36_0, x36_1, x36_2, x36_3⟩ := (hE.h2).c4;obtain ⟨f36_0, f36_1, f36_2, f36_3⟩ := hE.h2.f4;replace hE := (((((((((((Env.again (bel4 hE.bel hgl36 (.bool sf) (.slice Af nf cf) (.bool tf) (.slice Bf mf df))).fv ((hE.h9).sep4 hE.h2 rfl _ _ _ _ rfl rfl rfl)).blkI ((hE.h8).far4 (by omega) _ _ _ _)).rwr ((hE.h7).grownB (st4_grown (hE.h2) _ _ _ _) (by omega))).fqs (FqS.grownB (hE.h6) (hE.h2) rfl (st4_grown (hE.h2) _ _ _ _))).fv ((hE.h5).sep4 hE.h2 rfl _ _ _ _ rfl rfl rfl)).blkI ((hE.h4).far4 (by omega) _ _ _ _)).fv ((hE.h3).sep4 hE.h2 rfl _ _ _ _ rfl rfl rfl)).blkI ((hE.h2).s4 _ _ _ _)).fv ((hE.here.1.2).sep4 hE.h2 rfl _ _ _ _ rfl rfl rfl)).blkI ((hE.here.2).far4 (by omega) _ _ _ _))
   go_upto_region 10 with (fail)
   clear x36_0 x36_1 x36_2 x36_3 f36_0 f36_1 f36_2 f36_3 hgl36;generalize ((((w31.setCell ⟨g14, 0, none⟩ (.bool sf)).setCell ⟨g14, 1, none⟩ (.slice Af nf cf)).setCell ⟨g14, 2, none⟩ (.bool tf)).setCell ⟨g14, 3, none⟩ (.slice Bf mf df)) = W36 at hE ⊢;clear k32 k33 k34 k35
   have hxq2 : ((x.K : Int) : Rat) = xq t (wq r) (Kz r) k := by rw [Hhxq.out]; unfold mn; rw [if_neg (Hhcm.out.1 (by simp))]
   have hnv := (hE.here.1.2).to hxq2;have hbA := belAlloc W36 (.cells #[.bool sf, .slice Af nf cf, .bool tf, .slice Bf mf df] 29);have hBn := Blk.new W36 29 #[.bool sf, .slice Af nf cf, .bool tf, .slice Bf mf df];replace hnv := FV.below hnv hbA;have hE2 := hE.step hbA;obtain ⟨gr, capr, wz, hr, hgr0, hR, hgw⟩ := push_row frElem 33 (hE2.here.1.1.1.1.1.1.1.2) (show g1 + 1 ≤ g by omega) (zqL (⟨sf, Af, nf, cf, fun _ => 0, tf, Bf, mf, df, fun _ => 0⟩ : FH)) ⟨rfl, zqL_ok _⟩ hBn (by omega);have hR2 := hR.congr (fun j _ => updF_row h k (⟨sf, Af, nf, cf, fun _ => 0, tf, Bf, mf, df, fun _ => 0⟩ : FH) j);have hq2 := ((hE2.here.1.1.1.1.1.1.2).row (hE2.here.1.1.1.1.1.1.1.2) hgw).push (x := (⟨sf, Af, nf, cf, fun _ => 0, tf, Bf, mf, df, fun _ => 0⟩ : FH)) (Rw.fv (hE2.here.1.1.1.1.1.1.1.2) hnv hgw);have hE3 := (((((Env.again (Go.Proofs.YtjgihmmeimfheaaGreat.Below.grownB hE2.bel hgw hE2.bel.size (by omega))).fv (Rw.fv (hE2.here.1.1.1.1.1.1.1.2) (hE2.here.1.1.1.1.1.1.1.1.1.2) hgw)).blkI (Blk.grownB (hE2.here.1.1.1.1.1.1.1.1.2) hgw (by omega))).rwr hR2).fqs hq2);have HF := Lib.hid (And.intro hE3 hgr0);clear hbA hBn hnv hE2 hR hgw hR2 hq2 hE3 hgr0 hxq2;obtain ⟨k37, k38, k39, k40⟩ := (hE.h2).c4;go_wp2_with (first | refine wpList_appP hr rfl rfl rfl rfl ?_)
   clear k37 k38 k39 k40;obtain ⟨hE3, hgr0⟩ := HF.out
   go_roundw
   case rel => exact ⟨k + 1, gr, capr, _, by omega, rfl, by go_num, by omega, hE3⟩
   case measure => simp [intOf]; omega
  | false =>
   have hcn : t * x.w.q ≤ ((x.K : Int) : Rat) := Classical.byContradiction fun h1 => absurd (Hhcm.out.2 h1) Bool.false_ne_true
   have Hhcn := Lib.hid hcn;clear hcn
   go_upto_region 10 with (fail)
   clear hv
   have hxq2 : (t * x.w.q) = xq t (wq r) (Kz r) k := by rw [Hhxq.out]; unfold mn; rw [if_pos Hhcn.out]
   have hnv := (hE.h3).to hxq2;have hbA := belAlloc w31 (.cells #[.bool sr, .slice Ar nr cr, .bool tr, .slice Br mr dr] 29);have hBn := Blk.new w31 29 #[.bool sr, .slice Ar nr cr, .bool tr, .slice Br mr dr];replace hnv := FV.below hnv hbA;have hE2 := hE.step hbA;obtain ⟨gr, capr, wz, hr, hgr0, hR, hgw⟩ := push_row frElem 33 (hE2.here.1.1.1.1.1.1.1.2) (show g1 + 1 ≤ g by omega) (zqL (⟨sr, Ar, nr, cr, fun _ => 0, tr, Br, mr, dr, fun _ => 0⟩ : FH)) ⟨rfl, zqL_ok _⟩ hBn (by omega);have hR2 := hR.congr (fun j _ => updF_row h k (⟨sr, Ar, nr, cr, fun _ => 0, tr, Br, mr, dr, fun _ => 0⟩ : FH) j);have hq2 := ((hE2.here.1.1.1.1.1.1.2).row (hE2.here.1.1.1.1.1.1.1.2) hgw).push (x := (⟨sr, Ar, nr, cr, fun _ => 0, tr, Br, mr, dr, fun _ => 0⟩ : FH)) (Rw.fv (hE2.here.1.1.1.1.1.1.1.2) hnv hgw);have hE3 := (((((Env.again (Go.Proofs.YtjgihmmeimfheaaGreat.Below.grownB hE2.bel hgw hE2.bel.size (by omega))).fv (Rw.fv (hE2.here.1.1.1.1.1.1.1.2) (hE2.here.1.1.1.1.1.1.1.1.1.2) hgw)).blkI (Blk.grownB (hE2.here.1.1.1.1.1.1.1.1.2) hgw (by omega))).rwr hR2).fqs hq2);have HF := Lib.hid (And.intro hE3 hgr0);clear hbA hBn hnv hE2 hR hgw hR2 hq2 hE3 hgr0 hxq2;obtain ⟨k41, k42, k43, k44⟩ := (hE.h2).c4;go_wp2_with (first | refine wpList_appP hr rfl rfl rfl rfl ?_)
   clear k41 k42 k43 k44;obtain ⟨hE3, hgr0⟩ := HF.out
   go_roundw
   case rel => exact ⟨k + 1, gr, capr, _, by omega, rfl, by go_num, by omega, hE3⟩
   case measure => simp [intOf]; omega
end
section
open Go.RowKit
open Go.Shelf
attribute [local go_sem] Oper.semAt_some

theorem row_copy {g n cap : Nat} {E : Nat → List Value} {W : World} (hR : Rw 76 11 g n cap E W) (h0 : 0 < n) (hn : n ≤ 1000) :
  ∃ cap' W', (Builtin.append_ #[71, 71] 71 #[.slice (some ⟨W.heap.size, 0, none⟩) 0 0, .slice (some ⟨g, 0, none⟩) n cap]).run Tryz.prog (W.alloc (.cells #[] 76)) = .ok (.slice (some ⟨W.heap.size + 1, 0, none⟩) n cap') W' ∧ Rw 76 11 (W.heap.size + 1) n cap' E W' ∧ Below W.heap.size W W' := by
 obtain ⟨i, hi, hz, hs, hby⟩ := info_parts ixElem.info;have hbA := belAlloc W (.cells #[] 76);have hR2 := hR.below hbA;obtain ⟨h1, h2, cs, h3, h4, h5, h6⟩ := hR2
 obtain ⟨V, hV⟩ : ∃ V, V = W.alloc (.cells #[] 76) := ⟨_, rfl⟩
 have hVs : V.heap.size = W.heap.size + 1 := by rw [hV, World.size_alloc]
 rw [← hV] at h3 hbA ⊢;have hnm : n * 11 ≤ cap * 11 := Nat.mul_le_mul_right 11 h1
 have hlt : (cs.toList.take (n * 11)).length = n * 11 := by rw [List.length_take, Array.length_toList, h4]; omega
 have hr := run_append_grow (P := Tryz.prog) V 71 71 76 i ixElem.z ixElem.und hi hz ⟨W.heap.size, 0, none⟩ 0 0 [] (by simp) (fun j u hu => by simp at hu) ⟨g, 0, none⟩ n cap (cs.toList.take (n * 11)) (by rw [hlt, hs]) (fun j u hu => by
   have hj : j < n * 11 := by
    have := (List.getElem?_eq_some_iff.1 hu).1;omega
   rw [Addr.add_mid, Nat.zero_add, h3.cell];rw [List.getElem?_take_of_lt hj, Array.getElem?_toList] at hu
   exact hu) (by omega) (by omega) (growslice_fits (by omega) (by rw [hby]; show (0 + n) * 152 ≤ _; omega))
 rw [Nat.zero_add] at hr;have hge := grownCap_ge V n 0 76;have hcm := grownCap_le_maxLen V n 0 76 (show n ≤ maxLen by unfold maxLen; omega);rw [← hVs];refine ⟨_, _, hr, ⟨hge, hcm, _, heap_alloc_new V.drew _, ?_, ?_, ?_⟩, ?_⟩
 ·
  simp only [Array.size_append, List.size_toArray, size_zeroCells, ixElem.size, hlt, List.length_nil];omega
 ·
  refine no_limbs (olds := cs.toList.take (n * 11)) (x := []) (fun v hv => ?_) (fun v hv => absurd hv (by simp)) (zeros_noL (z := ixElem.z.cells) ixElem.noL (by decide) (k := grownCap V n 0 76 - n)) (by simp);obtain ⟨j, hj⟩ := List.getElem?_of_mem (List.mem_of_mem_take hv);exact h5 j v (by simpa using hj)
 ·
  intro k hk j hj;have hkj := mul_in (m := 11) hk hj;have h7 := h6 k hk j hj;rw [← h7, ← Array.getElem?_toList];simp only [Array.toList_append, List.nil_append];rw [List.getElem?_append_left (by rw [hlt]; exact hkj), List.getElem?_take_of_lt hkj, Array.getElem?_toList]
 · exact hbA.trans (((Below.refl _ V).drew.alloc (by simp) _).mono hbA.size)
theorem clone_ix {g n cap : Nat} {E : Nat → List Value} {W : World} (hR : Rw 76 11 g n cap E W) (h0 : 0 < n) (hn : n ≤ 1000) :
  Calls Tryz.prog 80 #[.slice (some ⟨g, 0, none⟩) n cap] W fun e W' => ∃ g' cap', e = .returned (.slice (some ⟨g', 0, none⟩) n cap') ∧ W.heap.size ≤ g' ∧ Rw 76 11 g' n cap' E W' ∧ Below W.heap.size W W' := by
 have qT : ∀ (w : World) (a : Option Addr) (n c n' c' : Nat), (binOp .eql 71 (.slice a n c) (.slice none n' c')).run Tryz.prog w = .ok (.bool a.isNone) w := fun w a n c n' c' => Lib.run_eql_slice_nil w _ _ a n c n' c' Tryz.underlying71
 obtain ⟨cap', W', hr, h1, h2⟩ := row_copy hR h0 hn;have H1 := Lib.hid (And.intro h1 h2);clear h1 h2 hR
 go_enter Tryz.func80, Tryz.ntmps80
 go_wp2_with (first | refine wpList_appP hr rfl rfl rfl rfl ?_)
 go_ret
 exact ⟨_, cap', rfl, Nat.le_succ _, H1.out.1, H1.out.2⟩
theorem clone_ix0 (a : Addr) (c : Nat) (W : World) : Calls Tryz.prog 80 #[.slice (some a) 0 c] W fun e W' => ∃ A' c', e = .returned (.slice A' 0 c') ∧ Below W.heap.size W W' := by
 have qT : ∀ (w : World) (a : Option Addr) (n c n' c' : Nat), (binOp .eql 71 (.slice a n c) (.slice none n' c')).run Tryz.prog w = .ok (.bool a.isNone) w := fun w a n c n' c' => Lib.run_eql_slice_nil w _ _ a n c n' c' Tryz.underlying71
 obtain ⟨i, hi, hz, hs, hby⟩ := info_parts ixElem.info;obtain ⟨v', w', hr, ho, hg, -⟩ := run_append_own (P := Tryz.prog) (W.alloc (.cells #[] 76)) W.heap.size 71 71 76 i ixElem.z 11 152 ixElem.und hi hz hs hby ixElem.size (by decide) (.slice (some ⟨W.heap.size, 0, none⟩) 0 0) 0 [] (World.ownsRow_made W #[] 0 (Nat.le_refl _) (by decide) rfl) a 0 c [] (by simp) (fun j u hu => by simp at hu) (fun u hu => absurd hu (by simp)) (by decide) (by decide) (by simp)
 have hv : ∃ A' c', v' = .slice A' 0 c' := by
  rcases ho.2 with ⟨e, -⟩ | ⟨g, cap, cur, e, -⟩
  · exact ⟨_, _, e⟩
  · exact ⟨_, _, e⟩
 obtain ⟨A', c', rfl⟩ := hv;have HB := Lib.hid (((Below.refl _ W).alloc (Nat.le_refl _) (.cells #[] 76)).grown hg (by simp) (fun k e => by cases e; exact Nat.le_refl _));clear ho hg
 go_enter Tryz.func80, Tryz.ntmps80
 go_wp2_with (first | refine wpList_appP hr rfl rfl rfl rfl ?_)
 go_ret
 exact ⟨A', c', rfl, HB.out⟩
theorem sunits_v (s : Value) (L : Int) (h1 : ∃ A n c, s = .slice A n c) (w : World) : Calls Tryz.prog 45 #[s, .int .i64 L] w fun e w' => e = .returned (.func (.func 79) #[] #[.pointer (some ⟨w.heap.size, 0, none⟩), .pointer (some ⟨w.heap.size + 1, 0, none⟩)]) ∧ w' = (w.alloc (.cells #[s] 71)).alloc (.cells #[.int .i64 L] 3) := by
 obtain ⟨A, n, c, rfl⟩ := h1
 go_enter Tryz.func45, Tryz.ntmps45
 go_wp2_with fail
 go_ret
 exact ⟨by simp, rfl⟩
def KpC (gP : Nat) (W W' : World) : Prop := ∀ (k : Nat) (o : Obj), k ≠ gP → W.heap[k]? = some o → o.isCells = true → W'.heap[k]? = some o
theorem KpC.t {gP : Nat} {A B C : World} (h : KpC gP A B) (k : KpC gP B C) : KpC gP A C := fun i o hi ho hc => k i o hi (h i o hi ho hc) hc
theorem KpC.b {gP : Nat} (W : World) (l : Nat) (o o' : Obj) (h : W.heap[l]? = some o) (h1 : o.isCells = false) : KpC gP W (W.putObj l o') := fun i o2 _ ho hc => by
 rw [World.putObj_heap_other (fun e => by subst e; rw [h] at ho; cases ho; rw [h1] at hc; cases hc)];exact ho
theorem KpC.blk {gP : Nat} {W W' : World} (h : KpC gP W W') {t : TypeId} {g : Nat} {cs : Array Value} (hB : Blk t g cs W) (hg : g ≠ gP) : Blk t g cs W' := h g _ hg hB rfl
theorem KpC.rw_ {gP : Nat} {W W' : World} (h : KpC gP W W') {T : TypeId} {m g n cap : Nat} {e : Nat → List Value} (hR : Rw T m g n cap e W) (hg : g ≠ gP) : Rw T m g n cap e W' := by
 obtain ⟨h1, h2, cs, h3, h4⟩ := hR;exact ⟨h1, h2, cs, h.blk h3 hg, h4⟩
def lkey (q : Nat → Rat) (j : Nat) : Rat := -q j
def ixL (r : Nat → Cl) (lo : Nat → FH) (j : Nat) : List Value := ixC (r j) ((j : Nat) : Int) (lo j)
theorem cmp_lost {r : Nat → Cl} {lo : Nat → FH} {n : Nat} {q : Nat → Rat} {V : World} (hq : FqS lo n q V) (hl : ∀ j, j < n → fl (q j) ≤ 256) : CmpK 82 n (ixL r lo) (lkey q) V := fun a b ha hb => by
 refine (slost_v (x := r a) (y := r b) (i := (a : Int)) (j := (b : Int)) (hq a ha) (hq b hb) (hl a ha) (hl b hb)).mono ?_
 rintro e V' ⟨rfl, hb2⟩
 refine ⟨_, rfl, ?_, hb2⟩;rw [cmpQ_val];unfold lkey
 split
 · rename_i h; exact ⟨fun _ => by grind, fun _ => by decide⟩
 · rename_i h; exact ⟨fun h2 => absurd h2 (by split <;> decide), fun h2 => absurd (by grind) h⟩
theorem units1_in {m : Nat} (hm : 2 ≤ m) {gX n capX L gP Bs Bl : Nat} {r : Nat → Cl} {lo : Nat → FH} {q : Nat → Rat} {w0 : World} (hBs : Blk 71 Bs #[.slice (some ⟨gX, 0, none⟩) n capX] w0) (hBl : Blk 3 Bl #[.int .i64 (L : Int)] w0) (hR : Rw 76 11 gX n capX (ixL r lo) w0) (hq : FqS lo n q w0) (hl : ∀ j, j < n → fl (q j) ≤ 256) (hLn : L ≤ n) (hn : n ≤ 32) (hqe : n ≤ 19 ∨ ∀ j, j < n → q j = q 0) (hgP : gP < w0.heap.size) (hBP : Bl ≠ gP)
  (l : Nat) (J Jx : List Nat → World → Prop) (W : World) (hW : Below w0.heap.size w0 W) (hA : AbidesFrom W.heap.size J)
  (hY : ∀ pre x W1, J pre W1 → x < n → pre.length < L → YieldAt Fence.wide (m - 1) Tryz.prog l #[.int .i64 (x : Int)] W1 fun e W' => (e = .returned (.bool true) ∧ J (pre ++ [x]) W' ∧ KpC gP W1 W') ∨ (e = .returned (.bool false) ∧ Jx (pre ++ [x]) W'))
  (h0 : J [] W) :
  CallsIn Fence.wide m Tryz.prog 79 #[.func (.yield l) #[] #[], .pointer (some ⟨Bs, 0, none⟩), .pointer (some ⟨Bl, 0, none⟩)] W fun e W' => (∃ v, e = .returned v) ∧ ((∃ xs, (fun xs => ∃ p, Srd n (lkey q) n p ∧ xs = ((List.range n).map p).take L) xs ∧ J xs W') ∨ (∃ pre, (fun _ => True) pre ∧ Jx pre W')) := by
 have hro : Fence.wide.round = none := rfl;have hBsW := hBs.below hW hBs.lt;have hBlW := hBl.below hW hBl.lt;have hRW := hR.below hW;have hqW := FqS.stable _ _ _ _ _ hW hq;have hgW : gP < W.heap.size := Nat.lt_of_lt_of_le hgP hW.size;have kS := hBsW.c1;have HhY := Lib.hid hY;clear hY;have HhA := Lib.hid hA;clear hA;have HhRW := Lib.hid hRW;clear hRW;have HhqW := Lib.hid hqW;clear hqW;have HhBsW := Lib.hid hBsW;clear hBsW;have HhBlW := Lib.hid hBlW;clear hBlW;have Hhl := Lib.hid hl;clear hl;clear hBs hBl hR hq;refine callsIn_of_wp Tryz.func79 rfl trivial ?_ hro;simp only [Tryz.ntmps79, List.size_toArray, List.length_cons, List.length_nil, Nat.reduceAdd, Nat.reduceSub, Array.replicate_succ, Array.replicate_zero, List.push_toArray, List.append_toArray, List.nil_append, List.cons_append];refine wpIn_wide.2 ?_;go_wp2_with fail
 by_cases h0n : n = 0
 ·
  subst h0n
  obtain rfl : L = 0 := by omega
  refine (clone_ix0 _ _ _).mono ?_
  rintro e W1 ⟨A', c', rfl, hb1⟩
  have hB1 := Blk.below HhBlW.out hb1 HhBlW.out.lt;have HJ := Lib.hid (HhA.out [] W W1 none h0 (grown_of_below hb1) (fun _ e => by cases e));clear kS hb1;have kL := hB1.c1;go_wp2_with fail
  refine (ssort_nil _ _ _ _).mono ?_
  rintro e W2 ⟨⟨v, rfl⟩, rfl⟩
  go_wp2_with fail
  go_loopw [5] (fun x wr => x = .int .i64 0 ∧ wr = W2) (fun _ _ => 0)
  case atStart => exact ⟨rfl, rfl⟩
  case round =>
   obtain ⟨rfl, rfl⟩ := hrel;go_wp2_with fail
   go_end0
   exact ⟨⟨_, rfl⟩, .inl ⟨[], ⟨fun j => j, (Srd.start 0 _).full (Nat.zero_le 1), rfl⟩, HJ.out⟩⟩
 refine (clone_ix HhRW.out (by omega) (by omega)).mono ?_
 rintro e W1 ⟨gS, capS, rfl, hgS, hRS, hb1⟩
 have hC := ssort2_v (w := W) (cap := capS) (gf := 82) hb1 hgS hRS (fun j _ => ⟨rfl, ixC_ok _ _ _⟩) (by omega) (enters_of Tryz.func82 (by kernel_rfl) rfl) (fun V hV => cmp_lost (r := r) ((FqS.stable _ _ _ _ _ hb1 HhqW.out).row hRS hV) Hhl.out) (hqe.imp id (fun h => ⟨by omega, fun i hi => by unfold lkey; rw [h i hi]⟩));have HC := Lib.hid hC;have H1 := Lib.hid (And.intro hRS hb1);clear hC hRS hb1 kS;go_wp2_with fail
 refine HC.out.mono ?_;clear HC
 rintro e W2 ⟨⟨v, rfl⟩, p, hp, hR2, hK⟩
 obtain ⟨-, hb1⟩ := H1.out;clear H1;have hg2 : W.grownBy W2 none := ⟨hK.os.trans hb1.os, hK.tape.trans hb1.tape, hK.output.trans hb1.output, Nat.le_trans hb1.size hK.size, fun k hk _ => (hK.block k (Nat.lt_of_lt_of_le hk hb1.size) (fun e => by cases e; omega)).trans (hb1.block k hk)⟩;have hJ0 := HhA.out [] W W2 none h0 hg2 (fun _ e => by cases e);have hL2 : Blk 3 Bl #[.int .i64 (L : Int)] W2 := (hg2.block Bl HhBlW.out.lt (fun e => by cases e)).trans HhBlW.out
 have hne : gS ≠ gP := by omega
 have hlen : ((List.range n).map p).length = n := by simp
 have hget : ∀ k, k < n → ((List.range n).map p)[k]? = some (p k) := fun k hk => by rw [List.getElem?_map, List.getElem?_range hk]; rfl
 obtain ⟨Sl, hSl⟩ : ∃ l, l = (List.range n).map p := ⟨_, rfl⟩
 rw [← hSl] at hlen hget;have hpn := hp.1.1;have Hhget := Lib.hid hget;clear hget;have HhSl := Lib.hid hSl;clear hSl;have Hhp := Lib.hid hp;clear hp;have Hhpn := Lib.hid hpn;clear hpn;clear hg2 hK hb1;go_wp2_with fail
 go_loopw [5] (fun x wr => ∃ k : Nat, k ≤ L ∧ x = .int .i64 (k : Int) ∧ J (Sl.take k) wr ∧ Rw 76 11 gS n capS (fun j => ixL r lo (p j)) wr ∧ Blk 3 Bl #[.int .i64 (L : Int)] wr) (fun x _ => L - (intOf x).toNat)
 case atStart => exact ⟨0, Nat.zero_le _, rfl, hJ0, hR2, hL2⟩
 case round =>
  clear hJ0 hR2 hL2;obtain ⟨k, hk, rfl, hJ, hR, hB⟩ := hrel;have kL := hB.c1
  by_cases hlt : k < L
  ·
   have hkn : k < n := by omega
   have c6 := hR.cell (k := k) (i := 6) (o := k * 11 + 6) (v := .int .i64 ((p k : Nat) : Int)) hkn (by decide) rfl rfl;have t1 : decide ((k : Int) < (L : Int)) = true := decide_eq_true (by omega);have t2 : decide ((k : Int) < (n : Int)) = true := decide_eq_true (by omega)
   have t3 : (k : Int) < (n : Int) := by omega
   go_upto_region 5 with (fail)
   clear t1 t2;obtain ⟨fn, tmps, assign, body, hy, hRr⟩ := HhY.out (Sl.take k) (p k) wr hJ (Hhpn.out k hkn) (by rw [List.length_take]; omega);refine (wpIn_wide (n := m)).1 ?_
   gi_wp2
   refine ⟨fun _ => by omega, hRr.mono ?_⟩
   rintro e W3 (⟨rfl, hJ3, hk3⟩ | ⟨rfl, hJx3⟩)
   ·
    have hR3 := hk3.rw_ hR hne;have hB3 := hk3.blk hB hBP
    have htk : Sl.take (k + 1) = Sl.take k ++ [p k] := by rw [List.take_add_one, Hhget.out k hkn]; rfl
    rw [← htk] at hJ3;have HF := Lib.hid (And.intro hJ3 (And.intro hR3 hB3));clear hR3 hB3 hJ3 c6 kL htk hy hRr
    gi_wp2
    go_wp2_with fail
    go_roundw
    case rel => exact ⟨k + 1, by omega, by (try simp) <;> norm_cast, HF.out.1, HF.out.2.1, HF.out.2.2⟩
    case measure => simp [intOf]; omega
   ·
    gi_wp2
    go_wp2_with fail
    refine bodyPost_ret (results_none rfl _ _ _) rfl ?_;exact ⟨⟨_, rfl⟩, .inr ⟨_, trivial, hJx3⟩⟩
  ·
   obtain rfl : k = L := by omega
   have t1 : decide ((k : Int) < (k : Int)) = false := decide_eq_false (by omega);go_wp2_with fail
   go_end0
   exact ⟨⟨_, rfl⟩, .inl ⟨_, ⟨p, Hhp.out, by rw [HhSl.out]⟩, hJ⟩⟩
theorem units_seq {m : Nat} (hm : 2 ≤ m) {gX n capX L gP Bs Bl : Nat} {r : Nat → Cl} {lo : Nat → FH} {q : Nat → Rat} {w0 : World} (hBs : Blk 71 Bs #[.slice (some ⟨gX, 0, none⟩) n capX] w0) (hBl : Blk 3 Bl #[.int .i64 (L : Int)] w0) (hR : Rw 76 11 gX n capX (ixL r lo) w0) (hq : FqS lo n q w0) (hl : ∀ j, j < n → fl (q j) ≤ 256) (hLn : L ≤ n) (hn : n ≤ 32) (hqe : n ≤ 19 ∨ ∀ j, j < n → q j = q 0) (hgP : gP < w0.heap.size) (hBP : Bl ≠ gP) :
  SeqV Fence.wide m Tryz.prog 79 #[.pointer (some ⟨Bs, 0, none⟩), .pointer (some ⟨Bl, 0, none⟩)] (fun x : Nat => #[.int .i64 (x : Int)]) (KpC gP) (fun _ x _ => x < n) (fun xs => ∃ p, Srd n (lkey q) n p ∧ xs = ((List.range n).map p).take L) (fun _ => True) L w0 := fun l J Jx W hW hA _ hY h0 =>
 units1_in hm hBs hBl hR hq hl hLn hn hqe hgP hBP l J Jx W hW hA hY h0
end
section
open Go.RowKit

def LevT (a : Int) (r : Nat → Cl) (n : Nat) (w : World) (e : Ending) (w' : World) : Prop := ∃ t, Lv (prs (wq r) (Kz r) (List.range n)) ((totZ a (wq r) (Kz r) n : Int) : Rat) t ∧ fl t ≤ 48 ∧ FOK t w e w'
def ExT (a : Int) (r : Nat → Cl) (n : Nat) (w : World) (e : Ending) (w' : World) : Prop := ∃ t g cap h, e = .returned (.tuple #[.slice (some ⟨g, 0, none⟩) n cap, .int .i64 0]) ∧ Lv (prs (wq r) (Kz r) (List.range n)) ((totZ a (wq r) (Kz r) n : Int) : Rat) t ∧ fl t ≤ 48 ∧ w.heap.size ≤ g ∧ Rw 29 4 g n cap (fun j => zqL (h j)) w' ∧ FqS h n (xq t (wq r) (Kz r)) w' ∧ Below w.heap.size w w'
theorem sLevel_v {A : Option Addr} {n c : Nat} {r : Nat → Cl} {w : World} (a : Int) (ha : 0 ≤ a ∧ a ≤ 1099511627776) (hM : ClM A n r w) (hok : ClOK n r) (hn : n ≤ 32) (hD : SzR n r) :
  Calls Tryz.prog 13 #[.int .i64 a, .slice A n c] w (LevT a r n w) := by
 have Hhok := Lib.hid hok;clear hok;have HhM := Lib.hid hM;clear hM;have hE := Env.start w;have hE := hE.blk 29 #[.bool false, .slice none 0 0, .bool false, .slice none 0 0] (g := w.heap.size) rfl
 obtain ⟨W0, hW0⟩ : ∃ W0, W0 = (w.alloc (.cells #[.bool false, .slice none 0 0, .bool false, .slice none 0 0] 29)) := ⟨_, rfl⟩
 rw [← hW0] at hE;have HW0 := Lib.hid hW0;clear hW0
 go_enter Tryz.func13, Tryz.ntmps13
 go_upto_region 1 with (fail)
 rw [← HW0.out];go_wp2_with fail
 refine (svalid_any A n c r _ (HhM.out.below hE.bel)).mono ?_
 rintro e w1 ⟨v, rfl, hv, hb⟩
 replace hE := hE.step hb;obtain rfl : v = true := hv.2 Hhok.out;clear hv hb;have t1 : decide (a < 0) = false := decide_eq_false (by omega);have t2 : decide ((1099511627776 : Int) < a) = false := decide_eq_false (by omega);go_wp2_with fail
 clear t1 t2;refine (slevel_v a ha (HhM.out.below hE.bel) Hhok.out hn hD).mono ?_
 rintro e w2 ⟨t, hlv, hft, sq, Aq, nq, cq, tq, Bq, mq, dq, rfl, hq, hb⟩
 replace hE := (hE.step hb).fv hq;clear hb hq;have Hhlv := Lib.hid hlv;clear hlv
 have hRl : w.heap.size ≤ w.heap.size := by omega
 obtain ⟨WW, hWW, hB, hV, hBel⟩ := ret_frac hE hE.here.1.2 hRl hE.here.2 cq dq;obtain ⟨x0, x1, x2, x3⟩ := (hE.here.1.2).c4;obtain ⟨fz0, fz1, fz2, fz3⟩ := hE.here.1.2.f4;have HWW := Lib.hid hWW;clear hWW;go_wp2_with fail
 clear x0 x1 x2 x3;rw [← HWW.out];obtain ⟨y0, y1, y2, y3⟩ := hB.c4;refine bodyPost_ret (v := .tuple #[.agg #[.bool sq, .slice Aq nq cq, .bool tq, .slice Bq mq dq], .int .i64 0]) (by simp [results, Tryz.results13, go_sem, y0, y1, y2, y3]) rfl ?_;exact ⟨t, Hhlv.out, hft, sq, Aq, nq, cq, tq, Bq, mq, dq, rfl, hV, hBel⟩
theorem sExact_v {A : Option Addr} {n c : Nat} {r : Nat → Cl} {w : World} (a : Int) (ha : 0 ≤ a ∧ a ≤ 1099511627776) (hM : ClM A n r w) (hok : ClOK n r) (hn : n ≤ 32) (hD : SzR n r) :
  Calls Tryz.prog 14 #[.int .i64 a, .slice A n c] w (ExT a r n w) := by
 have Hhok := Lib.hid hok;clear hok;have HhM := Lib.hid hM;clear hM;have hE := Env.start w
 go_enter Tryz.func14, Tryz.ntmps14
 go_wp2_with fail
 refine (svalid_any A n c r _ (HhM.out.below hE.bel)).mono ?_
 rintro e w1 ⟨v, rfl, hv, hb⟩
 replace hE := hE.step hb;obtain rfl : v = true := hv.2 Hhok.out;clear hv hb;have t1 : decide (a < 0) = false := decide_eq_false (by omega);have t2 : decide ((1099511627776 : Int) < a) = false := decide_eq_false (by omega);go_wp2_with fail
 clear t1 t2;refine (sexact_v a ha (HhM.out.below hE.bel) Hhok.out hn hD).mono ?_
 rintro e w2 ⟨t, g, cap, h, rfl, hlv, hft, hg, hR, hq, hb⟩
 have hwg : w.heap.size ≤ g := Nat.le_trans hE.bel.size hg;replace hE := hE.step hb;have HF := Lib.hid (And.intro hlv (And.intro hR (And.intro hq hE)));clear hlv hR hq hE hb hg;go_wp2_with fail
 refine bodyPost_ret (v := .tuple #[.slice (some ⟨g, 0, none⟩) n cap, .int .i64 0]) (by simp [results, Tryz.results14, go_sem]) rfl ?_;exact ⟨t, g, cap, h, rfl, HF.out.1, hft, hwg, HF.out.2.1, HF.out.2.2.1, HF.out.2.2.2.bel⟩
end
end Go.Proofs.YtjgihmmeimfheaaGreat
