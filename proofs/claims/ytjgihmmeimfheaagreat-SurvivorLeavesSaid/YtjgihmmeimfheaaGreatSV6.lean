/-
  The walk of survivor.exact.
-/
import Derived.Test.YtjgihmmeimfheaaGreatK18
import Derived.Test.YtjgihmmeimfheaaGreatSV5
import Derived.Test.YtjgihmmeimfheaaGreatSvP
namespace Go.Proofs.YtjgihmmeimfheaaGreat
open Go.RowKit

/-- The cells of a fraction. -/
def zqL (x : FH) : List Value := [.bool x.s, .slice x.A x.n x.c, .bool x.t, .slice x.B x.m x.d]
theorem zqL_ok (x : FH) : ∀ v ∈ zqL x, noLimb v = true ∧ v.oneCell' = true := fun v hv => by
 unfold zqL at hv
 simp only [List.mem_cons, List.not_mem_nil, or_false] at hv
 rcases hv with rfl | rfl | rfl | rfl <;> exact ⟨rfl, rfl⟩
def updF (h : Nat → FH) (n : Nat) (x : FH) (j : Nat) : FH := if j = n then x else h j
theorem updF_row (h : Nat → FH) (n : Nat) (x : FH) (k : Nat) : updE (fun j => zqL (h j)) n (zqL x) k = zqL (updF h n x k) := by
 unfold updE updF
 split <;> rfl
/-- What the first fractions of a row are. -/
def FqS (h : Nat → FH) (n : Nat) (q : Nat → Rat) (V : World) : Prop := ∀ j, j < n → FV V (q j) (h j).s (h j).A (h j).n (h j).t (h j).B (h j).m
theorem FqS.stable (h : Nat → FH) (n : Nat) (q : Nat → Rat) : Stable (FqS h n q) := fun _ _ hb hq j hj => FV.below (hq j hj) hb
theorem FqS.push {h : Nat → FH} {n : Nat} {q : Nat → Rat} {V : World} (hq : FqS h n q V) {x : FH} (hx : FV V (q n) x.s x.A x.n x.t x.B x.m) : FqS (updF h n x) (n + 1) q V := fun j hj => by
 unfold updF
 split
 · rename_i e; subst e; exact hx
 · rename_i e; exact hq j (by omega)
theorem FqS.grownB {w w' : World} {t : TypeId} {g : Nat} {cs : Array Value} {h : Nat → FH} {n : Nat} {q : Nat → Rat} (hq : FqS h n q w) (hB : Blk t g cs w) (hn : cs.toList.all noLimb = true) (hg : w.grownBy w' (some g)) : FqS h n q w' := fun j hj => FV.grownB (hq j hj) hB hn hg
theorem FqS.row {w w' : World} {T : TypeId} {m g k cap : Nat} {e : Nat → List Value} {h : Nat → FH} {n : Nat} {q : Nat → Rat} (hq : FqS h n q w) (hR : Rw T m g k cap e w) (hg : w.grownBy w' (some g)) : FqS h n q w' := fun j hj => hR.fv (hq j hj) hg
theorem Env.fqs {w W : World} {P : World → Prop} {h : Nat → FH} {n : Nat} {q : Nat → Rat} (hE : Env w P W) (hq : FqS h n q W) : Env w (fun V => P V ∧ FqS h n q V) W := hE.and (FqS.stable _ _ _) hq
theorem st4_grown {w : World} {t : TypeId} {g : Nat} {cs : Array Value} (hB : Blk t g cs w) (a b c d : Value) : w.grownBy ((((w.setCell ⟨g, 0, none⟩ a).setCell ⟨g, 1, none⟩ b).setCell ⟨g, 2, none⟩ c).setCell ⟨g, 3, none⟩ d) (some g) := (sets_grown [a, b, c, d] 0 w ⟨cs, hB, rfl⟩).1
theorem info_fr1 : (Tryz.prog.info? 29).map (fun i => (i.zero, i.size, i.bytes)) = some (some (.agg #[.bool false, .slice none 0 0, .bool false, .slice none 0 0]), 4, 64) := by kernel_rfl
def frElem : Elem 33 29 4 := ⟨Tryz.underlying33, .agg #[.bool false, .slice none 0 0, .bool false, .slice none 0 0], 64, info_fr1, rfl, by decide, fun v hv => by
 simp only [Value.cells, List.mem_toArray, List.mem_cons, List.not_mem_nil, or_false] at hv
 rcases hv with rfl | rfl | rfl | rfl <;> rfl, by decide⟩
def mkC {tS T : TypeId} {m : Nat} (E : Elem tS T m) (n : Nat) : Array Value := madeCells E.z.cells (n * m)
/-- A row with room is made. -/
theorem make_row {tS T : TypeId} {m : Nat} (E : Elem tS T m) (n : Nat) (hn : n ≤ 1000000) (w : World) : (Instr.makeSlice tS (.int .i64 0) (.int .i64 (n : Int))).run Tryz.prog w = .ok (.slice (some ⟨w.heap.size, 0, none⟩) 0 n) (w.alloc (.cells (mkC E n) T)) := by
 unfold mkC
 obtain ⟨i, hi, hz, hs, hb⟩ := info_parts E.info
 have hfew := E.few
 have h := run_make (P := Tryz.prog) w tS T i E.z E.und hi hz .i64 .i64 0 (n : Int) (Int.le_refl _) (by omega) (by
  rw [hb]
  have h1 : E.bytes * n ≤ 4096 * 1000000 := Nat.mul_le_mul hfew hn
  have h2 : ((E.bytes * n : Nat) : Int) = (E.bytes : Int) * (n : Int) := Int.natCast_mul _ _
  omega) (by omega)
 rw [h, hs]
 simp only [Int.toNat_natCast, Int.toNat_zero]
theorem row_made {tS T : TypeId} {m : Nat} (E : Elem tS T m) (n : Nat) (hn : n ≤ 1000000) (e : Nat → List Value) (w : World) : Rw T m w.heap.size 0 n e (w.alloc (.cells (mkC E n) T)) :=
 (Rw.made w T m 0 n E.z.cells E.size E.noL (Nat.zero_le _) (by unfold maxLen; omega) E.pos).congr (fun k hk => absurd hk (Nat.not_lt_zero k))
/-- An element that lies in a block of its own is appended to a row. -/
theorem push_row {tS T : TypeId} {m : Nat} (E : Elem tS T m) (ty : TypeId) {b0 g n cap k : Nat} {e : Nat → List Value} {W : World} (hR : Rw T m g n cap e W) (hg : b0 ≤ g) (x : List Value) (hx : x.length = m ∧ ∀ v ∈ x, noLimb v = true ∧ v.oneCell' = true) (hB : Blk T k x.toArray W) (hn : n ≤ 1000) :
  ∃ g' cap' W', (Builtin.append_ #[tS, tS] ty #[.slice (some ⟨g, 0, none⟩) n cap, .slice (some ⟨k, 0, none⟩) 1 1]).run Tryz.prog W = .ok (.slice (some ⟨g', 0, none⟩) (n + 1) cap') W' ∧ b0 ≤ g' ∧ Rw T m g' (n + 1) cap' (updE e n x) W' ∧ W.grownBy W' (some g) :=
 append_rw E ty (v := .slice (some ⟨g, 0, none⟩) n cap) (.inr ⟨g, cap, rfl, hg, hR⟩) (Nat.le_trans hg (Nat.le_of_lt hR.lt)) ⟨k, 0, none⟩ 1 x hx.1 (fun v hv => (hx.2 v hv).1) (fun v hv => (hx.2 v hv).2) (fun j u hu => by rw [Addr.add_mid, Nat.zero_add, hB.cell, List.getElem?_toArray]; exact hu) hn
/-- What exact returns: the exact parts at the level. -/
def ExP (a : Int) (r : Nat → Cl) (n : Nat) (w : World) (e : Ending) (w' : World) : Prop := ∃ t g cap h, e = .returned (.slice (some ⟨g, 0, none⟩) n cap) ∧ Lv (prs (wq r) (Kz r) (List.range n)) ((totZ a (wq r) (Kz r) n : Int) : Rat) t ∧ fl t ≤ 48 ∧ w.heap.size ≤ g ∧ Rw 29 4 g n cap (fun j => zqL (h j)) w' ∧ FqS h n (xq t (wq r) (Kz r)) w' ∧ Below w.heap.size w w'
set_option linter.unusedSimpArgs false in
set_option maxRecDepth 100000 in
set_option maxHeartbeats 8000000 in
theorem sexact_v {A : Option Addr} {n c : Nat} {r : Nat → Cl} {w : World} (a : Int) (ha : 0 ≤ a ∧ a ≤ 1099511627776) (hM : ClM A n r w) (hok : ClOK n r) (hn : n ≤ 10) :
  Calls Tryz.prog 41 #[.int .i64 a, .slice A n c] w (ExP a r n w) := by
 have hw4 := hok.w hM
 have hK := hok.K
 have Hhok := Lib.hid hok
 clear hok
 have HhM := Lib.hid hM
 clear hM
 have Hhw4 := Lib.hid hw4
 clear hw4
 have HhK := Lib.hid hK
 clear hK
 have hE := Env.start w
 go_enter Tryz.func41, Tryz.ntmps41
 go_wp2_with fail
 refine (slevel_v a ha HhM.out Hhok.out hn).mono ?_
 rintro e w1 ⟨t, hlv, hft, sq, Aq, nq, cq, tq, Bq, mq, dq, rfl, hq, hb⟩
 replace hE := (hE.step hb).fv hq
 clear hb hq
 have Hhlv := Lib.hid hlv
 clear hlv
 go_upto_region 2 with (fail)
 have hw0 : w.heap.size ≤ w1.heap.size := hE.bel.size
 obtain ⟨g1, hg1⟩ : ∃ g1, g1 = w1.heap.size := ⟨_, rfl⟩
 replace hE := hE.blk 29 #[.bool sq, .slice Aq nq cq, .bool tq, .slice Bq mq dq] (g := g1) hg1.symm
 generalize w1.alloc (.cells #[.bool sq, .slice Aq nq cq, .bool tq, .slice Bq mq dq] 29) = W1 at hE ⊢
 rw [← hg1]
 have hw5 : w.heap.size ≤ g1 := by rw [hg1]; exact hw0
 clear hg1
 have hmk := make_row frElem n (by omega)
 go_upto_region 3 with (fail)
 clear hmk
 have hrm := row_made frElem n (by omega) (fun j => zqL ((fun _ => zFH) j)) W1
 have hbm := belAlloc W1 (.cells (mkC frElem n) 29)
 obtain ⟨g0, hg0⟩ : ∃ g, g = W1.heap.size := ⟨_, rfl⟩
 have hg05 : g1 < g0 := by rw [hg0]; exact (hE.here.2).lt
 rw [← hg0] at hrm ⊢
 replace hE := (hE.step hbm).rwr hrm
 clear hbm hrm
 generalize W1.alloc (.cells (mkC frElem n) 29) = W7 at hE ⊢
 clear hg0
 replace hE := hE.fqs (h := fun _ => zFH) (n := 0) (q := xq t (wq r) (Kz r)) (fun j hj => absurd hj (Nat.not_lt_zero j))
 go_wp2_with fail
 go_loopw [6, 20] (fun v x wr => ∃ (k g cap : Nat) (h : Nat → FH), k ≤ n ∧ v = .slice (some ⟨g, 0, none⟩) k cap ∧ x = .int .i64 (k : Int) ∧ g1 < g ∧ Env w (fun V => ((((True ∧ FV V t sq Aq nq tq Bq mq) ∧ Blk 29 (g1) #[.bool sq, .slice Aq nq cq, .bool tq, .slice Bq mq dq] V) ∧ Rw 29 4 g k cap (fun j => zqL (h j)) V) ∧ FqS h k (xq t (wq r) (Kz r)) V)) wr) (fun _ x _ => n - (intOf x).toNat)
 case atStart => exact ⟨0, g0, n, fun _ => zFH, Nat.zero_le _, rfl, rfl, hg05, hE⟩
 case round =>
  clear hE hg05
  obtain ⟨k, g, cap, h, hk, rfl, rfl, hg5, hE⟩ := hrel
  by_cases hlt : k < n
  rotate_left
  ·
   obtain rfl : k = n := by omega
   have t1 : decide ((k : Int) < (k : Int)) = false := decide_eq_false (by omega)
   go_wp2_with fail
   go_ret
   exact ⟨t, g, cap, h, rfl, Hhlv.out, hft, by omega, hE.here.1.2, hE.here.2, hE.bel⟩
  obtain ⟨b, o, rfl, hb, hc⟩ := (HhM.out.below hE.bel) (by omega)
  obtain ⟨x, hx⟩ : ∃ x, x = r k := ⟨_, rfl⟩
  obtain ⟨⟨d0, d1, d2, d3, d4, d5⟩, hrd⟩ := hc k hlt
  rw [← hx] at d0 d1 d2 d3 d4 d5 hrd
  have hxok : x.ok := by rw [hx]; exact (Hhok.out.2 k hlt).2
  have hfv := Cl.fv hxok hrd
  have hf4 := hfv.2.2
  have hfv1 := hfv.1
  have hxb := hxok.2.2
  have hwx : wq r k = x.w.q := by rw [hx]; rfl
  have hKx : Kz r k = x.K := by rw [hx]; rfl
  have t1 : decide ((k : Int) < (n : Int)) = true := decide_eq_true (by omega)
  have t2 : (k : Int) < (n : Int) := by omega
  have hE := hE.fv hfv1
  clear hfv hfv1 hrd hc hxok
  have hfp : fl (t * x.w.q) ≤ 52 := fl_times hft hf4
  have hfK : fl ((x.K : Int) : Rat) ≤ 3 := fl_int3 (by omega) (by omega)
  have hxq : xq t (wq r) (Kz r) k = mn (t * x.w.q) ((x.K : Int) : Rat) := by unfold xq part; rw [hwx, hKx]
  have Hhx := Lib.hid hx
  clear hx
  have Hhwx := Lib.hid hwx
  clear hwx
  have HhKx := Lib.hid hKx
  clear hKx
  have Hhxq := Lib.hid hxq
  clear hxq
  go_upto_region 6 with (fail)
  clear d0 d1 d2 d3 d4 d5 t1
  obtain ⟨g2, hg2⟩ : ∃ g2, g2 = wr.heap.size := ⟨_, rfl⟩
  have hl2_1 : g1 < g2 := by rw [hg2]; exact (hE.h3).lt
  have hl2_2 : g < g2 := by rw [hg2]; exact Rw.lt (hE.h2)
  replace hE := hE.blk 46 #[.int .i64 x.I, .bool x.w.s, .slice x.w.A x.w.n x.w.c, .bool x.w.t, .slice x.w.B x.w.m x.w.d, .int .i64 x.K] (g := g2) hg2.symm
  generalize wr.alloc (.cells #[.int .i64 x.I, .bool x.w.s, .slice x.w.A x.w.n x.w.c, .bool x.w.t, .slice x.w.B x.w.m x.w.d, .int .i64 x.K] 46) = W2 at hE ⊢
  rw [← hg2]
  clear hg2
  obtain ⟨k3, k4, k5, k6⟩ := (hE.h4).c4
  have k7 := (hE.here.2).cell 0
  have k8 := (hE.here.2).cell 1
  have k9 := (hE.here.2).cell 2
  have k10 := (hE.here.2).cell 3
  have k11 := (hE.here.2).cell 4
  have k12 := (hE.here.2).cell 5
  go_wp2_with fail
  refine hE.fr (fmul_v (ca := cq) (da := dq) (cb := x.w.c) (db := x.w.d) (hE.h5) (hE.here.1.2) (by omega) (by omega) (by omega)) ?_
  clear hE k3 k4 k5 k6 k7 k8 k9 k10 k11 k12
  intro sr Ar nr cr tr Br mr dr w13 hE
  go_upto_region 7 with (fail)
  obtain ⟨g14, hg14⟩ : ∃ g14, g14 = w13.heap.size := ⟨_, rfl⟩
  have hl14_1 : g1 < g14 := by rw [hg14]; exact (hE.h5).lt
  have hl14_2 : g < g14 := by rw [hg14]; exact Rw.lt (hE.h4)
  have hl14_5 : g2 < g14 := by rw [hg14]; exact (hE.here.1.2).lt
  replace hE := hE.blk 29 #[.bool sr, .slice Ar nr cr, .bool tr, .slice Br mr dr] (g := g14) hg14.symm
  generalize w13.alloc (.cells #[.bool sr, .slice Ar nr cr, .bool tr, .slice Br mr dr] 29) = W14 at hE ⊢
  rw [← hg14]
  clear hg14
  have k15 := (hE.h2).cell 0
  have k16 := (hE.h2).cell 1
  have k17 := (hE.h2).cell 2
  have k18 := (hE.h2).cell 3
  have k19 := (hE.h2).cell 4
  have k20 := (hE.h2).cell 5
  go_wp2_with fail
  refine hE.fr (ffromInt_v x.K _ (by omega) (by omega)) ?_
  clear hE k15 k16 k17 k18 k19 k20
  intro sf Af nf cf tf Bf mf df w21 hE
  go_upto_region 8 with (fail)
  obtain ⟨g22, hg22⟩ : ∃ g22, g22 = w21.heap.size := ⟨_, rfl⟩
  have hl22_1 : g1 < g22 := by rw [hg22]; exact (hE.h7).lt
  have hl22_2 : g < g22 := by rw [hg22]; exact Rw.lt (hE.h6)
  have hl22_5 : g2 < g22 := by rw [hg22]; exact (hE.h3).lt
  have hl22_7 : g14 < g22 := by rw [hg22]; exact (hE.here.1.2).lt
  replace hE := hE.blk 29 #[.bool sf, .slice Af nf cf, .bool tf, .slice Bf mf df] (g := g22) hg22.symm
  generalize w21.alloc (.cells #[.bool sf, .slice Af nf cf, .bool tf, .slice Bf mf df] 29) = W22 at hE ⊢
  rw [← hg22]
  clear hg22
  obtain ⟨v, hv⟩ : ∃ v, decide (0 < cmpQ (t * x.w.q) ((x.K : Int) : Rat)) = v := ⟨_, rfl⟩
  obtain ⟨k23, k24, k25, k26⟩ := (hE.h2).c4
  obtain ⟨k27, k28, k29, k30⟩ := (hE.here.2).c4
  go_wp2_with fail
  refine hE.br (fcmp_v (ca := cr) (da := dr) (cb := cf) (db := df) (hE.h3) (hE.here.1.2) (by omega) (by omega)) ?_
  clear hE k23 k24 k25 k26 k27 k28 k29 k30
  intro w31 hE
  have hcm : v = true ↔ ¬ t * x.w.q ≤ ((x.K : Int) : Rat) := by
   rw [← hv, decide_eq_true_iff, cmpQ_val]
   split
   · rename_i h1; exact ⟨fun h2 => absurd h2 (by decide), fun h2 => absurd (Rat.le_of_lt h1) h2⟩
   ·
    rename_i h1; split
    · rename_i h2; exact ⟨fun h3 => absurd h3 (by decide), fun h3 => absurd (by rw [h2]; exact Rat.le_refl) h3⟩
    · rename_i h2; refine ⟨fun _ => fun h3 => ?_, fun _ => by decide⟩; grind
  have Hhcm := Lib.hid hcm
  clear hcm
  cases v with
  | true =>
   go_upto_region 9 with (fail)
   clear hv
   obtain ⟨k32, k33, k34, k35⟩ := (hE.here.2).c4
   have hgl36 : w.heap.size ≤ g14 := by omega
   obtain ⟨x36_0, x36_1, x36_2, x36_3⟩ := (hE.h2).c4
   obtain ⟨f36_0, f36_1, f36_2, f36_3⟩ := hE.h2.f4
   replace hE := (((((((((((Env.again (bel4 hE.bel hgl36 (.bool sf) (.slice Af nf cf) (.bool tf) (.slice Bf mf df))).fv ((hE.h9).sep4 hE.h2 rfl (.bool sf) (.slice Af nf cf) (.bool tf) (.slice Bf mf df) rfl rfl rfl)).blkI ((hE.h8).far4 (R := g14) (by omega) (.bool sf) (.slice Af nf cf) (.bool tf) (.slice Bf mf df))).rwr ((hE.h7).grownB (st4_grown (hE.h2) (.bool sf) (.slice Af nf cf) (.bool tf) (.slice Bf mf df)) (by omega))).fqs (FqS.grownB (hE.h6) (hE.h2) rfl (st4_grown (hE.h2) (.bool sf) (.slice Af nf cf) (.bool tf) (.slice Bf mf df)))).fv ((hE.h5).sep4 hE.h2 rfl (.bool sf) (.slice Af nf cf) (.bool tf) (.slice Bf mf df) rfl rfl rfl)).blkI ((hE.h4).far4 (R := g14) (by omega) (.bool sf) (.slice Af nf cf) (.bool tf) (.slice Bf mf df))).fv ((hE.h3).sep4 hE.h2 rfl (.bool sf) (.slice Af nf cf) (.bool tf) (.slice Bf mf df) rfl rfl rfl)).blkI ((hE.h2).s4 (.bool sf) (.slice Af nf cf) (.bool tf) (.slice Bf mf df))).fv ((hE.here.1.2).sep4 hE.h2 rfl (.bool sf) (.slice Af nf cf) (.bool tf) (.slice Bf mf df) rfl rfl rfl)).blkI ((hE.here.2).far4 (R := g14) (by omega) (.bool sf) (.slice Af nf cf) (.bool tf) (.slice Bf mf df)))
   go_upto_region 10 with (fail)
   clear x36_0 x36_1 x36_2 x36_3 f36_0 f36_1 f36_2 f36_3 hgl36
   generalize ((((w31.setCell ⟨g14, 0, none⟩ (.bool sf)).setCell ⟨g14, 1, none⟩ (.slice Af nf cf)).setCell ⟨g14, 2, none⟩ (.bool tf)).setCell ⟨g14, 3, none⟩ (.slice Bf mf df)) = W36 at hE ⊢
   clear k32 k33 k34 k35
   have hxq2 : ((x.K : Int) : Rat) = xq t (wq r) (Kz r) k := by rw [Hhxq.out]; unfold mn; rw [if_neg (Hhcm.out.1 (by simp))]
   have hnv := (hE.here.1.2).to hxq2
   have hbA := belAlloc W36 (.cells #[.bool sf, .slice Af nf cf, .bool tf, .slice Bf mf df] 29)
   have hBn := Blk.new W36 29 #[.bool sf, .slice Af nf cf, .bool tf, .slice Bf mf df]
   replace hnv := FV.below hnv hbA
   have hE2 := hE.step hbA
   obtain ⟨gr, capr, wz, hr, hgr0, hR, hgw⟩ := push_row frElem 33 (hE2.here.1.1.1.1.1.1.1.2) (show g1 + 1 ≤ g by omega) (zqL (⟨sf, Af, nf, cf, fun _ => 0, tf, Bf, mf, df, fun _ => 0⟩ : FH)) ⟨rfl, zqL_ok _⟩ hBn (by omega)
   have hR2 := hR.congr (fun j _ => updF_row h k (⟨sf, Af, nf, cf, fun _ => 0, tf, Bf, mf, df, fun _ => 0⟩ : FH) j)
   have hq2 := ((hE2.here.1.1.1.1.1.1.2).row (hE2.here.1.1.1.1.1.1.1.2) hgw).push (x := (⟨sf, Af, nf, cf, fun _ => 0, tf, Bf, mf, df, fun _ => 0⟩ : FH)) (Rw.fv (hE2.here.1.1.1.1.1.1.1.2) hnv hgw)
   have hE3 := (((((Env.again (Go.Proofs.YtjgihmmeimfheaaGreat.Below.grownB hE2.bel hgw hE2.bel.size (by omega))).fv (Rw.fv (hE2.here.1.1.1.1.1.1.1.2) (hE2.here.1.1.1.1.1.1.1.1.1.2) hgw)).blkI (Blk.grownB (hE2.here.1.1.1.1.1.1.1.1.2) hgw (by omega))).rwr hR2).fqs hq2)
   have HF := Lib.hid (And.intro hE3 hgr0)
   clear hbA hBn hnv hE2 hR hgw hR2 hq2 hE3 hgr0 hxq2
   obtain ⟨k37, k38, k39, k40⟩ := (hE.h2).c4
   go_wp2_with (first | refine wpList_appP hr rfl rfl rfl rfl ?_)
   clear k37 k38 k39 k40
   obtain ⟨hE3, hgr0⟩ := HF.out
   go_roundw
   case rel => exact ⟨k + 1, gr, capr, _, by omega, rfl, by go_num, by omega, hE3⟩
   case measure => simp [intOf]; omega
  | false =>
   have hcn : t * x.w.q ≤ ((x.K : Int) : Rat) := Classical.byContradiction fun h1 => absurd (Hhcm.out.2 h1) Bool.false_ne_true
   have Hhcn := Lib.hid hcn
   clear hcn
   go_upto_region 10 with (fail)
   clear hv
   have hxq2 : (t * x.w.q) = xq t (wq r) (Kz r) k := by rw [Hhxq.out]; unfold mn; rw [if_pos Hhcn.out]
   have hnv := (hE.h3).to hxq2
   have hbA := belAlloc w31 (.cells #[.bool sr, .slice Ar nr cr, .bool tr, .slice Br mr dr] 29)
   have hBn := Blk.new w31 29 #[.bool sr, .slice Ar nr cr, .bool tr, .slice Br mr dr]
   replace hnv := FV.below hnv hbA
   have hE2 := hE.step hbA
   obtain ⟨gr, capr, wz, hr, hgr0, hR, hgw⟩ := push_row frElem 33 (hE2.here.1.1.1.1.1.1.1.2) (show g1 + 1 ≤ g by omega) (zqL (⟨sr, Ar, nr, cr, fun _ => 0, tr, Br, mr, dr, fun _ => 0⟩ : FH)) ⟨rfl, zqL_ok _⟩ hBn (by omega)
   have hR2 := hR.congr (fun j _ => updF_row h k (⟨sr, Ar, nr, cr, fun _ => 0, tr, Br, mr, dr, fun _ => 0⟩ : FH) j)
   have hq2 := ((hE2.here.1.1.1.1.1.1.2).row (hE2.here.1.1.1.1.1.1.1.2) hgw).push (x := (⟨sr, Ar, nr, cr, fun _ => 0, tr, Br, mr, dr, fun _ => 0⟩ : FH)) (Rw.fv (hE2.here.1.1.1.1.1.1.1.2) hnv hgw)
   have hE3 := (((((Env.again (Go.Proofs.YtjgihmmeimfheaaGreat.Below.grownB hE2.bel hgw hE2.bel.size (by omega))).fv (Rw.fv (hE2.here.1.1.1.1.1.1.1.2) (hE2.here.1.1.1.1.1.1.1.1.1.2) hgw)).blkI (Blk.grownB (hE2.here.1.1.1.1.1.1.1.1.2) hgw (by omega))).rwr hR2).fqs hq2)
   have HF := Lib.hid (And.intro hE3 hgr0)
   clear hbA hBn hnv hE2 hR hgw hR2 hq2 hE3 hgr0 hxq2
   obtain ⟨k41, k42, k43, k44⟩ := (hE.h2).c4
   go_wp2_with (first | refine wpList_appP hr rfl rfl rfl rfl ?_)
   clear k41 k42 k43 k44
   obtain ⟨hE3, hgr0⟩ := HF.out
   go_roundw
   case rel => exact ⟨k + 1, gr, capr, _, by omega, rfl, by go_num, by omega, hE3⟩
   case measure => simp [intOf]; omega
end Go.Proofs.YtjgihmmeimfheaaGreat
