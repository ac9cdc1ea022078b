/-
  Several texts in one: The range-function whole.downwards at limbs, and the walk of whole.Int, which ranges over it. The walk of frac.Int. Floors and ceilings of fractions, in plain words. The walk of frac.power where the power is too long. What an argument of the type api.Frac is; the cell of the library's variable.
-/
import Derived.RangeFuncNested
import Derived.RangeFuncBound
import Derived.RangeFuncCalls
import Derived.RangeFuncLeaves
import Derived.RangeFuncBox
import Derived.Shelf.Abstract
import Derived.Shelf.RegionOpen
import Derived.OwnWalkIn
import Derived.TacticsInMore
import Derived.LoopNIn
import Derived.LoopIn
import Derived.Test.YtifikcemcflgjaaGreatK3
import Derived.Test.YtifikcemcflgjaaGreatK9
import Derived.Test.YtifikcemcflgjaaGreatK8
import Derived.ProofKit
import Derived.OpenShut
import Derived.Carry
import Derived.HandedShaped
import Derived.Deep.DeepHandedRow
import Derived.Deep.Slices
import Derived.Lib.SmallJoins
namespace Go.Proofs.YtifikcemcflgjaaGreat
open Go.RowKit Go.Shelf
attribute [local go_sem] Oper.semAt_some

theorem u64_or_add16 {a b : Nat} (ha : a < 281474976710656) (hb : b < 65536) : bits .or .u64 ((65536 * a : Nat) : Int) (b : Int) = ((65536 * a + b : Nat) : Int) := by
  rw [u64_or_nat _ _ (by omega) (by omega), show 65536 * a = 2 ^ 16 * a by rfl, nat_or_add (by omega)]
/-- Does a number fit into an int? -/
def fits (z : Int) : Bool := decide (-9223372036854775808 ≤ z) && decide (z ≤ 9223372036854775807)
/-- What whole.Int returns. -/
def IntR (z r k : Int) : Prop := (fits z = true ∧ r = z ∧ k = 0) ∨ (fits z = false ∧ r = 0 ∧ k = 3)
set_option maxRecDepth 100000 in
set_option maxHeartbeats 2000000 in
theorem down1_in16 (F : Fence) (m : Nat) (hg : F.fn 128) (hro : F.round = none) (hm : 1 ≤ m) (l Bs n₀ n c : Nat) (A : Option Addr) (f : Nat → Nat) (hf : ∀ i, f i < 65536) (hn : n ≤ 1000000) (J Jx : List (Bd 65536) → World → Prop)
    (hY : ∀ pre x W, J pre W → pre.length < n → YieldAt F (m - 1) Tryz.prog l #[.int .u16 ((x : Bd 65536).1 : Int)] W fun e W' =>
      (e = .returned (.bool true) ∧ J (pre ++ [x]) W' ∧ KpB n₀ Bs W W') ∨ (e = .returned (.bool false) ∧ Jx (pre ++ [x]) W'))
    (W : World) (hBs : W.cell? ⟨Bs, 0, none⟩ = some (.slice A n c)) (hc : Rd n₀ .u16 W A n f) (h0 : J [] W) :
    CallsIn F m Tryz.prog 128 #[.func (.yield l) #[] #[], .pointer (some ⟨Bs, 0, none⟩)] W fun e W' => (∃ v, e = .returned v) ∧
      ((∃ ys, ys = dn 65536 f hf n n ∧ J ys W') ∨ (∃ pre, (∃ k, k ≤ n ∧ pre = dn 65536 f hf n k) ∧ Jx pre W')) := by
  refine callsIn_of_wp Tryz.func128 rfl hg ?_ hro
  simp only [Tryz.ntmps128, List.size_toArray, List.length_cons, List.length_nil, Nat.reduceAdd, Nat.reduceSub, Array.replicate_succ, Array.replicate_zero, List.push_toArray, List.append_toArray, List.nil_append, List.cons_append]
  gi_wp2
  gi_loopw [3] (fun i wr => ∃ k : Nat, k ≤ n ∧ i = .int .i64 ((n : Int) - k - 1) ∧ J (dn 65536 f hf n k) wr ∧ KpB n₀ Bs W wr)
    (fun i _ => (intOf i + 1).toNat)
  case atStart => exact ⟨0, Nat.zero_le _, by simp, h0, Below.refl _ _, rfl⟩
  case round =>
    obtain ⟨k, hk, rfl, hJs, hnx⟩ := hrel
    have hbs := hnx.cell.trans hBs
    by_cases hlt : k < n
    · obtain ⟨b, o, rfl, hb, hcc⟩ := hc (by omega)
      obtain ⟨fn, tmps, assign, body, hy, hR⟩ := hY _ (⟨f (n - 1 - k), hf _⟩) wr hJs (by rw [dn_length]; exact hlt)
      dsimp only at hy
      have hcx := (hnx.1.cell (p := ⟨b, o + (n - 1 - k), none⟩) hb).trans (hcc (n - 1 - k) (by omega))
      have ek : ((n : Int) - k - 1) = ((n - 1 - k : Nat) : Int) := by omega
      rw [ek]
      clear ek
      gi_wp2
      refine hR.mono ?_
      rintro e W3 (⟨rfl, hJ3, hk3⟩ | ⟨rfl, hJx3⟩)
      · have hbs3 := hk3.cell.trans hbs
        gi_wp2
        go_roundw
        case rel => exact ⟨k + 1, by omega, by congr 1; omega, by rw [dn_succ]; exact hJ3, hnx.t hk3⟩
        case measure => simp [intOf] <;> omega
      · gi_wp2
        refine bodyPost_ret (results_none rfl _ _ _) rfl ?_
        exact ⟨⟨_, rfl⟩, .inr ⟨_, ⟨k + 1, by omega, (dn_succ ..).symm⟩, hJx3⟩⟩
    · obtain rfl : k = n := by omega
      rw [show (k : Int) - k - 1 = -1 by omega]
      gi_wp2
      go_end0
      exact ⟨⟨_, rfl⟩, .inl ⟨_, rfl, hJs⟩⟩

set_option maxHeartbeats 1000000 in
theorem down_in16 (F : Fence) (m : Nat) (hg : F.fn 114) (hro : F.round = none) (a : Option Addr) (len cap : Nat) (w : World) :
    CallsIn F m Tryz.prog 114 #[.slice a len cap] w fun e w' => e = .returned (.func (.func 128) #[] #[.pointer (some ⟨w.heap.size, 0, none⟩)]) ∧ w' = w.alloc (.cells #[.slice a len cap] 22) := by
  refine callsIn_of_wp Tryz.func114 rfl hg ?_ hro
  simp only [Tryz.ntmps114, List.size_toArray, List.length_cons, List.length_nil, Nat.reduceAdd, Nat.reduceSub, Array.replicate_succ, Array.replicate_zero, List.push_toArray, List.append_toArray, List.nil_append, List.cons_append]
  gi_wp2
  go_ret
  exact ⟨rfl, rfl⟩

theorem down_stops16 (F : Fence) (m : Nat) (hg : F.fn 128) (hro : F.round = none) (hm : 1 ≤ m) (Bs n₀ n c : Nat) (A : Option Addr) (f : Nat → Nat) (hf : ∀ i, f i < 65536) (hn : n ≤ 1000000) (w : World) (hBs : Bs < w.heap.size) (hn₀ : n₀ ≤ w.heap.size)
    (hc : w.cell? ⟨Bs, 0, none⟩ = some (.slice A n c)) (hI : Rd n₀ .u16 w A n f) :
    SeqStopsK F m Tryz.prog 128 #[.pointer (some ⟨Bs, 0, none⟩)] (fun x : Bd 65536 => #[Value.int .u16 (x.1 : Int)]) (KpB n₀ Bs) (fun ys => ys = dn 65536 f hf n n) (fun pre => ∃ k, k ≤ n ∧ pre = dn 65536 f hf n k) n w := fun l J Jx W hW _ _ hY h0 => by
  have hc' := (hW.cell (p := ⟨Bs, 0, none⟩) hBs).trans hc
  exact down1_in16 F m hg hro hm l Bs n₀ n c A f hf hn J Jx hY W hc' (hI.below (hW.mono hn₀)) h0

set_option maxRecDepth 100000 in
set_option maxHeartbeats 2000000 in
theorem int_walk (s : Bool) (A : Option Addr) (n c : Nat) (f : Nat → Nat) (w : World) (h : Rd w.heap.size .u16 w A n f) (hf : ∀ i, f i < 65536) (hok : okW s n f = true) (h4 : n ≤ 4) :
    Calls Tryz.prog 80 #[.agg #[.bool s, .slice A n c]] w fun e w' => ∃ r k, e = .returned (.tuple #[.int .i64 r, .int .i64 k]) ∧ IntR (toI s (vs b16 f n)) r k ∧ Below w.heap.size w w' := by
  have hb0 : Below w.heap.size w (w.alloc (.cells #[.bool s, .slice A n c] 24)) := (Below.refl _ w).alloc (Nat.le_refl _) _
  have hp0 := WholeAt.new w s (.slice A n c)
  have hv := valid_any s A n c f _ ((h.below hb0).more hb0.size) (fun i _ => hf i) (by omega)
  rw [hok] at hv
  have t4 : (n : Int) ≤ 4 := by omega
  have hro : Fence.wide.round = none := rfl
  refine (callsIn_wide (n := 5)).1 ?_
  refine callsIn_of_wp_marks Tryz.func80 rfl trivial ?_ hro
  refine wpIn_wide.2 ?_
  simp only [Tryz.ntmps80, List.size_toArray, List.length_cons, List.length_nil, Nat.reduceAdd, Nat.reduceSub, Array.replicate_succ, Array.replicate_zero, List.push_toArray, List.append_toArray, List.nil_append, List.cons_append]
  go_wp2_with fail
  refine hv.mono ?_
  rintro e w1 ⟨rfl, hb1⟩
  have hp1 := hp0.below hb1 hp0.lt
  have hbl1 := hb0.trans (hb1.mono hb0.size)
  obtain ⟨p0, p1⟩ := hp1.cells
  have hlt := hp1.lt
  go_wp2_with fail
  refine (callsIn_wide.1 (down_in16 Fence.wide 4 trivial hro _ _ _ _)).mono ?_
  rintro e w' ⟨rfl, rfl⟩
  go_wp2_with fail
  have bS := Boxed.new w1 80 (.int .u64 0)
  have bN := Boxed.new (w1.alloc (.cells #[.int .u64 0] 80)) 22 (.slice A n c)
  rw [World.size_alloc] at bN
  have hB0 : Below w1.heap.size w1 ((w1.alloc (.cells #[.int .u64 0] 80)).alloc (.cells #[.slice A n c] 22)) := ((Below.refl _ w1).alloc (Nat.le_refl _) _).alloc (by simp) _
  have hrd : Rd w1.heap.size .u16 w1 A n f := (h.below hbl1).more hbl1.size
  have HV := Lib.hid (vs_lt (B := b16) (f := f) (m := n) fun j _ => hf j)
  clear hv p0 p1 h
  refine (wpIn_wide (n := 5)).1 ?_
  refine wpIn_rangeFunc_ownG hro (by decide) (gf := 128) (lb := #[.pointer (some ⟨w1.heap.size + 1, 0, none⟩)]) rfl trivial (enters_of Tryz.func128 (by kernel_rfl) rfl)
    (down_stops16 Fence.wide (5 - 1) trivial hro (by decide) (w1.heap.size + 1) w1.heap.size n c A f hf (by omega) _ (by simp) (by simp; omega) bN.cell (hrd.below hB0)) KpB.t (KpB.b (by simp; omega) (by simp)) (Below.refl _ _) (fun _ => rfl)
    (fun pre W => (W.cell? ⟨w1.heap.size, 0, none⟩ = some (.int .u64 ((dval b16 pre : Nat) : Int)) ∧ W.frozen? ⟨w1.heap.size, 0, none⟩ = false) ∧ Below w1.heap.size w1 W)
    (fun _ _ _ => False)
    (OwnFrom.and (Own.from (fun s A B row hs hg hr => ⟨cell_kept hs.1 hg hr, (frozen_kept hs.1 hg hr).trans hs.2⟩) _) (ownFrom_below (Nat.le_refl _) (by simp; omega)))
    (fun _ _ _ _ _ hs _ _ => hs)
    ⟨⟨(bS.alloc _).cell, (bS.alloc _).frozen⟩, hB0⟩
    (fun x => { tmps := #[.agg #[.bool s, .slice A n c], .pointer (some ⟨w.heap.size, 0, none⟩), .int .i64 0, .int .i64 0, .pointer (some ⟨w1.heap.size, 0, none⟩), .int .u16 (x.1 : Int), .agg #[.bool s, .slice A n c], .bool true, .bool false, .pointer (some ⟨w.heap.size, 1, none⟩), .slice A n c, .int .i64 (n : Int), .bool (decide ((4 : Int) < (n : Int))), .pointer (some ⟨w.heap.size, 1, none⟩), .slice A n c, .func (.func 128) #[] #[.pointer (some ⟨w1.heap.size + 1, 0, none⟩)], .int .u16 (x.1 : Int), undef, undef, undef, undef, undef, undef, undef, undef, undef, undef, undef, undef, undef, undef, undef, undef], defers := [] }) ?assign ?body ?done ?stop
  case assign =>
    intro l x W K hK
    gi_wp2
    exact hK
  case body =>
    rintro l pre x W ⟨⟨hc, hf⟩, hB⟩ hl
    have h1 := dval_lt (B := b16) (b := 65536) (Nat.le_refl _) pre
    have hv : dval b16 pre < 281474976710656 := Nat.lt_of_lt_of_le h1 (Nat.pow_le_pow_right (n := 65536) (by decide) (show pre.length ≤ 3 by omega))
    have h2 := x.2
    have o1 := u64_or_add16 hv h2
    obtain ⟨X, hX⟩ : ∃ X, X = 65536 * dval b16 pre + x.1 := ⟨_, rfl⟩
    rw [← hX, show ((65536 * dval b16 pre : Nat) : Int) = (dval b16 pre : Int) * 65536 by omega] at o1
    have HX := Lib.hid hX
    clear hX h1
    gi_wp2
    refine ⟨(KeepsOthers.setCell _ _ _).from _, ⟨(Below.refl w1.heap.size W).setCell (p := ⟨w1.heap.size, 0, none⟩) (Nat.le_refl _) _, Below.heap_setCell _ _ _ _ (by simp)⟩, ⟨?_, by rw [World.frozen?_setCell]; exact hf⟩, hB.setCell (p := ⟨w1.heap.size, 0, none⟩) (Nat.le_refl _) _⟩
    have e : dval b16 (pre ++ [x]) = X := by rw [dval_snoc, HX.out, Nat.mul_comm]; rfl
    rw [e]
    exact World.cell?_setCell_same' _ _ _ (by rw [hc]; rfl)
  case done =>
    rintro D ys W hD rfl ⟨⟨hc, _⟩, hB⟩ hK
    rw [dval_all] at hc
    obtain ⟨p0, p1⟩ := (hp1.below hB hp1.lt).cells
    obtain ⟨V, hV⟩ : ∃ V, V = vs b16 f n := ⟨_, rfl⟩
    rw [← hV] at hc
    have hVl : V < 18446744073709551616 := by
      rw [hV]
      exact Nat.lt_of_lt_of_le HV.out (Nat.pow_le_pow_right (n := 65536) (by decide) h4)
    have HX := Lib.hid hV
    clear hV
    have hbW := hbl1.trans (hB.mono hbl1.size)
    have hDw : w.heap.size ≤ D := by have := hbl1.size; simp at hD; omega
    cases s
    · by_cases hb : V < 9223372036854775808
      · have t1 : decide ((9223372036854775808 : Int) ≤ (V : Int)) = false := decide_eq_false (by omega)
        have hR : IntR (toI false (vs b16 f n)) (V : Int) 0 := by
          rw [← HX.out]
          exact .inl ⟨by unfold fits toI; simp; omega, rfl, rfl⟩
        go_wp2_with fail
        refine ⟨by simp, .inl ⟨_, _, rfl, run_takeDeferred hK, ?_⟩⟩
        exact ⟨_, results_tmp2 rfl _ _ _, _, _, rfl, hR, hbW.trans (belowK_b (w := w) (Nat.le_refl _) W D _ _ hDw hK rfl rfl)⟩
      · have t1 : (9223372036854775808 : Int) ≤ (V : Int) := by omega
        have hR : IntR (toI false (vs b16 f n)) 0 3 := by
          rw [← HX.out]
          exact .inr ⟨by unfold fits toI; simp; omega, rfl, rfl⟩
        go_wp2_with fail
        refine ⟨by simp, .inl ⟨_, _, rfl, run_takeDeferred hK, ?_⟩⟩
        exact ⟨_, results_tmp2 rfl _ _ _, _, _, rfl, hR, hbW.trans (belowK_b (w := w) (Nat.le_refl _) W D _ _ hDw hK rfl rfl)⟩
    · by_cases hb : V ≤ 9223372036854775808
      · have t1 : decide ((9223372036854775808 : Int) < (V : Int)) = false := decide_eq_false (by omega)
        have hR : IntR (toI true (vs b16 f n)) (-(V : Int)) 0 := by
          rw [← HX.out]
          exact .inl ⟨by unfold fits toI; simp; omega, rfl, rfl⟩
        have hw : IntKind.i64.wrap (IntKind.u64.wrap (-(V : Int))) = -(V : Int) := by rw [IntKind.wrap_u64, IntKind.wrap_i64]; omega
        go_wp2_with fail
        refine ⟨by simp, .inl ⟨_, _, rfl, run_takeDeferred hK, ?_⟩⟩
        exact ⟨_, results_tmp2 rfl _ _ _, _, _, rfl, hR, hbW.trans (belowK_b (w := w) (Nat.le_refl _) W D _ _ hDw hK rfl rfl)⟩
      · have t1 : (9223372036854775808 : Int) < (V : Int) := by omega
        have hR : IntR (toI true (vs b16 f n)) 0 3 := by
          rw [← HX.out]
          exact .inr ⟨by unfold fits toI; simp; omega, rfl, rfl⟩
        go_wp2_with fail
        refine ⟨by simp, .inl ⟨_, _, rfl, run_takeDeferred hK, ?_⟩⟩
        exact ⟨_, results_tmp2 rfl _ _ _, _, _, rfl, hR, hbW.trans (belowK_b (w := w) (Nat.le_refl _) W D _ _ hDw hK rfl rfl)⟩
  case stop =>
    rintro D c pre W _ _ h _
    exact h.elim
end Go.Proofs.YtifikcemcflgjaaGreat
namespace Go.Proofs.YtifikcemcflgjaaGreat
open Go.RowKit

theorem wint_v {z : Int} {s : Bool} {A : Option Addr} {n c : Nat} {w : World} (ha : WV w z s A n) (la : n ≤ 1024) :
    Calls Tryz.prog 80 #[.agg #[.bool s, .slice A n c]] w fun e w' => ∃ r k, e = .returned (.tuple #[.int .i64 r, .int .i64 k]) ∧ IntR z r k ∧ Below w.heap.size w w' := by
  obtain ⟨rfl, rfl, hA⟩ := ha
  by_cases h4 : ln b16 z.natAbs ≤ 4
  · have h := int_walk (decide (z < 0)) A (ln b16 z.natAbs) c (dgt b16 z.natAbs) w hA (fun i => dgt16_lt _ i) (okW_num la) h4
    rw [vs_dgt_ln b16_two, toI_int] at h
    exact h
  · refine (int_long (decide (z < 0)) A (ln b16 z.natAbs) c (dgt b16 z.natAbs) w hA (fun i _ => dgt16_lt _ i) (by omega) (okW_num la) (by omega)).mono ?_
    rintro e w' ⟨rfl, hb⟩
    have h5 : ¬ z.natAbs < b16 ^ 4 := fun h => h4 ((ln_le b16_two).2 h)
    have h6 : b16 ^ 4 = 18446744073709551616 := rfl
    refine ⟨0, 3, rfl, .inr ⟨?_, rfl, rfl⟩, hb⟩
    unfold fits
    by_cases h7 : -9223372036854775808 ≤ z
    · rw [decide_eq_false (show ¬ z ≤ 9223372036854775807 by omega), Bool.and_false]
    · rw [decide_eq_false h7, Bool.false_and]
/-- What frac.Int returns. -/
def FIntR (a : Rat) (r k : Int) : Prop := ((a.den : Int) = 1 ∧ IntR a.num r k) ∨ (¬ (a.den : Int) = 1 ∧ r = 0 ∧ k = 22)
set_option linter.unusedSimpArgs false in
set_option maxRecDepth 100000 in
set_option maxHeartbeats 2000000 in
theorem fint_v {a : Rat} {sa ta : Bool} {Aa Ba : Option Addr} {na ca ma da : Nat} {w : World} (ha : FV w a sa Aa na ta Ba ma) (la : fl a ≤ 256) :
    Calls Tryz.prog 38 #[.agg #[.bool sa, .slice Aa na ca, .bool ta, .slice Ba ma da]] w (fun e w' => ∃ r k, e = .returned (.tuple #[.int .i64 r, .int .i64 k]) ∧ FIntR a r k ∧ Below w.heap.size w w') := by
  have hE := ((Env.start w).fv ha).blk 26 #[.bool sa, .slice Aa na ca, .bool ta, .slice Ba ma da] (g := w.heap.size) rfl
  obtain ⟨W0, hW0⟩ : ∃ W0, W0 = (w.alloc (.cells #[.bool sa, .slice Aa na ca, .bool ta, .slice Ba ma da] 26)) := ⟨_, rfl⟩
  rw [← hW0] at hE
  have HW0 := Lib.hid hW0
  clear hW0
  go_enter Tryz.func38, Tryz.ntmps38
  go_upto_region 1 with (fail)
  rw [← HW0.out]
  obtain ⟨ha1, ha2⟩ := ha.ln la
  obtain ⟨qa1, qa2⟩ := fv_lens ha la
  obtain ⟨k1, k2, k3, k4⟩ := (hE.here.2).c4
  go_wp2_with fail
  have hc := fvalid_v0 (c := ca) (d := da) hE.here.1.2 la
  refine hc.mono ?_
  clear hc
  clear k1 k2 k3 k4
  rintro e w5 ⟨rfl, hb⟩
  replace hE := hE.step hb
  clear hb
  by_cases h1 : (a.den : Int) = 1
  · have hd : decide ((a.den : Int) = 1) = true := decide_eq_true h1
    obtain ⟨k6, k7, k8, k9⟩ := (hE.here.2).c4
    go_wp2_with fail
    have hc := fintegral_v (s := sa) (A := Aa) (n := na) (c := ca) (d := da) (hE.here.1.2).2 (by omega)
    rw [hd] at hc
    refine hc.mono ?_
    clear hc
    clear k6 k7 k8 k9
    rintro e w10 ⟨rfl, hb⟩
    replace hE := hE.step hb
    clear hb
    obtain ⟨k11, k12, k13, k14⟩ := (hE.here.2).c4
    go_wp2_with fail
    refine (wint_v (c := ca) (hE.here.1.2).1 (by omega)).mono ?_
    clear k11 k12 k13 k14
    rintro e w9 ⟨r, k, rfl, hr, hb⟩
    replace hE := hE.step hb
    clear hb
    go_wp2_with fail
    refine bodyPost_ret (v := .tuple #[.int .i64 r, .int .i64 k]) (by simp [results, Tryz.results38, go_sem]) rfl ?_
    exact ⟨r, k, rfl, .inl ⟨h1, hr⟩, hE.bel⟩
  · have hd : decide ((a.den : Int) = 1) = false := decide_eq_false h1
    obtain ⟨k15, k16, k17, k18⟩ := (hE.here.2).c4
    go_wp2_with fail
    have hc := fintegral_v (s := sa) (A := Aa) (n := na) (c := ca) (d := da) (hE.here.1.2).2 (by omega)
    rw [hd] at hc
    refine hc.mono ?_
    clear hc
    clear k15 k16 k17 k18
    rintro e w19 ⟨rfl, hb⟩
    replace hE := hE.step hb
    clear hb
    go_wp2_with fail
    refine bodyPost_ret (v := .tuple #[.int .i64 0, .int .i64 22]) (by simp [results, Tryz.results38, go_sem]) rfl ?_
    exact ⟨0, 22, rfl, .inr ⟨h1, rfl, rfl⟩, hE.bel⟩
end Go.Proofs.YtifikcemcflgjaaGreat
namespace Go.Proofs.YtifikcemcflgjaaGreat
open Go.RowKit

def floorQ (a : Rat) : Int := a.num.fdiv (a.den : Int)
theorem floorQ_mul (a : Rat) : floorQ a * (a.den : Int) ≤ a.num ∧ a.num < (floorQ a + 1) * (a.den : Int) ∧ (a.num.fmod (a.den : Int) = 0 ↔ floorQ a * (a.den : Int) = a.num) := by
  have hp := den_posZ a
  have h1 := Int.fmod_nonneg_of_pos a.num hp
  have h2 := Int.fmod_lt_of_pos a.num hp
  have h3 := Int.fmod_add_mul_fdiv a.num (a.den : Int)
  unfold floorQ
  have h4 : a.num.fdiv (a.den : Int) * (a.den : Int) = (a.den : Int) * a.num.fdiv (a.den : Int) := Int.mul_comm _ _
  have h5 : (a.num.fdiv (a.den : Int) + 1) * (a.den : Int) = a.num.fdiv (a.den : Int) * (a.den : Int) + (a.den : Int) := by rw [Int.add_mul, Int.one_mul]
  omega
theorem int_num (z : Int) : ((z : Int) : Rat).num = z ∧ ((z : Int) : Rat).den = 1 := ⟨Rat.num_intCast z, Rat.den_intCast z⟩
theorem z_le {z : Int} {a : Rat} : ((z : Int) : Rat) ≤ a ↔ z * (a.den : Int) ≤ a.num := by
  rw [Rat.le_iff, (int_num z).1, (int_num z).2]; simp
theorem lt_z {z : Int} {a : Rat} : a < ((z : Int) : Rat) ↔ a.num < z * (a.den : Int) := by
  rw [Rat.lt_iff, (int_num z).1, (int_num z).2]; simp
theorem z_eq {z : Int} {a : Rat} : ((z : Int) : Rat) = a ↔ z * (a.den : Int) = a.num := by
  rw [Rat.eq_iff_mul_eq_mul, (int_num z).1, (int_num z).2]; simp
theorem floorQ_le (a : Rat) : ((floorQ a : Int) : Rat) ≤ a := z_le.2 (floorQ_mul a).1
theorem floorQ_lt (a : Rat) : a < ((floorQ a + 1 : Int) : Rat) := lt_z.2 (floorQ_mul a).2.1
theorem floorQ_int {a : Rat} : (a.den : Int) = 1 ↔ ((floorQ a : Int) : Rat) = a := by
  constructor
  · intro h
    rw [z_eq]
    have := floorQ_mul a
    rw [h] at this ⊢
    omega
  · intro h
    have := (int_num (floorQ a)).2
    rw [h] at this
    omega
theorem ceilQ_val (a : Rat) : ceilQ a = if (a.den : Int) = 1 then floorQ a else floorQ a + 1 := by
  unfold ceilQ
  have h := (floorQ_mul a).2.2
  rw [← z_eq, ← floorQ_int] at h
  by_cases h1 : (a.den : Int) = 1
  · rw [if_pos (h.2 h1), if_pos h1]; rfl
  · rw [if_neg (fun x => h1 (h.1 x)), if_neg h1]; rfl
theorem floorQ_uniq {a : Rat} {z : Int} (h1 : ((z : Int) : Rat) ≤ a) (h2 : a < ((z + 1 : Int) : Rat)) : floorQ a = z := by
  have h3 := floorQ_le a
  have h4 := floorQ_lt a
  have h5 : ((z : Int) : Rat) < ((floorQ a + 1 : Int) : Rat) := by grind
  have h6 : ((floorQ a : Int) : Rat) < ((z + 1 : Int) : Rat) := by grind
  rw [Rat.intCast_lt_intCast] at h5 h6
  omega
theorem ceil_floor (a : Rat) : ceilQ a + floorQ (-a) = 0 := by
  rw [ceilQ_val]
  have h1 := floorQ_le a
  have h2 := floorQ_lt a
  have h3 := floorQ_int (a := a)
  by_cases h : (a.den : Int) = 1
  · rw [if_pos h]
    have e := h3.1 h
    rw [floorQ_uniq (a := -a) (z := -floorQ a)]
    · omega
    · rw [Rat.intCast_neg, e]; grind
    · rw [Rat.intCast_add, Rat.intCast_neg, e]; grind
  · rw [if_neg h]
    have hne : ¬ ((floorQ a : Int) : Rat) = a := fun x => h (h3.2 x)
    rw [floorQ_uniq (a := -a) (z := -(floorQ a + 1))]
    · omega
    · rw [Rat.intCast_neg]; grind
    · rw [show (-(floorQ a + 1) + 1 : Int) = -floorQ a by omega, Rat.intCast_neg]; grind
end Go.Proofs.YtifikcemcflgjaaGreat
namespace Go.Proofs.YtifikcemcflgjaaGreat
open Go.RowKit

/-- The call returned no number, and false. -/
def WF (w : World) (e : Ending) (w' : World) : Prop := e = .returned (.tuple #[.agg #[.bool false, .slice none 0 0], .bool false]) ∧ Below w.heap.size w w'
set_option linter.unusedSimpArgs false in
set_option maxRecDepth 100000 in
set_option maxHeartbeats 8000000 in
theorem fpower_long {a : Int} {sa : Bool} {Aa : Option Addr} {na ca : Nat} {w : World} (ha : WV w a sa Aa na) (n : Nat) (hn : n ≤ 18446744073709551615) (hl : 256 < ln b16 (a ^ n).natAbs) (la : na ≤ 256) :
    Calls Tryz.prog 75 #[.agg #[.bool sa, .slice Aa na ca], .int .u64 (n : Int)] w (WF w) := by
  have ha2 : 2 ≤ a.natAbs := by
    rcases Nat.lt_or_ge a.natAbs 2 with h | h
    · exfalso
      have h1 : (a ^ n).natAbs ≤ 1 := by
        rw [Int.natAbs_pow]
        exact Nat.le_trans (Nat.pow_le_pow_left (show a.natAbs ≤ 1 by omega) n) (by rw [Nat.one_pow]; exact Nat.le_refl _)
      have h2 := Nat.le_trans (ln_mono b16_two h1) (show ln b16 1 ≤ 1 by decide)
      omega
    · exact h
  have hp : 0 < na := by rw [ha.len]; exact (ln_pos b16_two).2 (by omega)
  by_cases hna : na = 1
  · skip
    obtain rfl : na = 1 := hna
    obtain ⟨b, o, rfl, hbl, hcell⟩ := limb_one ha
    have t3 : (((a.natAbs : Nat) : Int) == 1) = false := beq_eq_false_iff_ne.2 (by omega)
    obtain ⟨d, hd⟩ : ∃ d, d = ((a.natAbs : Nat) : Int) := ⟨_, rfl⟩
    rw [← hd] at t3 hcell
    clear hd
    have hE := (((Env.start w).wv ha).at_ hbl hcell).blk 24 #[.bool sa, .slice (some ⟨b, o, none⟩) 1 ca] (g := w.heap.size) rfl
    have hE := hE.blk 24 #[.bool false, .slice none 0 0] (g := w.heap.size + 1) (by simp)
    obtain ⟨W0, hW0⟩ : ∃ W0, W0 = ((w.alloc (.cells #[.bool sa, .slice (some ⟨b, o, none⟩) 1 ca] 24)).alloc (.cells #[.bool false, .slice none 0 0] 24)) := ⟨_, rfl⟩
    rw [← hW0] at hE
    have HW0 := Lib.hid hW0
    clear hW0
    go_enter Tryz.func75, Tryz.ntmps75
    go_upto_region 1 with (fail)
    rw [← HW0.out]
    go_wp2_with fail
    have hc := fromInt_v 1 W0 (by decide) (by decide)
    refine hc.mono ?_
    clear hc
    rintro e w1 ⟨so, Ao, no, co, rfl, ho, hb⟩
    replace hE := hE.step hb
    clear hb
    replace hE := hE.wv ho
    clear ho
    go_upto_region 2 with (fail)
    obtain ⟨g2, hg2⟩ : ∃ g2, g2 = w1.heap.size := ⟨_, rfl⟩
    have hl2_2 : w.heap.size < g2 := by rw [hg2]; exact (hE.here.1.1.2).lt
    have hl2_3 : w.heap.size + 1 < g2 := by rw [hg2]; exact (hE.here.1.2).lt
    replace hE := hE.blk 24 #[.bool so, .slice Ao no co] (g := g2) hg2.symm
    generalize w1.alloc (.cells #[.bool so, .slice Ao no co] 24) = W2 at hE ⊢
    rw [← hg2]
    clear hg2
    obtain ⟨k3, k4⟩ := (hE.here.1.1.1.2).c2
    obtain ⟨k5, k6⟩ := (hE.here.2).c2
    have k7 := (hE.here.1.1.1.1.2).2
    go_upto_region 8 with (fail)
    clear k3 k4 k5 k6 k7
    obtain ⟨g8, hg8⟩ : ∃ g8, g8 = W2.heap.size := ⟨_, rfl⟩
    have hl8_2 : w.heap.size < g8 := by rw [hg8]; exact (hE.here.1.1.1.2).lt
    have hl8_3 : w.heap.size + 1 < g8 := by rw [hg8]; exact (hE.here.1.1.2).lt
    have hl8_5 : g2 < g8 := by rw [hg8]; exact (hE.here.2).lt
    replace hE := hE.blk 24 #[.bool so, .slice Ao no co] (g := g8) hg8.symm
    generalize W2.alloc (.cells #[.bool so, .slice Ao no co] 24) = W8 at hE ⊢
    rw [← hg8]
    clear hg8
    have hGl : w.heap.size + 1 < g8 := by omega
    go_wp2_with fail
    go_loopw [8] (fun x wr => ∃ i : Nat, ∃ sv Av nv cv, i ≤ 64 ∧ x = .int .i64 ((i : Int) - 1) ∧ Hid (ln b16 (a ^ (n / 2 ^ i)).natAbs ≤ 256) ∧ Env w (fun V => (((((True ∧ WV V a sa (some ⟨b, o, none⟩) 1) ∧ Blk 24 (w.heap.size) #[.bool sa, .slice (some ⟨b, o, none⟩) 1 ca] V) ∧ Blk 24 (w.heap.size + 1) #[.bool false, .slice none 0 0] V) ∧ WV V (a ^ (n / 2 ^ i)) sv Av nv) ∧ Blk 24 (g8) #[.bool sv, .slice Av nv cv] V)) wr) (fun x _ => (intOf x + 1).toNat)
    case atStart =>
      have hv := hE.here.1.1.2
      have h64 : a ^ (n / 2 ^ 64) = 1 := by rw [Nat.div_eq_of_lt (by omega), Int.pow_zero]
      rw [← h64] at hv
      exact ⟨64, so, Ao, no, co, Nat.le_refl _, rfl, Lib.hid (by rw [h64]; decide), ((((Env.again hE.bel).wv (hE.here.1.1.1.1.1.1.2)).blkI (hE.here.1.1.1.1.2)).blkI (hE.here.1.1.1.2)).wv hv |>.blkI (hE.here.2)⟩
    case round =>
      clear hE
      obtain ⟨i, sv, Av, nv, cv, hi, rfl, HI, hE⟩ := hrel
      by_cases h0 : i = 0
      · exact absurd HI.out (by rw [h0, Nat.pow_zero, Nat.div_one]; omega)
      · obtain ⟨j, rfl⟩ : ∃ j, i = j + 1 := ⟨i - 1, by omega⟩
        have e1 : ((j + 1 : Nat) : Int) - 1 = (j : Int) := by omega
        rw [e1]
        clear e1 h0
        have lv : nv ≤ 256 := by rw [(hE.here.1.2).len]; exact HI.out
        have l2 : ln b16 (a ^ (n / 2 ^ (j + 1)) * a ^ (n / 2 ^ (j + 1))).natAbs ≤ 256 + 256 := ln_mulZ HI.out HI.out
        obtain ⟨bit, hbit⟩ : ∃ b, b = n / 2 ^ j % 2 := ⟨_, rfl⟩
        have HB := Lib.hid hbit
        have HL := Lib.hid l2
        clear hbit l2
        obtain ⟨k9, k10⟩ := (hE.here.1.1.1.2).c2
        obtain ⟨k11, k12⟩ := (hE.here.2).c2
        go_wp2_with fail
        have hc := ftimes_v (ca := cv) (cb := cv) hE.here.1.2 hE.here.1.2 (Nat.le_trans lv (by decide)) (Nat.le_trans lv (by decide)) (Nat.le_trans HL.out (by decide))
        refine hc.mono ?_
        clear hc
        clear k9 k10 k11 k12
        rintro e w13 ⟨sq, Aq, nq, cq, rfl, hq, hb⟩
        replace hE := hE.step hb
        clear hb
        replace hE := hE.wv hq
        clear hq
        have hgl14 : w.heap.size ≤ g8 := by omega
        obtain ⟨x14_0, x14_1⟩ := (hE.here.1.2).c2
        obtain ⟨f14_0, f14_1⟩ := hE.here.1.2.f2
        replace hE := (((((((Env.again (bel2 hE.bel hgl14 (.bool sq) (.slice Aq nq cq))).wv ((hE.here.1.1.1.1.1.2).sep2 hE.here.1.2 rfl (.bool sq) (.slice Aq nq cq) rfl)).blkI ((hE.here.1.1.1.1.2).far2 (R := g8) (by omega) (.bool sq) (.slice Aq nq cq))).blkI ((hE.here.1.1.1.2).far2 (R := g8) (by omega) (.bool sq) (.slice Aq nq cq))).wv ((hE.here.1.1.2).sep2 hE.here.1.2 rfl (.bool sq) (.slice Aq nq cq) rfl)).blkI ((hE.here.1.2).s2 (.bool sq) (.slice Aq nq cq))).wv ((hE.here.2).sep2 hE.here.1.2 rfl (.bool sq) (.slice Aq nq cq) rfl))
        go_upto_region 12 with (fail)
        clear x14_0 x14_1 f14_0 f14_1 hgl14
        generalize ((w13.setCell ⟨g8, 0, none⟩ (.bool sq)).setCell ⟨g8, 1, none⟩ (.slice Aq nq cq)) = W14 at hE ⊢
        have hb2 : bit = 0 ∨ bit = 1 := by have := HB.out; omega
        have e9 : (n : Int) / 2 ^ j = ((n / 2 ^ j : Nat) : Int) := by simp
        have HE9 := Lib.hid e9
        clear e9
        rcases hb2 with rfl | rfl
        · have hb9 := HB.out
          have hd9 := Nat.div_le_self n (2 ^ j)
          have o3 : (bits .and .u64 ((n : Int) / 2 ^ j) 1 == 1) = false := by
            rw [HE9.out]
            generalize n / 2 ^ j = X at hb9 hd9 ⊢
            rw [Lib.u64_and1 _ (by omega) (by omega)]
            rw [beq_eq_false_iff_ne]; omega
          clear hd9
          clear hb9
          have lq : nq ≤ 512 := by rw [(hE.here.2).len]; exact HL.out
          go_upto_region 14 with (fail)
          have hv := hE.here.2
          rw [pow_step a n j HB.out.symm] at hv
          have hvl := hv.len
          have HV := Lib.hid hv
          have HVL := Lib.hid hvl
          clear hv hvl
          by_cases hlg : 256 < nq
          · have t8 : decide (256 < (nq : Int)) = true := decide_eq_true (by omega)
            have t9 : decide (256 < nq) = true := decide_eq_true hlg
            clear hlg
            have hz := zero_wv W14
            replace hE := hE.wv hz
            clear hz
            obtain ⟨k15, k16⟩ := (hE.here.1.1.2).c2
            have hRl : w.heap.size ≤ w.heap.size + 1 := by omega
            obtain ⟨WW, hWW, hB, hV, hBel⟩ := ret_whole hE hE.here.1.1.1.1.2 hRl hE.here.2 0
            obtain ⟨x0, x1⟩ := (hE.here.1.1.1.1.2).c2
            obtain ⟨fz0, fz1⟩ := hE.here.1.1.1.1.2.f2
            have HWW := Lib.hid hWW
            clear hWW
            go_wp2_with fail
            clear x0 x1
            rw [← HWW.out]
            obtain ⟨y0, y1⟩ := hB.c2
            refine bodyPost_ret (v := .tuple #[.agg #[.bool false, .slice none 0 0], .bool false]) (by simp [results, Tryz.results75, go_sem, y0, y1]) rfl ?_
            exact ⟨rfl, hBel⟩
          · have t8 : decide (256 < (nq : Int)) = false := decide_eq_false (by omega)
            have t9 : decide (256 < nq) = false := decide_eq_false hlg
            have HS := Lib.hid hlg
            clear hlg
            obtain ⟨k17, k18⟩ := (hE.here.1.2).c2
            go_wp2_with fail
            clear k17 k18
            go_roundw
            case rel => exact ⟨j, sq, Aq, nq, cq, by omega, by go_num, Lib.hid (by have h1 := HS.out; have h2 := HVL.out; omega), ((((Env.again hE.bel).wv (hE.here.1.1.1.1.1.2)).blkI (hE.here.1.1.1.1.2)).blkI (hE.here.1.1.1.2)).wv HV.out |>.blkI (hE.here.1.2)⟩
            case measure => (simp [intOf]) <;> omega
        · have hb9 := HB.out
          have hd9 := Nat.div_le_self n (2 ^ j)
          have o3 : (bits .and .u64 ((n : Int) / 2 ^ j) 1 == 1) = true := by
            rw [HE9.out]
            generalize n / 2 ^ j = X at hb9 hd9 ⊢
            rw [Lib.u64_and1 _ (by omega) (by omega)]
            rw [beq_iff_eq]; omega
          clear hd9
          clear hb9
          have lq : nq ≤ 512 := by rw [(hE.here.2).len]; exact HL.out
          obtain ⟨k19, k20⟩ := (hE.here.1.1.1.1.2).c2
          obtain ⟨k21, k22⟩ := (hE.here.1.2).c2
          go_wp2_with fail
          have hc := ftimes_v (ca := cq) (cb := ca) hE.here.2 hE.here.1.1.1.1.1.2 (Nat.le_trans lq (by decide)) (by omega) (Nat.le_trans (ln_mulZ HL.out (show ln b16 a.natAbs ≤ 256 by rw [← (hE.here.1.1.1.1.1.2).len]; omega)) (by decide))
          refine hc.mono ?_
          clear hc
          clear k19 k20 k21 k22
          rintro e w23 ⟨sp, Ap, np, cp, rfl, hp, hb⟩
          replace hE := hE.step hb
          clear hb
          replace hE := hE.wv hp
          clear hp
          have hgl24 : w.heap.size ≤ g8 := by omega
          obtain ⟨x24_0, x24_1⟩ := (hE.here.1.1.2).c2
          obtain ⟨f24_0, f24_1⟩ := hE.here.1.1.2.f2
          replace hE := ((((((((Env.again (bel2 hE.bel hgl24 (.bool sp) (.slice Ap np cp))).wv ((hE.here.1.1.1.1.1.1.2).sep2 hE.here.1.1.2 rfl (.bool sp) (.slice Ap np cp) rfl)).blkI ((hE.here.1.1.1.1.1.2).far2 (R := g8) (by omega) (.bool sp) (.slice Ap np cp))).blkI ((hE.here.1.1.1.1.2).far2 (R := g8) (by omega) (.bool sp) (.slice Ap np cp))).wv ((hE.here.1.1.1.2).sep2 hE.here.1.1.2 rfl (.bool sp) (.slice Ap np cp) rfl)).blkI ((hE.here.1.1.2).s2 (.bool sp) (.slice Ap np cp))).wv ((hE.here.1.2).sep2 hE.here.1.1.2 rfl (.bool sp) (.slice Ap np cp) rfl)).wv ((hE.here.2).sep2 hE.here.1.1.2 rfl (.bool sp) (.slice Ap np cp) rfl))
          go_upto_region 14 with (fail)
          clear x24_0 x24_1 f24_0 f24_1 hgl24
          generalize ((w23.setCell ⟨g8, 0, none⟩ (.bool sp)).setCell ⟨g8, 1, none⟩ (.slice Ap np cp)) = W24 at hE ⊢
          have hv := hE.here.2
          rw [pow_step1 a n j HB.out.symm] at hv
          have hvl := hv.len
          have HV := Lib.hid hv
          have HVL := Lib.hid hvl
          clear hv hvl
          by_cases hlg : 256 < np
          · have t8 : decide (256 < (np : Int)) = true := decide_eq_true (by omega)
            have t9 : decide (256 < np) = true := decide_eq_true hlg
            clear hlg
            have hz := zero_wv W24
            replace hE := hE.wv hz
            clear hz
            obtain ⟨k25, k26⟩ := (hE.here.1.1.1.2).c2
            have hRl : w.heap.size ≤ w.heap.size + 1 := by omega
            obtain ⟨WW, hWW, hB, hV, hBel⟩ := ret_whole hE hE.here.1.1.1.1.1.2 hRl hE.here.2 0
            obtain ⟨x0, x1⟩ := (hE.here.1.1.1.1.1.2).c2
            obtain ⟨fz0, fz1⟩ := hE.here.1.1.1.1.1.2.f2
            have HWW := Lib.hid hWW
            clear hWW
            go_wp2_with fail
            clear x0 x1
            rw [← HWW.out]
            obtain ⟨y0, y1⟩ := hB.c2
            refine bodyPost_ret (v := .tuple #[.agg #[.bool false, .slice none 0 0], .bool false]) (by simp [results, Tryz.results75, go_sem, y0, y1]) rfl ?_
            exact ⟨rfl, hBel⟩
          · have t8 : decide (256 < (np : Int)) = false := decide_eq_false (by omega)
            have t9 : decide (256 < np) = false := decide_eq_false hlg
            have HS := Lib.hid hlg
            clear hlg
            obtain ⟨k27, k28⟩ := (hE.here.1.1.2).c2
            go_wp2_with fail
            clear k27 k28
            go_roundw
            case rel => exact ⟨j, sp, Ap, np, cp, by omega, by go_num, Lib.hid (by have h1 := HS.out; have h2 := HVL.out; omega), ((((Env.again hE.bel).wv (hE.here.1.1.1.1.1.1.2)).blkI (hE.here.1.1.1.1.1.2)).blkI (hE.here.1.1.1.1.2)).wv HV.out |>.blkI (hE.here.1.1.2)⟩
            case measure => (simp [intOf]) <;> omega
  · skip
    have t1 : ((na : Int) == 0) = false := beq_eq_false_iff_ne.2 (by omega)
    have t2 : (na == 0) = false := beq_eq_false_iff_ne.2 (by omega)
    have t3 : ((na : Int) == 1) = false := beq_eq_false_iff_ne.2 (by omega)
    have t4 : (na == 1) = false := beq_eq_false_iff_ne.2 (by omega)
    have hE := ((Env.start w).wv ha).blk 24 #[.bool sa, .slice Aa na ca] (g := w.heap.size) rfl
    have hE := hE.blk 24 #[.bool false, .slice none 0 0] (g := w.heap.size + 1) (by simp)
    obtain ⟨W0, hW0⟩ : ∃ W0, W0 = ((w.alloc (.cells #[.bool sa, .slice Aa na ca] 24)).alloc (.cells #[.bool false, .slice none 0 0] 24)) := ⟨_, rfl⟩
    rw [← hW0] at hE
    have HW0 := Lib.hid hW0
    clear hW0
    go_enter Tryz.func75, Tryz.ntmps75
    go_upto_region 1 with (fail)
    rw [← HW0.out]
    go_wp2_with fail
    have hc := fromInt_v 1 W0 (by decide) (by decide)
    refine hc.mono ?_
    clear hc
    rintro e w1 ⟨so, Ao, no, co, rfl, ho, hb⟩
    replace hE := hE.step hb
    clear hb
    replace hE := hE.wv ho
    clear ho
    go_upto_region 2 with (fail)
    obtain ⟨g2, hg2⟩ : ∃ g2, g2 = w1.heap.size := ⟨_, rfl⟩
    have hl2_1 : w.heap.size < g2 := by rw [hg2]; exact (hE.here.1.1.2).lt
    have hl2_2 : w.heap.size + 1 < g2 := by rw [hg2]; exact (hE.here.1.2).lt
    replace hE := hE.blk 24 #[.bool so, .slice Ao no co] (g := g2) hg2.symm
    generalize w1.alloc (.cells #[.bool so, .slice Ao no co] 24) = W2 at hE ⊢
    rw [← hg2]
    clear hg2
    obtain ⟨k3, k4⟩ := (hE.here.1.1.1.2).c2
    obtain ⟨k5, k6⟩ := (hE.here.2).c2
    go_upto_region 8 with (fail)
    clear k3 k4 k5 k6
    obtain ⟨g7, hg7⟩ : ∃ g7, g7 = W2.heap.size := ⟨_, rfl⟩
    have hl7_1 : w.heap.size < g7 := by rw [hg7]; exact (hE.here.1.1.1.2).lt
    have hl7_2 : w.heap.size + 1 < g7 := by rw [hg7]; exact (hE.here.1.1.2).lt
    have hl7_4 : g2 < g7 := by rw [hg7]; exact (hE.here.2).lt
    replace hE := hE.blk 24 #[.bool so, .slice Ao no co] (g := g7) hg7.symm
    generalize W2.alloc (.cells #[.bool so, .slice Ao no co] 24) = W7 at hE ⊢
    rw [← hg7]
    clear hg7
    have hGl : w.heap.size + 1 < g7 := by omega
    go_wp2_with fail
    go_loopw [8] (fun x wr => ∃ i : Nat, ∃ sv Av nv cv, i ≤ 64 ∧ x = .int .i64 ((i : Int) - 1) ∧ Hid (ln b16 (a ^ (n / 2 ^ i)).natAbs ≤ 256) ∧ Env w (fun V => (((((True ∧ WV V a sa Aa na) ∧ Blk 24 (w.heap.size) #[.bool sa, .slice Aa na ca] V) ∧ Blk 24 (w.heap.size + 1) #[.bool false, .slice none 0 0] V) ∧ WV V (a ^ (n / 2 ^ i)) sv Av nv) ∧ Blk 24 (g7) #[.bool sv, .slice Av nv cv] V)) wr) (fun x _ => (intOf x + 1).toNat)
    case atStart =>
      have hv := hE.here.1.1.2
      have h64 : a ^ (n / 2 ^ 64) = 1 := by rw [Nat.div_eq_of_lt (by omega), Int.pow_zero]
      rw [← h64] at hv
      exact ⟨64, so, Ao, no, co, Nat.le_refl _, rfl, Lib.hid (by rw [h64]; decide), ((((Env.again hE.bel).wv (hE.here.1.1.1.1.1.2)).blkI (hE.here.1.1.1.1.2)).blkI (hE.here.1.1.1.2)).wv hv |>.blkI (hE.here.2)⟩
    case round =>
      clear hE
      obtain ⟨i, sv, Av, nv, cv, hi, rfl, HI, hE⟩ := hrel
      by_cases h0 : i = 0
      · exact absurd HI.out (by rw [h0, Nat.pow_zero, Nat.div_one]; omega)
      · obtain ⟨j, rfl⟩ : ∃ j, i = j + 1 := ⟨i - 1, by omega⟩
        have e1 : ((j + 1 : Nat) : Int) - 1 = (j : Int) := by omega
        rw [e1]
        clear e1 h0
        have lv : nv ≤ 256 := by rw [(hE.here.1.2).len]; exact HI.out
        have l2 : ln b16 (a ^ (n / 2 ^ (j + 1)) * a ^ (n / 2 ^ (j + 1))).natAbs ≤ 256 + 256 := ln_mulZ HI.out HI.out
        obtain ⟨bit, hbit⟩ : ∃ b, b = n / 2 ^ j % 2 := ⟨_, rfl⟩
        have HB := Lib.hid hbit
        have HL := Lib.hid l2
        clear hbit l2
        obtain ⟨k8, k9⟩ := (hE.here.1.1.1.2).c2
        obtain ⟨k10, k11⟩ := (hE.here.2).c2
        go_wp2_with fail
        have hc := ftimes_v (ca := cv) (cb := cv) hE.here.1.2 hE.here.1.2 (Nat.le_trans lv (by decide)) (Nat.le_trans lv (by decide)) (Nat.le_trans HL.out (by decide))
        refine hc.mono ?_
        clear hc
        clear k8 k9 k10 k11
        rintro e w12 ⟨sq, Aq, nq, cq, rfl, hq, hb⟩
        replace hE := hE.step hb
        clear hb
        replace hE := hE.wv hq
        clear hq
        have hgl13 : w.heap.size ≤ g7 := by omega
        obtain ⟨x13_0, x13_1⟩ := (hE.here.1.2).c2
        obtain ⟨f13_0, f13_1⟩ := hE.here.1.2.f2
        replace hE := (((((((Env.again (bel2 hE.bel hgl13 (.bool sq) (.slice Aq nq cq))).wv ((hE.here.1.1.1.1.1.2).sep2 hE.here.1.2 rfl (.bool sq) (.slice Aq nq cq) rfl)).blkI ((hE.here.1.1.1.1.2).far2 (R := g7) (by omega) (.bool sq) (.slice Aq nq cq))).blkI ((hE.here.1.1.1.2).far2 (R := g7) (by omega) (.bool sq) (.slice Aq nq cq))).wv ((hE.here.1.1.2).sep2 hE.here.1.2 rfl (.bool sq) (.slice Aq nq cq) rfl)).blkI ((hE.here.1.2).s2 (.bool sq) (.slice Aq nq cq))).wv ((hE.here.2).sep2 hE.here.1.2 rfl (.bool sq) (.slice Aq nq cq) rfl))
        go_upto_region 12 with (fail)
        clear x13_0 x13_1 f13_0 f13_1 hgl13
        generalize ((w12.setCell ⟨g7, 0, none⟩ (.bool sq)).setCell ⟨g7, 1, none⟩ (.slice Aq nq cq)) = W13 at hE ⊢
        have hb2 : bit = 0 ∨ bit = 1 := by have := HB.out; omega
        have e9 : (n : Int) / 2 ^ j = ((n / 2 ^ j : Nat) : Int) := by simp
        have HE9 := Lib.hid e9
        clear e9
        rcases hb2 with rfl | rfl
        · have hb9 := HB.out
          have hd9 := Nat.div_le_self n (2 ^ j)
          have o3 : (bits .and .u64 ((n : Int) / 2 ^ j) 1 == 1) = false := by
            rw [HE9.out]
            generalize n / 2 ^ j = X at hb9 hd9 ⊢
            rw [Lib.u64_and1 _ (by omega) (by omega)]
            rw [beq_eq_false_iff_ne]; omega
          clear hd9
          clear hb9
          have lq : nq ≤ 512 := by rw [(hE.here.2).len]; exact HL.out
          go_upto_region 14 with (fail)
          have hv := hE.here.2
          rw [pow_step a n j HB.out.symm] at hv
          have hvl := hv.len
          have HV := Lib.hid hv
          have HVL := Lib.hid hvl
          clear hv hvl
          by_cases hlg : 256 < nq
          · have t8 : decide (256 < (nq : Int)) = true := decide_eq_true (by omega)
            have t9 : decide (256 < nq) = true := decide_eq_true hlg
            clear hlg
            have hz := zero_wv W13
            replace hE := hE.wv hz
            clear hz
            obtain ⟨k14, k15⟩ := (hE.here.1.1.2).c2
            have hRl : w.heap.size ≤ w.heap.size + 1 := by omega
            obtain ⟨WW, hWW, hB, hV, hBel⟩ := ret_whole hE hE.here.1.1.1.1.2 hRl hE.here.2 0
            obtain ⟨x0, x1⟩ := (hE.here.1.1.1.1.2).c2
            obtain ⟨fz0, fz1⟩ := hE.here.1.1.1.1.2.f2
            have HWW := Lib.hid hWW
            clear hWW
            go_wp2_with fail
            clear x0 x1
            rw [← HWW.out]
            obtain ⟨y0, y1⟩ := hB.c2
            refine bodyPost_ret (v := .tuple #[.agg #[.bool false, .slice none 0 0], .bool false]) (by simp [results, Tryz.results75, go_sem, y0, y1]) rfl ?_
            exact ⟨rfl, hBel⟩
          · have t8 : decide (256 < (nq : Int)) = false := decide_eq_false (by omega)
            have t9 : decide (256 < nq) = false := decide_eq_false hlg
            have HS := Lib.hid hlg
            clear hlg
            obtain ⟨k16, k17⟩ := (hE.here.1.2).c2
            go_wp2_with fail
            clear k16 k17
            go_roundw
            case rel => exact ⟨j, sq, Aq, nq, cq, by omega, by go_num, Lib.hid (by have h1 := HS.out; have h2 := HVL.out; omega), ((((Env.again hE.bel).wv (hE.here.1.1.1.1.1.2)).blkI (hE.here.1.1.1.1.2)).blkI (hE.here.1.1.1.2)).wv HV.out |>.blkI (hE.here.1.2)⟩
            case measure => (simp [intOf]) <;> omega
        · have hb9 := HB.out
          have hd9 := Nat.div_le_self n (2 ^ j)
          have o3 : (bits .and .u64 ((n : Int) / 2 ^ j) 1 == 1) = true := by
            rw [HE9.out]
            generalize n / 2 ^ j = X at hb9 hd9 ⊢
            rw [Lib.u64_and1 _ (by omega) (by omega)]
            rw [beq_iff_eq]; omega
          clear hd9
          clear hb9
          have lq : nq ≤ 512 := by rw [(hE.here.2).len]; exact HL.out
          obtain ⟨k18, k19⟩ := (hE.here.1.1.1.1.2).c2
          obtain ⟨k20, k21⟩ := (hE.here.1.2).c2
          go_wp2_with fail
          have hc := ftimes_v (ca := cq) (cb := ca) hE.here.2 hE.here.1.1.1.1.1.2 (Nat.le_trans lq (by decide)) (by omega) (Nat.le_trans (ln_mulZ HL.out (show ln b16 a.natAbs ≤ 256 by rw [← (hE.here.1.1.1.1.1.2).len]; omega)) (by decide))
          refine hc.mono ?_
          clear hc
          clear k18 k19 k20 k21
          rintro e w22 ⟨sp, Ap, np, cp, rfl, hp, hb⟩
          replace hE := hE.step hb
          clear hb
          replace hE := hE.wv hp
          clear hp
          have hgl23 : w.heap.size ≤ g7 := by omega
          obtain ⟨x23_0, x23_1⟩ := (hE.here.1.1.2).c2
          obtain ⟨f23_0, f23_1⟩ := hE.here.1.1.2.f2
          replace hE := ((((((((Env.again (bel2 hE.bel hgl23 (.bool sp) (.slice Ap np cp))).wv ((hE.here.1.1.1.1.1.1.2).sep2 hE.here.1.1.2 rfl (.bool sp) (.slice Ap np cp) rfl)).blkI ((hE.here.1.1.1.1.1.2).far2 (R := g7) (by omega) (.bool sp) (.slice Ap np cp))).blkI ((hE.here.1.1.1.1.2).far2 (R := g7) (by omega) (.bool sp) (.slice Ap np cp))).wv ((hE.here.1.1.1.2).sep2 hE.here.1.1.2 rfl (.bool sp) (.slice Ap np cp) rfl)).blkI ((hE.here.1.1.2).s2 (.bool sp) (.slice Ap np cp))).wv ((hE.here.1.2).sep2 hE.here.1.1.2 rfl (.bool sp) (.slice Ap np cp) rfl)).wv ((hE.here.2).sep2 hE.here.1.1.2 rfl (.bool sp) (.slice Ap np cp) rfl))
          go_upto_region 14 with (fail)
          clear x23_0 x23_1 f23_0 f23_1 hgl23
          generalize ((w22.setCell ⟨g7, 0, none⟩ (.bool sp)).setCell ⟨g7, 1, none⟩ (.slice Ap np cp)) = W23 at hE ⊢
          have hv := hE.here.2
          rw [pow_step1 a n j HB.out.symm] at hv
          have hvl := hv.len
          have HV := Lib.hid hv
          have HVL := Lib.hid hvl
          clear hv hvl
          by_cases hlg : 256 < np
          · have t8 : decide (256 < (np : Int)) = true := decide_eq_true (by omega)
            have t9 : decide (256 < np) = true := decide_eq_true hlg
            clear hlg
            have hz := zero_wv W23
            replace hE := hE.wv hz
            clear hz
            obtain ⟨k24, k25⟩ := (hE.here.1.1.1.2).c2
            have hRl : w.heap.size ≤ w.heap.size + 1 := by omega
            obtain ⟨WW, hWW, hB, hV, hBel⟩ := ret_whole hE hE.here.1.1.1.1.1.2 hRl hE.here.2 0
            obtain ⟨x0, x1⟩ := (hE.here.1.1.1.1.1.2).c2
            obtain ⟨fz0, fz1⟩ := hE.here.1.1.1.1.1.2.f2
            have HWW := Lib.hid hWW
            clear hWW
            go_wp2_with fail
            clear x0 x1
            rw [← HWW.out]
            obtain ⟨y0, y1⟩ := hB.c2
            refine bodyPost_ret (v := .tuple #[.agg #[.bool false, .slice none 0 0], .bool false]) (by simp [results, Tryz.results75, go_sem, y0, y1]) rfl ?_
            exact ⟨rfl, hBel⟩
          · have t8 : decide (256 < (np : Int)) = false := decide_eq_false (by omega)
            have t9 : decide (256 < np) = false := decide_eq_false hlg
            have HS := Lib.hid hlg
            clear hlg
            obtain ⟨k26, k27⟩ := (hE.here.1.1.2).c2
            go_wp2_with fail
            clear k26 k27
            go_roundw
            case rel => exact ⟨j, sp, Ap, np, cp, by omega, by go_num, Lib.hid (by have h1 := HS.out; have h2 := HVL.out; omega), ((((Env.again hE.bel).wv (hE.here.1.1.1.1.1.1.2)).blkI (hE.here.1.1.1.1.1.2)).blkI (hE.here.1.1.1.1.2)).wv HV.out |>.blkI (hE.here.1.1.2)⟩
            case measure => (simp [intOf]) <;> omega
end Go.Proofs.YtifikcemcflgjaaGreat
namespace Go.Proofs.YtifikcemcflgjaaGreat
open Go.ChangeShapes Go.WideShapes Go.ChangeAt Go.RowKit Go.Deep

theorem cBool : Tryz.prog.cellsOf 4 = 1 := by kernel_rfl
theorem cU16 : Tryz.prog.cellsOf 48 = 1 := by kernel_rfl
theorem cU16s : Tryz.prog.cellsOf 22 = 1 := by kernel_rfl
theorem cWhole : Tryz.prog.cellsOf 24 = 2 := by kernel_rfl
theorem cFrac : Tryz.prog.cellsOf 26 = 4 := by kernel_rfl
theorem two_of_len {α : Type} {l : List α} (h : l.length = 2) : ∃ a b, l = [a, b] := by
  match l, h with
  | [a, b], _ => exact ⟨a, b, rfl⟩
theorem four_of_len {α : Type} {l : List α} (h : l.length = 4) : ∃ a b c d, l = [a, b, c, d] := by
  match l, h with
  | [a, b, c, d], _ => exact ⟨a, b, c, d, rfl⟩
theorem cell_in {w : World} {b o : Nat} {v : Value} (h : w.cell? ⟨b, o, none⟩ = some v) : b < w.heap.size := by
  rcases Nat.lt_or_ge b w.heap.size with h1 | h1
  · exact h1
  · simp [World.cell?, Array.getElem?_eq_none h1] at h
section
variable {H : Type} {enc : TypeId × Value → H} {W : World}
set_option maxRecDepth 100000 in
/-- The limbs of a number. -/
theorem limbs_open {fuel : Nat} {cs : List Value} {x : DataW H × List MemPlace} (h : DataW.trod enc Tryz.prog W 0 (fun _ => true) true fuel 22 cs = some x) :
    ∃ A n c f, cs = [.slice A n c] ∧ Rd W.heap.size .u16 W A n f ∧ ∀ j, j < n → f j < 65536 := by
  rcases open_ints Tryz.underlying22 Tryz.underlying48 cU16 h with ⟨e1, -⟩ | ⟨a, len, cap, zs, e1, -, hlc, hcm, hzl, -, hc, hwf⟩
  · exact ⟨none, 0, 0, fun _ => 0, e1, Rd.nil, fun j hj => absurd hj (by omega)⟩
  · replace hzl : zs.length = cap := by simpa using hzl
    have hb : ∀ j, 0 ≤ zs.getD j 0 ∧ zs.getD j 0 ≤ 65535 := fun j => by rw [List.getD_eq_getElem?_getD]; exact range_u16 hwf j
    refine ⟨some a, len, cap, fun j => (zs.getD j 0).toNat, e1, fun hn => ?_, fun j _ => by have := hb j; show (zs.getD j 0).toNat < 65536; omega⟩
    obtain ⟨b, o, rfl, hcell⟩ := ints_at hc (by omega)
    refine ⟨b, o, rfl, ?_, fun i hi => ?_⟩
    · exact cell_in (hcell 0 (by omega))
    · rw [hcell i (by omega), Int.toNat_of_nonneg (hb i).1]
set_option maxRecDepth 100000 in
/-- The two cells of a whole number. -/
theorem wcells_open {fuel : Nat} {cs : List Value} {x : DataW H × List MemPlace} (h : DataW.trod enc Tryz.prog W 0 (fun _ => true) true fuel 24 cs = some x) :
    ∃ s A n c f, cs = [.bool s, .slice A n c] ∧ Rd W.heap.size .u16 W A n f ∧ ∀ j, j < n → f j < 65536 := by
  obtain ⟨xs, k, -, -, hl, hx, hi⟩ := DataW.trod_struct Tryz.underlying24 h
  obtain ⟨c0, c1, rfl⟩ := two_of_len (hl.trans cWhole)
  obtain ⟨x0, x1, rfl⟩ := two_of_len hx
  have h0 : DataW.trod enc Tryz.prog W 0 (fun _ => true) true k 4 (([c0, c1].drop 0).take (Tryz.prog.cellsOf 4)) = some x0 := hi 0 _ rfl
  have h1 : DataW.trod enc Tryz.prog W 0 (fun _ => true) true k 22 (([c0, c1].drop 1).take (Tryz.prog.cellsOf 22)) = some x1 := hi 1 _ rfl
  rw [cBool] at h0
  rw [cU16s] at h1
  simp only [List.drop_zero, List.take_succ_cons, List.take_zero, List.drop_succ_cons] at h0 h1
  obtain ⟨s, e0, -⟩ := DataW.trod_bool Tryz.underlying4 h0
  obtain ⟨A, n, c, f, e1, r1, r2⟩ := limbs_open h1
  injection e0 with e0
  injection e1 with e1
  exact ⟨s, A, n, c, f, by rw [e0, e1], r1, r2⟩
set_option maxRecDepth 100000 in
/-- The four cells of a fraction. -/
theorem fcells_open {fuel : Nat} {cs : List Value} {x : DataW H × List MemPlace} (h : DataW.trod enc Tryz.prog W 0 (fun _ => true) true fuel 26 cs = some x) :
    ∃ q : Fc, cs = [.bool q.s, .slice q.A q.n q.c, .bool q.t, .slice q.B q.m q.d] ∧ q.rd W := by
  obtain ⟨xs, k, -, -, hl, hx, hi⟩ := DataW.trod_struct Tryz.underlying26 h
  obtain ⟨c0, c1, c2, c3, rfl⟩ := four_of_len (hl.trans cFrac)
  obtain ⟨x0, x1, rfl⟩ := two_of_len hx
  have h0 : DataW.trod enc Tryz.prog W 0 (fun _ => true) true k 24 (([c0, c1, c2, c3].drop 0).take (Tryz.prog.cellsOf 24)) = some x0 := hi 0 _ rfl
  have h1 : DataW.trod enc Tryz.prog W 0 (fun _ => true) true k 24 (([c0, c1, c2, c3].drop 2).take (Tryz.prog.cellsOf 24)) = some x1 := hi 1 _ rfl
  rw [cWhole] at h0 h1
  simp only [List.drop_zero, List.take_succ_cons, List.take_zero, List.drop_succ_cons] at h0 h1
  obtain ⟨s, A, n, c, f, e0, r1, r2⟩ := wcells_open h0
  obtain ⟨t, B, m, d, g, e1, r3, r4⟩ := wcells_open h1
  injection e0 with e0 e2
  injection e2 with e2
  injection e1 with e1 e3
  injection e3 with e3
  exact ⟨⟨s, A, n, c, f, t, B, m, d, g⟩, by rw [e0, e1, e2, e3], r1, r3, r2, r4⟩
set_option maxRecDepth 100000 in
theorem frac_open {b0 : Nat} {v : Value} {d : DataW H} {p : List MemPlace} (hv : Value.okWide Tryz.prog W .any b0 26 v) (h : DataW.Trod enc Tryz.prog W 0 (fun _ => true) true 26 v d p) :
    ∃ s A n c f t B m d g, v = .agg #[.bool s, .slice A n c, .bool t, .slice B m d] ∧ FRd W A n f B m g := by
  obtain ⟨cs, rfl, -⟩ := okWide_struct Tryz.underlying26 hv
  obtain ⟨fuel, hf⟩ := h
  have hf2 : DataW.trod enc Tryz.prog W 0 (fun _ => true) true fuel 26 cs.toList = some (d, p) := hf
  obtain ⟨⟨s, A, n, c, f, t, B, m, e, g⟩, h1, h2⟩ := fcells_open hf2
  refine ⟨s, A, n, c, f, t, B, m, e, g, ?_, h2⟩
  rw [show cs = #[.bool s, .slice A n c, .bool t, .slice B m e] from Array.toList_inj.1 h1]
theorem max_open (hsh : W.ShapedOpen Tryz.prog) : 0 < W.heap.size ∧ ∃ k, W.cell? ⟨0, 0, none⟩ = some (.int .i64 k) := by
  have h : ∃ k, W.cell? ⟨0, 0, none⟩ = some (.int .i64 k) := Tryz.laysM145.s1_3 W hsh
  obtain ⟨k, hk⟩ := h
  exact ⟨cell_in hk, k, hk⟩
end
end Go.Proofs.YtifikcemcflgjaaGreat
