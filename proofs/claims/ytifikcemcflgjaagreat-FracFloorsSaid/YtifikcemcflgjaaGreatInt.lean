/-
  The range-function whole.downwards at limbs, and the walk of whole.Int, which ranges over it.
-/
import Derived.RangeFuncNested
import Derived.RangeFuncBound
import Derived.RangeFuncCalls
import Derived.RangeFuncLeaves
import Derived.RangeFuncBox
import Derived.Shelf.Abstract
import Derived.Shelf.RegionOpen
import Derived.OwnWalkIn
import Derived.TacticsInMore
import Derived.LoopNIn
import Derived.LoopIn
import Derived.Test.YtifikcemcflgjaaGreatK3
import Derived.Test.YtifikcemcflgjaaGreatIntB
namespace Go.Proofs.YtifikcemcflgjaaGreat
open Go.RowKit Go.Shelf
attribute [local go_sem] Oper.semAt_some

theorem u64_or_add16 {a b : Nat} (ha : a < 281474976710656) (hb : b < 65536) : bits .or .u64 ((65536 * a : Nat) : Int) (b : Int) = ((65536 * a + b : Nat) : Int) := by
  rw [u64_or_nat _ _ (by omega) (by omega), show 65536 * a = 2 ^ 16 * a by rfl, nat_or_add (by omega)]
/-- Does a number fit into an int? -/
def fits (z : Int) : Bool := decide (-9223372036854775808 ≤ z) && decide (z ≤ 9223372036854775807)
/-- What whole.Int returns. -/
def IntR (z r k : Int) : Prop := (fits z = true ∧ r = z ∧ k = 0) ∨ (fits z = false ∧ r = 0 ∧ k = 3)
set_option maxRecDepth 100000 in
set_option maxHeartbeats 2000000 in
theorem down1_in16 (F : Fence) (m : Nat) (hg : F.fn 128) (hro : F.round = none) (hm : 1 ≤ m) (l Bs n₀ n c : Nat) (A : Option Addr) (f : Nat → Nat) (hf : ∀ i, f i < 65536) (hn : n ≤ 1000000) (J Jx : List (Bd 65536) → World → Prop)
    (hY : ∀ pre x W, J pre W → pre.length < n → YieldAt F (m - 1) Tryz.prog l #[.int .u16 ((x : Bd 65536).1 : Int)] W fun e W' =>
      (e = .returned (.bool true) ∧ J (pre ++ [x]) W' ∧ KpB n₀ Bs W W') ∨ (e = .returned (.bool false) ∧ Jx (pre ++ [x]) W'))
    (W : World) (hBs : W.cell? ⟨Bs, 0, none⟩ = some (.slice A n c)) (hc : Rd n₀ .u16 W A n f) (h0 : J [] W) :
    CallsIn F m Tryz.prog 128 #[.func (.yield l) #[] #[], .pointer (some ⟨Bs, 0, none⟩)] W fun e W' => (∃ v, e = .returned v) ∧
      ((∃ ys, ys = dn 65536 f hf n n ∧ J ys W') ∨ (∃ pre, (∃ k, k ≤ n ∧ pre = dn 65536 f hf n k) ∧ Jx pre W')) := by
  refine callsIn_of_wp Tryz.func128 rfl hg ?_ hro
  simp only [Tryz.ntmps128, List.size_toArray, List.length_cons, List.length_nil, Nat.reduceAdd, Nat.reduceSub, Array.replicate_succ, Array.replicate_zero, List.push_toArray, List.append_toArray, List.nil_append, List.cons_append]
  gi_wp2
  gi_loopw [3] (fun i wr => ∃ k : Nat, k ≤ n ∧ i = .int .i64 ((n : Int) - k - 1) ∧ J (dn 65536 f hf n k) wr ∧ KpB n₀ Bs W wr)
    (fun i _ => (intOf i + 1).toNat)
  case atStart => exact ⟨0, Nat.zero_le _, by simp, h0, Below.refl _ _, rfl⟩
  case round =>
    obtain ⟨k, hk, rfl, hJs, hnx⟩ := hrel
    have hbs := hnx.cell.trans hBs
    by_cases hlt : k < n
    · obtain ⟨b, o, rfl, hb, hcc⟩ := hc (by omega)
      obtain ⟨fn, tmps, assign, body, hy, hR⟩ := hY _ (⟨f (n - 1 - k), hf _⟩) wr hJs (by rw [dn_length]; exact hlt)
      dsimp only at hy
      have hcx := (hnx.1.cell (p := ⟨b, o + (n - 1 - k), none⟩) hb).trans (hcc (n - 1 - k) (by omega))
      have ek : ((n : Int) - k - 1) = ((n - 1 - k : Nat) : Int) := by omega
      rw [ek]
      clear ek
      gi_wp2
      refine hR.mono ?_
      rintro e W3 (⟨rfl, hJ3, hk3⟩ | ⟨rfl, hJx3⟩)
      · have hbs3 := hk3.cell.trans hbs
        gi_wp2
        go_roundw
        case rel => exact ⟨k + 1, by omega, by congr 1; omega, by rw [dn_succ]; exact hJ3, hnx.t hk3⟩
        case measure => simp [intOf] <;> omega
      · gi_wp2
        refine bodyPost_ret (results_none rfl _ _ _) rfl ?_
        exact ⟨⟨_, rfl⟩, .inr ⟨_, ⟨k + 1, by omega, (dn_succ ..).symm⟩, hJx3⟩⟩
    · obtain rfl : k = n := by omega
      rw [show (k : Int) - k - 1 = -1 by omega]
      gi_wp2
      go_end0
      exact ⟨⟨_, rfl⟩, .inl ⟨_, rfl, hJs⟩⟩

set_option maxHeartbeats 1000000 in
theorem down_in16 (F : Fence) (m : Nat) (hg : F.fn 114) (hro : F.round = none) (a : Option Addr) (len cap : Nat) (w : World) :
    CallsIn F m Tryz.prog 114 #[.slice a len cap] w fun e w' => e = .returned (.func (.func 128) #[] #[.pointer (some ⟨w.heap.size, 0, none⟩)]) ∧ w' = w.alloc (.cells #[.slice a len cap] 22) := by
  refine callsIn_of_wp Tryz.func114 rfl hg ?_ hro
  simp only [Tryz.ntmps114, List.size_toArray, List.length_cons, List.length_nil, Nat.reduceAdd, Nat.reduceSub, Array.replicate_succ, Array.replicate_zero, List.push_toArray, List.append_toArray, List.nil_append, List.cons_append]
  gi_wp2
  go_ret
  exact ⟨rfl, rfl⟩

theorem down_stops16 (F : Fence) (m : Nat) (hg : F.fn 128) (hro : F.round = none) (hm : 1 ≤ m) (Bs n₀ n c : Nat) (A : Option Addr) (f : Nat → Nat) (hf : ∀ i, f i < 65536) (hn : n ≤ 1000000) (w : World) (hBs : Bs < w.heap.size) (hn₀ : n₀ ≤ w.heap.size)
    (hc : w.cell? ⟨Bs, 0, none⟩ = some (.slice A n c)) (hI : Rd n₀ .u16 w A n f) :
    SeqStopsK F m Tryz.prog 128 #[.pointer (some ⟨Bs, 0, none⟩)] (fun x : Bd 65536 => #[Value.int .u16 (x.1 : Int)]) (KpB n₀ Bs) (fun ys => ys = dn 65536 f hf n n) (fun pre => ∃ k, k ≤ n ∧ pre = dn 65536 f hf n k) n w := fun l J Jx W hW _ _ hY h0 => by
  have hc' := (hW.cell (p := ⟨Bs, 0, none⟩) hBs).trans hc
  exact down1_in16 F m hg hro hm l Bs n₀ n c A f hf hn J Jx hY W hc' (hI.below (hW.mono hn₀)) h0

set_option maxRecDepth 100000 in
set_option maxHeartbeats 2000000 in
theorem int_walk (s : Bool) (A : Option Addr) (n c : Nat) (f : Nat → Nat) (w : World) (h : Rd w.heap.size .u16 w A n f) (hf : ∀ i, f i < 65536) (hok : okW s n f = true) (h4 : n ≤ 4) :
    Calls Tryz.prog 80 #[.agg #[.bool s, .slice A n c]] w fun e w' => ∃ r k, e = .returned (.tuple #[.int .i64 r, .int .i64 k]) ∧ IntR (toI s (vs b16 f n)) r k ∧ Below w.heap.size w w' := by
  have hb0 : Below w.heap.size w (w.alloc (.cells #[.bool s, .slice A n c] 24)) := (Below.refl _ w).alloc (Nat.le_refl _) _
  have hp0 := WholeAt.new w s (.slice A n c)
  have hv := valid_any s A n c f _ ((h.below hb0).more hb0.size) (fun i _ => hf i) (by omega)
  rw [hok] at hv
  have t4 : (n : Int) ≤ 4 := by omega
  have hro : Fence.wide.round = none := rfl
  refine (callsIn_wide (n := 5)).1 ?_
  refine callsIn_of_wp_marks Tryz.func80 rfl trivial ?_ hro
  refine wpIn_wide.2 ?_
  simp only [Tryz.ntmps80, List.size_toArray, List.length_cons, List.length_nil, Nat.reduceAdd, Nat.reduceSub, Array.replicate_succ, Array.replicate_zero, List.push_toArray, List.append_toArray, List.nil_append, List.cons_append]
  go_wp2_with fail
  refine hv.mono ?_
  rintro e w1 ⟨rfl, hb1⟩
  have hp1 := hp0.below hb1 hp0.lt
  have hbl1 := hb0.trans (hb1.mono hb0.size)
  obtain ⟨p0, p1⟩ := hp1.cells
  have hlt := hp1.lt
  go_wp2_with fail
  refine (callsIn_wide.1 (down_in16 Fence.wide 4 trivial hro _ _ _ _)).mono ?_
  rintro e w' ⟨rfl, rfl⟩
  go_wp2_with fail
  have bS := Boxed.new w1 80 (.int .u64 0)
  have bN := Boxed.new (w1.alloc (.cells #[.int .u64 0] 80)) 22 (.slice A n c)
  rw [World.size_alloc] at bN
  have hB0 : Below w1.heap.size w1 ((w1.alloc (.cells #[.int .u64 0] 80)).alloc (.cells #[.slice A n c] 22)) := ((Below.refl _ w1).alloc (Nat.le_refl _) _).alloc (by simp) _
  have hrd : Rd w1.heap.size .u16 w1 A n f := (h.below hbl1).more hbl1.size
  have HV := Lib.hid (vs_lt (B := b16) (f := f) (m := n) fun j _ => hf j)
  clear hv p0 p1 h
  refine (wpIn_wide (n := 5)).1 ?_
  refine wpIn_rangeFunc_ownG hro (by decide) (gf := 128) (lb := #[.pointer (some ⟨w1.heap.size + 1, 0, none⟩)]) rfl trivial (enters_of Tryz.func128 (by kernel_rfl) rfl)
    (down_stops16 Fence.wide (5 - 1) trivial hro (by decide) (w1.heap.size + 1) w1.heap.size n c A f hf (by omega) _ (by simp) (by simp; omega) bN.cell (hrd.below hB0)) KpB.t (KpB.b (by simp; omega) (by simp)) (Below.refl _ _) (fun _ => rfl)
    (fun pre W => (W.cell? ⟨w1.heap.size, 0, none⟩ = some (.int .u64 ((dval b16 pre : Nat) : Int)) ∧ W.frozen? ⟨w1.heap.size, 0, none⟩ = false) ∧ Below w1.heap.size w1 W)
    (fun _ _ _ => False)
    (OwnFrom.and (Own.from (fun s A B row hs hg hr => ⟨cell_kept hs.1 hg hr, (frozen_kept hs.1 hg hr).trans hs.2⟩) _) (ownFrom_below (Nat.le_refl _) (by simp; omega)))
    (fun _ _ _ _ _ hs _ _ => hs)
    ⟨⟨(bS.alloc _).cell, (bS.alloc _).frozen⟩, hB0⟩
    (fun x => { tmps := #[.agg #[.bool s, .slice A n c], .pointer (some ⟨w.heap.size, 0, none⟩), .int .i64 0, .int .i64 0, .pointer (some ⟨w1.heap.size, 0, none⟩), .int .u16 (x.1 : Int), .agg #[.bool s, .slice A n c], .bool true, .bool false, .pointer (some ⟨w.heap.size, 1, none⟩), .slice A n c, .int .i64 (n : Int), .bool (decide ((4 : Int) < (n : Int))), .pointer (some ⟨w.heap.size, 1, none⟩), .slice A n c, .func (.func 128) #[] #[.pointer (some ⟨w1.heap.size + 1, 0, none⟩)], .int .u16 (x.1 : Int), undef, undef, undef, undef, undef, undef, undef, undef, undef, undef, undef, undef, undef, undef, undef, undef], defers := [] }) ?assign ?body ?done ?stop
  case assign =>
    intro l x W K hK
    gi_wp2
    exact hK
  case body =>
    rintro l pre x W ⟨⟨hc, hf⟩, hB⟩ hl
    have h1 := dval_lt (B := b16) (b := 65536) (Nat.le_refl _) pre
    have hv : dval b16 pre < 281474976710656 := Nat.lt_of_lt_of_le h1 (Nat.pow_le_pow_right (n := 65536) (by decide) (show pre.length ≤ 3 by omega))
    have h2 := x.2
    have o1 := u64_or_add16 hv h2
    obtain ⟨X, hX⟩ : ∃ X, X = 65536 * dval b16 pre + x.1 := ⟨_, rfl⟩
    rw [← hX, show ((65536 * dval b16 pre : Nat) : Int) = (dval b16 pre : Int) * 65536 by omega] at o1
    have HX := Lib.hid hX
    clear hX h1
    gi_wp2
    refine ⟨(KeepsOthers.setCell _ _ _).from _, ⟨(Below.refl w1.heap.size W).setCell (p := ⟨w1.heap.size, 0, none⟩) (Nat.le_refl _) _, Below.heap_setCell _ _ _ _ (by simp)⟩, ⟨?_, by rw [World.frozen?_setCell]; exact hf⟩, hB.setCell (p := ⟨w1.heap.size, 0, none⟩) (Nat.le_refl _) _⟩
    have e : dval b16 (pre ++ [x]) = X := by rw [dval_snoc, HX.out, Nat.mul_comm]; rfl
    rw [e]
    exact World.cell?_setCell_same' _ _ _ (by rw [hc]; rfl)
  case done =>
    rintro D ys W hD rfl ⟨⟨hc, _⟩, hB⟩ hK
    rw [dval_all] at hc
    obtain ⟨p0, p1⟩ := (hp1.below hB hp1.lt).cells
    obtain ⟨V, hV⟩ : ∃ V, V = vs b16 f n := ⟨_, rfl⟩
    rw [← hV] at hc
    have hVl : V < 18446744073709551616 := by
      rw [hV]
      exact Nat.lt_of_lt_of_le HV.out (Nat.pow_le_pow_right (n := 65536) (by decide) h4)
    have HX := Lib.hid hV
    clear hV
    have hbW := hbl1.trans (hB.mono hbl1.size)
    have hDw : w.heap.size ≤ D := by have := hbl1.size; simp at hD; omega
    cases s
    · by_cases hb : V < 9223372036854775808
      · have t1 : decide ((9223372036854775808 : Int) ≤ (V : Int)) = false := decide_eq_false (by omega)
        have hR : IntR (toI false (vs b16 f n)) (V : Int) 0 := by
          rw [← HX.out]
          exact .inl ⟨by unfold fits toI; simp; omega, rfl, rfl⟩
        go_wp2_with fail
        refine ⟨by simp, .inl ⟨_, _, rfl, run_takeDeferred hK, ?_⟩⟩
        exact ⟨_, results_tmp2 rfl _ _ _, _, _, rfl, hR, hbW.trans (belowK_b (w := w) (Nat.le_refl _) W D _ _ hDw hK rfl rfl)⟩
      · have t1 : (9223372036854775808 : Int) ≤ (V : Int) := by omega
        have hR : IntR (toI false (vs b16 f n)) 0 3 := by
          rw [← HX.out]
          exact .inr ⟨by unfold fits toI; simp; omega, rfl, rfl⟩
        go_wp2_with fail
        refine ⟨by simp, .inl ⟨_, _, rfl, run_takeDeferred hK, ?_⟩⟩
        exact ⟨_, results_tmp2 rfl _ _ _, _, _, rfl, hR, hbW.trans (belowK_b (w := w) (Nat.le_refl _) W D _ _ hDw hK rfl rfl)⟩
    · by_cases hb : V ≤ 9223372036854775808
      · have t1 : decide ((9223372036854775808 : Int) < (V : Int)) = false := decide_eq_false (by omega)
        have hR : IntR (toI true (vs b16 f n)) (-(V : Int)) 0 := by
          rw [← HX.out]
          exact .inl ⟨by unfold fits toI; simp; omega, rfl, rfl⟩
        have hw : IntKind.i64.wrap (IntKind.u64.wrap (-(V : Int))) = -(V : Int) := by rw [IntKind.wrap_u64, IntKind.wrap_i64]; omega
        go_wp2_with fail
        refine ⟨by simp, .inl ⟨_, _, rfl, run_takeDeferred hK, ?_⟩⟩
        exact ⟨_, results_tmp2 rfl _ _ _, _, _, rfl, hR, hbW.trans (belowK_b (w := w) (Nat.le_refl _) W D _ _ hDw hK rfl rfl)⟩
      · have t1 : (9223372036854775808 : Int) < (V : Int) := by omega
        have hR : IntR (toI true (vs b16 f n)) 0 3 := by
          rw [← HX.out]
          exact .inr ⟨by unfold fits toI; simp; omega, rfl, rfl⟩
        go_wp2_with fail
        refine ⟨by simp, .inl ⟨_, _, rfl, run_takeDeferred hK, ?_⟩⟩
        exact ⟨_, results_tmp2 rfl _ _ _, _, _, rfl, hR, hbW.trans (belowK_b (w := w) (Nat.le_refl _) W D _ _ hDw hK rfl rfl)⟩
  case stop =>
    rintro D c pre W _ _ h _
    exact h.elim
end Go.Proofs.YtifikcemcflgjaaGreat
