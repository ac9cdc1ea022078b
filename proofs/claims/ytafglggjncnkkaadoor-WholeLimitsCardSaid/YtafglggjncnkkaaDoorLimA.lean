/-
  Several texts in one: Blocks that are made ahead of the calls that give their values; the boxes of numbers. whole.Valid at any length; whole.Int at what is no number and at numbers of more than four limbs. The range-function whole.downwards at limbs, and the walk of whole.Int, which ranges over it. The walk of the law's large; whole.Int at numbers; the greatest numbers of a length. The walks of the reference's Trim and Less. The walk of the reference's Plus. The walk of the reference's Minus. The walk of the reference's Times. The walks of the reference's Valid, fits and Neg. The walk of the reference's Product. The walk of the reference's Sum. The walk of the reference's Sub. The walks of the reference's Add and Mul.
-/
import Derived.Test.YtafglggjncnkkaaDoorV
import Derived.Deep.RegionHeld3
import Derived.Deep.CutRange
import Derived.TacticsInMore
import Derived.RangeFuncNested
import Derived.RangeFuncBound
import Derived.RangeFuncCalls
import Derived.RangeFuncLeaves
import Derived.RangeFuncBox
import Derived.Shelf.Abstract
import Derived.Shelf.RegionOpen
import Derived.OwnWalkIn
import Derived.LoopNIn
import Derived.LoopIn
import Derived.Test.YtafglggjncnkkaaDoorDown
import Derived.Test.YtafglggjncnkkaaDoorUnpack
import Derived.Test.YtafglggjncnkkaaDoorCompare
import Derived.Test.YtafglggjncnkkaaDoorRef
import Derived.Test.YtafglggjncnkkaaDoorTimes
namespace Go.Proofs.YtafglggjncnkkaaDoor
open Go.RowKit

theorem same_r {a b : Int} {r : Bool} {s t : Bool} {A B : Option Addr} {n m c d : Nat} {w : World} (ha : WV w a s A n) (hb : WV w b t B m) (la : n ≤ 1024) (lb : m ≤ 1024) (h : decide (a = b) = r) :
    Calls Tryd.prog 37 #[.agg #[.bool s, .slice A n c], .agg #[.bool t, .slice B m d]] w fun e w' => e = .returned (.bool r) ∧ Below w.heap.size w w' := by
  subst h
  exact same_v ha hb (by omega) (by omega)
/-- A new variable that is given a number. -/
theorem Env.var {w W : World} {P : World → Prop} {z : Int} {s : Bool} {A : Option Addr} {n : Nat} (h : Env w P W) (hv : WV W z s A n) (c : Nat) :
    Env w (fun V => P V ∧ Bx W.heap.size z s A n c V) (((W.alloc (.cells #[.bool false, .slice none 0 0] 24)).setCell ⟨W.heap.size, 0, none⟩ (.bool s)).setCell ⟨W.heap.size, 1, none⟩ (.slice A n c)) := by
  obtain ⟨hW, hb⟩ := store_whole (WholeAt.new W false (.slice none 0 0)) ((Below.refl _ W).alloc (Nat.le_refl _) _) (Nat.le_refl _) s (.slice A n c)
  exact (h.step hb).and (Bx.stable _ _ _ _ _ _) ⟨hW, hv.below hb⟩
theorem WV.abs {w : World} {z : Int} {s : Bool} {A : Option Addr} {n : Nat} (h : WV w z s A n) : WV w ((z.natAbs : Nat) : Int) false A n :=
  ⟨(decide_eq_false (by omega)).symm, h.2.1, h.2.2⟩
theorem Env.tri {g : Nat} {a b c : Int} {s1 s2 s3 : Bool} {A1 A2 A3 : Option Addr} {n1 n2 n3 c1 c2 c3 : Nat} {w W : World} {P : World → Prop} (h : Env w P W) (ht : Tri g a b c s1 s2 s3 A1 A2 A3 n1 n2 n3 c1 c2 c3 W) : W.cell? ⟨g, 0, none⟩ = some (.bool s1) ∧ W.cell? ⟨g, 1, none⟩ = some (.slice A1 n1 c1) ∧ W.cell? ⟨g + 1, 0, none⟩ = some (.bool s2) ∧ W.cell? ⟨g + 1, 1, none⟩ = some (.slice A2 n2 c2) ∧
    W.cell? ⟨g + 1 + 1, 0, none⟩ = some (.bool s3) ∧ W.cell? ⟨g + 1 + 1, 1, none⟩ = some (.slice A3 n3 c3) ∧ Env w P W :=
  ⟨ht.1.1.cells.1, ht.1.1.cells.2, ht.2.1.1.cells.1, ht.2.1.1.cells.2, ht.2.2.1.cells.1, ht.2.2.1.cells.2, h⟩
/-- A variable made ahead of the calls that give its value. -/
structure New (W0 W : World) (G : Nat) : Prop where
  box : WholeAt W G false (.slice none 0 0)
  bel : Below G W0 W
  eq : W0.heap.size = G
theorem New.start (W : World) : New W (W.alloc (.cells #[.bool false, .slice none 0 0] 24)) W.heap.size := ⟨WholeAt.new W _ _, (Below.refl _ W).alloc (Nat.le_refl _) _, rfl⟩
theorem New.below {W0 W W' : World} {G : Nat} (h : New W0 W G) (hb : Below W.heap.size W W') : New W0 W' G := ⟨h.box.below hb h.box.lt, h.bel.trans (hb.mono (Nat.le_of_lt h.box.lt)), h.eq⟩
theorem New.stored {w W0 W : World} {P : World → Prop} {G : Nat} (h0 : Env w P W0) (h : New W0 W G) (s : Bool) (v : Value) : Env w P ((W.setCell ⟨G, 0, none⟩ (.bool s)).setCell ⟨G, 1, none⟩ v) :=
  h0.step (by rw [h.eq]; exact (store_whole h.box h.bel (Nat.le_refl _) s v).2)
theorem New.done {w W0 W : World} {P : World → Prop} {G B : Nat} {z : Int} {s : Bool} {A : Option Addr} {n c : Nat} (h0 : Env w P W0) (h : New W0 W G) (ho : WO B W z s A n c) (hB : G < B) :
    Env w (fun V => P V ∧ Bx G z s A n c V) ((W.setCell ⟨G, 0, none⟩ (.bool s)).setCell ⟨G, 1, none⟩ (.slice A n c)) :=
  (New.stored h0 h s _).and (Bx.stable _ _ _ _ _ _) ⟨(store_whole h.box h.bel (Nat.le_refl _) s _).1, (ho.store hB s _).v⟩
theorem Env.fresh {w W : World} {P : World → Prop} {z : Int} {s : Bool} {A : Option Addr} {n : Nat} (h : Env w P W) (hv : WV W z s A n) (c : Nat) :
    Env w (fun V => P V ∧ Bx W.heap.size z s A n c V) (W.alloc (.cells #[.bool s, .slice A n c] 24)) :=
  (h.alloc _).and (Bx.stable _ _ _ _ _ _) (Bx.new hv)
theorem belAlloc (W : World) (o : Obj) : Below W.heap.size W (W.alloc o) := (Below.refl _ W).alloc (Nat.le_refl _) o
theorem newStart {w W : World} {P : World → Prop} (_ : Env w P W) : New W (W.alloc (.cells #[.bool false, .slice none 0 0] 24)) W.heap.size := New.start W
theorem cel {g : Nat} {a b c : Int} {s1 s2 s3 : Bool} {A1 A2 A3 : Option Addr} {n1 n2 n3 c1 c2 c3 : Nat} {w W : World} {P : World → Prop} (_ : Env w P W) (ht : Tri g a b c s1 s2 s3 A1 A2 A3 n1 n2 n3 c1 c2 c3 W) : W.cell? ⟨g, 0, none⟩ = some (.bool s1) ∧ W.cell? ⟨g, 1, none⟩ = some (.slice A1 n1 c1) ∧ W.cell? ⟨g + 1, 0, none⟩ = some (.bool s2) ∧ W.cell? ⟨g + 1, 1, none⟩ = some (.slice A2 n2 c2) ∧
    W.cell? ⟨g + 1 + 1, 0, none⟩ = some (.bool s3) ∧ W.cell? ⟨g + 1 + 1, 1, none⟩ = some (.slice A3 n3 c3) :=
  ⟨ht.1.1.cells.1, ht.1.1.cells.2, ht.2.1.1.cells.1, ht.2.1.1.cells.2, ht.2.2.1.cells.1, ht.2.2.1.cells.2⟩
end Go.Proofs.YtafglggjncnkkaaDoor
namespace Go.Proofs.YtafglggjncnkkaaDoor
open Go.RowKit
attribute [local go_sem] Oper.semAt_some

set_option maxRecDepth 100000 in
theorem valid_all (s : Bool) (A : Option Addr) (n c : Nat) (f : Nat → Nat) (w : World) (h : Rd w.heap.size .u16 w A n f) (hf : ∀ i, i < n → f i < 65536) :
    Calls Tryd.prog 15 #[.agg #[.bool s, .slice A n c]] w fun e w' => e = .returned (.bool (okW s n f)) ∧ Below w.heap.size w w' := by
  go_enter Tryd.func15, Tryd.ntmps15
  by_cases h0 : n = 0
  · subst h0
    go_wp2_with fail
    go_ret
    exact ⟨by simp [okW], (Below.refl _ _).alloc (Nat.le_refl _) _⟩
  · obtain ⟨b, o, rfl, hb, hc⟩ := h (by omega)
    have c1 := hc (n - 1) (by omega)
    have f1 := hf (n - 1) (by omega)
    have hi1 : 0 ≤ (n : Int) - 1 := by omega
    have hi2 : (n : Int) - 1 < (n : Int) := by omega
    have hi3 : ((n : Int) - 1).toNat = n - 1 := by omega
    have t0 : ((n : Int) == 0) = false := by simp; omega
    have ho : okW s n f = (decide (n ≤ 1024) && (f (n - 1) != 0)) := by unfold okW; rw [if_neg h0]
    have HO := Lib.hid ho
    clear hc hf ho
    by_cases h1 : n ≤ 1024
    · have t1 : (n : Int) ≤ 1024 := by omega
      go_wp2_with fail
      go_ret
      refine ⟨?_, (Below.refl _ _).alloc (Nat.le_refl _) _⟩
      rw [HO.out]
      show Ending.returned (.bool (((f (n - 1) : Nat) : Int) != 0)) = _
      have e : (((f (n - 1) : Nat) : Int) != 0) = (f (n - 1) != 0) := by
        by_cases e : f (n - 1) = 0
        · rw [e]; rfl
        · rw [bne_iff_ne.2 e, bne_iff_ne.2 (by omega)]
      rw [e, decide_eq_true h1, Bool.true_and]
    · have t1 : decide ((n : Int) ≤ 1024) = false := decide_eq_false (by omega)
      go_wp2_with fail
      go_ret
      refine ⟨?_, (Below.refl _ _).alloc (Nat.le_refl _) _⟩
      rw [HO.out]
      simp [h1]

set_option maxRecDepth 100000 in
set_option maxHeartbeats 2000000 in
theorem int_bad (s : Bool) (A : Option Addr) (n c : Nat) (f : Nat → Nat) (w : World) (h : Rd w.heap.size .u16 w A n f) (hf : ∀ i, i < n → f i < 65536) (hn : n ≤ 1000000) (hok : okW s n f = false) :
    Calls Tryd.prog 35 #[.agg #[.bool s, .slice A n c]] w fun e w' => e = .returned (.tuple #[.int .i64 0, .int .i64 2]) ∧ Below w.heap.size w w' := by
  have hb0 : Below w.heap.size w (w.alloc (.cells #[.bool s, .slice A n c] 24)) := (Below.refl _ w).alloc (Nat.le_refl _) _
  have hv := valid_any s A n c f _ ((h.below hb0).more hb0.size) hf hn
  rw [hok] at hv
  refine (callsIn_wide (n := 5)).1 ?_
  have hro : Fence.wide.round = none := rfl
  refine callsIn_of_wp_marks Tryd.func35 rfl trivial ?_ hro
  refine wpIn_wide.2 ?_
  simp only [Tryd.ntmps35, List.size_toArray, List.length_cons, List.length_nil, Nat.reduceAdd, Nat.reduceSub, Array.replicate_succ, Array.replicate_zero, List.push_toArray, List.append_toArray, List.nil_append, List.cons_append]
  go_wp2_with fail
  refine hv.mono ?_
  rintro e w1 ⟨rfl, hb1⟩
  go_wp2_with fail
  exact ⟨_, results_tmp2 rfl _ _ _, rfl, hb0.trans (hb1.mono hb0.size)⟩
set_option maxRecDepth 100000 in
set_option maxHeartbeats 2000000 in
theorem int_long (s : Bool) (A : Option Addr) (n c : Nat) (f : Nat → Nat) (w : World) (h : Rd w.heap.size .u16 w A n f) (hf : ∀ i, i < n → f i < 65536) (hn : n ≤ 1000000) (hok : okW s n f = true) (h4 : 4 < n) :
    Calls Tryd.prog 35 #[.agg #[.bool s, .slice A n c]] w fun e w' => e = .returned (.tuple #[.int .i64 0, .int .i64 3]) ∧ Below w.heap.size w w' := by
  have hb0 : Below w.heap.size w (w.alloc (.cells #[.bool s, .slice A n c] 24)) := (Below.refl _ w).alloc (Nat.le_refl _) _
  have hp0 := WholeAt.new w s (.slice A n c)
  have hv := valid_any s A n c f _ ((h.below hb0).more hb0.size) hf hn
  rw [hok] at hv
  have t4 : (4 : Int) < (n : Int) := by omega
  refine (callsIn_wide (n := 5)).1 ?_
  have hro : Fence.wide.round = none := rfl
  refine callsIn_of_wp_marks Tryd.func35 rfl trivial ?_ hro
  refine wpIn_wide.2 ?_
  simp only [Tryd.ntmps35, List.size_toArray, List.length_cons, List.length_nil, Nat.reduceAdd, Nat.reduceSub, Array.replicate_succ, Array.replicate_zero, List.push_toArray, List.append_toArray, List.nil_append, List.cons_append]
  go_wp2_with fail
  refine hv.mono ?_
  rintro e w1 ⟨rfl, hb1⟩
  obtain ⟨p0, p1⟩ := (hp0.below hb1 hp0.lt).cells
  go_wp2_with fail
  exact ⟨_, results_tmp2 rfl _ _ _, rfl, hb0.trans (hb1.mono hb0.size)⟩
end Go.Proofs.YtafglggjncnkkaaDoor
namespace Go.Proofs.YtafglggjncnkkaaDoor
open Go.RowKit Go.Shelf
attribute [local go_sem] Oper.semAt_some

theorem u64_or_add16 {a b : Nat} (ha : a < 281474976710656) (hb : b < 65536) : bits .or .u64 ((65536 * a : Nat) : Int) (b : Int) = ((65536 * a + b : Nat) : Int) := by
  rw [u64_or_nat _ _ (by omega) (by omega), show 65536 * a = 2 ^ 16 * a by rfl, nat_or_add (by omega)]
/-- Does a number fit into an int? -/
def fits (z : Int) : Bool := decide (-9223372036854775808 ≤ z) && decide (z ≤ 9223372036854775807)
/-- What whole.Int returns. -/
def IntR (z r k : Int) : Prop := (fits z = true ∧ r = z ∧ k = 0) ∨ (fits z = false ∧ r = 0 ∧ k = 3)
set_option maxRecDepth 100000 in
set_option maxHeartbeats 2000000 in
theorem down1_in16 (F : Fence) (m : Nat) (hg : F.fn 83) (hro : F.round = none) (hm : 1 ≤ m) (l Bs n₀ n c : Nat) (A : Option Addr) (f : Nat → Nat) (hf : ∀ i, f i < 65536) (hn : n ≤ 1000000) (J Jx : List (Bd 65536) → World → Prop)
    (hY : ∀ pre x W, J pre W → pre.length < n → YieldAt F (m - 1) Tryd.prog l #[.int .u16 ((x : Bd 65536).1 : Int)] W fun e W' =>
      (e = .returned (.bool true) ∧ J (pre ++ [x]) W' ∧ KpB n₀ Bs W W') ∨ (e = .returned (.bool false) ∧ Jx (pre ++ [x]) W'))
    (W : World) (hBs : W.cell? ⟨Bs, 0, none⟩ = some (.slice A n c)) (hc : Rd n₀ .u16 W A n f) (h0 : J [] W) :
    CallsIn F m Tryd.prog 83 #[.func (.yield l) #[] #[], .pointer (some ⟨Bs, 0, none⟩)] W fun e W' => (∃ v, e = .returned v) ∧
      ((∃ ys, ys = dn 65536 f hf n n ∧ J ys W') ∨ (∃ pre, (∃ k, k ≤ n ∧ pre = dn 65536 f hf n k) ∧ Jx pre W')) := by
  refine callsIn_of_wp Tryd.func83 rfl hg ?_ hro
  simp only [Tryd.ntmps83, List.size_toArray, List.length_cons, List.length_nil, Nat.reduceAdd, Nat.reduceSub, Array.replicate_succ, Array.replicate_zero, List.push_toArray, List.append_toArray, List.nil_append, List.cons_append]
  gi_wp2
  gi_loopw [3] (fun i wr => ∃ k : Nat, k ≤ n ∧ i = .int .i64 ((n : Int) - k - 1) ∧ J (dn 65536 f hf n k) wr ∧ KpB n₀ Bs W wr)
    (fun i _ => (intOf i + 1).toNat)
  case atStart => exact ⟨0, Nat.zero_le _, by simp, h0, Below.refl _ _, rfl⟩
  case round =>
    obtain ⟨k, hk, rfl, hJs, hnx⟩ := hrel
    have hbs := hnx.cell.trans hBs
    by_cases hlt : k < n
    · obtain ⟨b, o, rfl, hb, hcc⟩ := hc (by omega)
      obtain ⟨fn, tmps, assign, body, hy, hR⟩ := hY _ (⟨f (n - 1 - k), hf _⟩) wr hJs (by rw [dn_length]; exact hlt)
      dsimp only at hy
      have hcx := (hnx.1.cell (p := ⟨b, o + (n - 1 - k), none⟩) hb).trans (hcc (n - 1 - k) (by omega))
      have ek : ((n : Int) - k - 1) = ((n - 1 - k : Nat) : Int) := by omega
      rw [ek]
      clear ek
      gi_wp2
      refine hR.mono ?_
      rintro e W3 (⟨rfl, hJ3, hk3⟩ | ⟨rfl, hJx3⟩)
      · have hbs3 := hk3.cell.trans hbs
        gi_wp2
        go_roundw
        case rel => exact ⟨k + 1, by omega, by congr 1; omega, by rw [dn_succ]; exact hJ3, hnx.t hk3⟩
        case measure => simp [intOf] <;> omega
      · gi_wp2
        refine bodyPost_ret (results_none rfl _ _ _) rfl ?_
        exact ⟨⟨_, rfl⟩, .inr ⟨_, ⟨k + 1, by omega, (dn_succ ..).symm⟩, hJx3⟩⟩
    · obtain rfl : k = n := by omega
      rw [show (k : Int) - k - 1 = -1 by omega]
      gi_wp2
      go_end0
      exact ⟨⟨_, rfl⟩, .inl ⟨_, rfl, hJs⟩⟩

set_option maxHeartbeats 1000000 in
theorem down_in16 (F : Fence) (m : Nat) (hg : F.fn 60) (hro : F.round = none) (a : Option Addr) (len cap : Nat) (w : World) :
    CallsIn F m Tryd.prog 60 #[.slice a len cap] w fun e w' => e = .returned (.func (.func 83) #[] #[.pointer (some ⟨w.heap.size, 0, none⟩)]) ∧ w' = w.alloc (.cells #[.slice a len cap] 22) := by
  refine callsIn_of_wp Tryd.func60 rfl hg ?_ hro
  simp only [Tryd.ntmps60, List.size_toArray, List.length_cons, List.length_nil, Nat.reduceAdd, Nat.reduceSub, Array.replicate_succ, Array.replicate_zero, List.push_toArray, List.append_toArray, List.nil_append, List.cons_append]
  gi_wp2
  go_ret
  exact ⟨rfl, rfl⟩

theorem down_stops16 (F : Fence) (m : Nat) (hg : F.fn 83) (hro : F.round = none) (hm : 1 ≤ m) (Bs n₀ n c : Nat) (A : Option Addr) (f : Nat → Nat) (hf : ∀ i, f i < 65536) (hn : n ≤ 1000000) (w : World) (hBs : Bs < w.heap.size) (hn₀ : n₀ ≤ w.heap.size)
    (hc : w.cell? ⟨Bs, 0, none⟩ = some (.slice A n c)) (hI : Rd n₀ .u16 w A n f) :
    SeqStopsK F m Tryd.prog 83 #[.pointer (some ⟨Bs, 0, none⟩)] (fun x : Bd 65536 => #[Value.int .u16 (x.1 : Int)]) (KpB n₀ Bs) (fun ys => ys = dn 65536 f hf n n) (fun pre => ∃ k, k ≤ n ∧ pre = dn 65536 f hf n k) n w := fun l J Jx W hW _ _ hY h0 => by
  have hc' := (hW.cell (p := ⟨Bs, 0, none⟩) hBs).trans hc
  exact down1_in16 F m hg hro hm l Bs n₀ n c A f hf hn J Jx hY W hc' (hI.below (hW.mono hn₀)) h0

set_option maxRecDepth 100000 in
set_option maxHeartbeats 2000000 in
theorem int_walk (s : Bool) (A : Option Addr) (n c : Nat) (f : Nat → Nat) (w : World) (h : Rd w.heap.size .u16 w A n f) (hf : ∀ i, f i < 65536) (hok : okW s n f = true) (h4 : n ≤ 4) :
    Calls Tryd.prog 35 #[.agg #[.bool s, .slice A n c]] w fun e w' => ∃ r k, e = .returned (.tuple #[.int .i64 r, .int .i64 k]) ∧ IntR (toI s (vs b16 f n)) r k ∧ Below w.heap.size w w' := by
  have hb0 : Below w.heap.size w (w.alloc (.cells #[.bool s, .slice A n c] 24)) := (Below.refl _ w).alloc (Nat.le_refl _) _
  have hp0 := WholeAt.new w s (.slice A n c)
  have hv := valid_any s A n c f _ ((h.below hb0).more hb0.size) (fun i _ => hf i) (by omega)
  rw [hok] at hv
  have t4 : (n : Int) ≤ 4 := by omega
  have hro : Fence.wide.round = none := rfl
  refine (callsIn_wide (n := 5)).1 ?_
  refine callsIn_of_wp_marks Tryd.func35 rfl trivial ?_ hro
  refine wpIn_wide.2 ?_
  simp only [Tryd.ntmps35, List.size_toArray, List.length_cons, List.length_nil, Nat.reduceAdd, Nat.reduceSub, Array.replicate_succ, Array.replicate_zero, List.push_toArray, List.append_toArray, List.nil_append, List.cons_append]
  go_wp2_with fail
  refine hv.mono ?_
  rintro e w1 ⟨rfl, hb1⟩
  have hp1 := hp0.below hb1 hp0.lt
  have hbl1 := hb0.trans (hb1.mono hb0.size)
  obtain ⟨p0, p1⟩ := hp1.cells
  have hlt := hp1.lt
  go_wp2_with fail
  refine (callsIn_wide.1 (down_in16 Fence.wide 4 trivial hro _ _ _ _)).mono ?_
  rintro e w' ⟨rfl, rfl⟩
  go_wp2_with fail
  have bS := Boxed.new w1 64 (.int .u64 0)
  have bN := Boxed.new (w1.alloc (.cells #[.int .u64 0] 64)) 22 (.slice A n c)
  rw [World.size_alloc] at bN
  have hB0 : Below w1.heap.size w1 ((w1.alloc (.cells #[.int .u64 0] 64)).alloc (.cells #[.slice A n c] 22)) := ((Below.refl _ w1).alloc (Nat.le_refl _) _).alloc (by simp) _
  have hrd : Rd w1.heap.size .u16 w1 A n f := (h.below hbl1).more hbl1.size
  have HV := Lib.hid (vs_lt (B := b16) (f := f) (m := n) fun j _ => hf j)
  clear hv p0 p1 h
  refine (wpIn_wide (n := 5)).1 ?_
  refine wpIn_rangeFunc_ownG hro (by decide) (gf := 83) (lb := #[.pointer (some ⟨w1.heap.size + 1, 0, none⟩)]) rfl trivial (enters_of Tryd.func83 (by kernel_rfl) rfl)
    (down_stops16 Fence.wide (5 - 1) trivial hro (by decide) (w1.heap.size + 1) w1.heap.size n c A f hf (by omega) _ (by simp) (by simp; omega) bN.cell (hrd.below hB0)) KpB.t (KpB.b (by simp; omega) (by simp)) (Below.refl _ _) (fun _ => rfl)
    (fun pre W => (W.cell? ⟨w1.heap.size, 0, none⟩ = some (.int .u64 ((dval b16 pre : Nat) : Int)) ∧ W.frozen? ⟨w1.heap.size, 0, none⟩ = false) ∧ Below w1.heap.size w1 W)
    (fun _ _ _ => False)
    (OwnFrom.and (Own.from (fun s A B row hs hg hr => ⟨cell_kept hs.1 hg hr, (frozen_kept hs.1 hg hr).trans hs.2⟩) _) (ownFrom_below (Nat.le_refl _) (by simp; omega)))
    (fun _ _ _ _ _ hs _ _ => hs)
    ⟨⟨(bS.alloc _).cell, (bS.alloc _).frozen⟩, hB0⟩
    (fun x => { tmps := #[.agg #[.bool s, .slice A n c], .pointer (some ⟨w.heap.size, 0, none⟩), .int .i64 0, .int .i64 0, .pointer (some ⟨w1.heap.size, 0, none⟩), .int .u16 (x.1 : Int), .agg #[.bool s, .slice A n c], .bool true, .bool false, .pointer (some ⟨w.heap.size, 1, none⟩), .slice A n c, .int .i64 (n : Int), .bool (decide ((4 : Int) < (n : Int))), .pointer (some ⟨w.heap.size, 1, none⟩), .slice A n c, .func (.func 83) #[] #[.pointer (some ⟨w1.heap.size + 1, 0, none⟩)], .int .u16 (x.1 : Int), undef, undef, undef, undef, undef, undef, undef, undef, undef, undef, undef, undef, undef, undef, undef, undef], defers := [] }) ?assign ?body ?done ?stop
  case assign =>
    intro l x W K hK
    gi_wp2
    exact hK
  case body =>
    rintro l pre x W ⟨⟨hc, hf⟩, hB⟩ hl
    have h1 := dval_lt (B := b16) (b := 65536) (Nat.le_refl _) pre
    have hv : dval b16 pre < 281474976710656 := Nat.lt_of_lt_of_le h1 (Nat.pow_le_pow_right (n := 65536) (by decide) (show pre.length ≤ 3 by omega))
    have h2 := x.2
    have o1 := u64_or_add16 hv h2
    obtain ⟨X, hX⟩ : ∃ X, X = 65536 * dval b16 pre + x.1 := ⟨_, rfl⟩
    rw [← hX, show ((65536 * dval b16 pre : Nat) : Int) = (dval b16 pre : Int) * 65536 by omega] at o1
    have HX := Lib.hid hX
    clear hX h1
    gi_wp2
    refine ⟨(KeepsOthers.setCell _ _ _).from _, ⟨(Below.refl w1.heap.size W).setCell (p := ⟨w1.heap.size, 0, none⟩) (Nat.le_refl _) _, Below.heap_setCell _ _ _ _ (by simp)⟩, ⟨?_, by rw [World.frozen?_setCell]; exact hf⟩, hB.setCell (p := ⟨w1.heap.size, 0, none⟩) (Nat.le_refl _) _⟩
    have e : dval b16 (pre ++ [x]) = X := by rw [dval_snoc, HX.out, Nat.mul_comm]; rfl
    rw [e]
    exact World.cell?_setCell_same' _ _ _ (by rw [hc]; rfl)
  case done =>
    rintro D ys W hD rfl ⟨⟨hc, _⟩, hB⟩ hK
    rw [dval_all] at hc
    obtain ⟨p0, p1⟩ := (hp1.below hB hp1.lt).cells
    obtain ⟨V, hV⟩ : ∃ V, V = vs b16 f n := ⟨_, rfl⟩
    rw [← hV] at hc
    have hVl : V < 18446744073709551616 := by
      rw [hV]
      exact Nat.lt_of_lt_of_le HV.out (Nat.pow_le_pow_right (n := 65536) (by decide) h4)
    have HX := Lib.hid hV
    clear hV
    have hbW := hbl1.trans (hB.mono hbl1.size)
    have hDw : w.heap.size ≤ D := by have := hbl1.size; simp at hD; omega
    cases s
    · by_cases hb : V < 9223372036854775808
      · have t1 : decide ((9223372036854775808 : Int) ≤ (V : Int)) = false := decide_eq_false (by omega)
        have hR : IntR (toI false (vs b16 f n)) (V : Int) 0 := by
          rw [← HX.out]
          exact .inl ⟨by unfold fits toI; simp; omega, rfl, rfl⟩
        go_wp2_with fail
        refine ⟨by simp, .inl ⟨_, _, rfl, run_takeDeferred hK, ?_⟩⟩
        exact ⟨_, results_tmp2 rfl _ _ _, _, _, rfl, hR, hbW.trans (belowK_b (w := w) (Nat.le_refl _) W D _ _ hDw hK rfl rfl)⟩
      · have t1 : (9223372036854775808 : Int) ≤ (V : Int) := by omega
        have hR : IntR (toI false (vs b16 f n)) 0 3 := by
          rw [← HX.out]
          exact .inr ⟨by unfold fits toI; simp; omega, rfl, rfl⟩
        go_wp2_with fail
        refine ⟨by simp, .inl ⟨_, _, rfl, run_takeDeferred hK, ?_⟩⟩
        exact ⟨_, results_tmp2 rfl _ _ _, _, _, rfl, hR, hbW.trans (belowK_b (w := w) (Nat.le_refl _) W D _ _ hDw hK rfl rfl)⟩
    · by_cases hb : V ≤ 9223372036854775808
      · have t1 : decide ((9223372036854775808 : Int) < (V : Int)) = false := decide_eq_false (by omega)
        have hR : IntR (toI true (vs b16 f n)) (-(V : Int)) 0 := by
          rw [← HX.out]
          exact .inl ⟨by unfold fits toI; simp; omega, rfl, rfl⟩
        have hw : IntKind.i64.wrap (IntKind.u64.wrap (-(V : Int))) = -(V : Int) := by rw [IntKind.wrap_u64, IntKind.wrap_i64]; omega
        go_wp2_with fail
        refine ⟨by simp, .inl ⟨_, _, rfl, run_takeDeferred hK, ?_⟩⟩
        exact ⟨_, results_tmp2 rfl _ _ _, _, _, rfl, hR, hbW.trans (belowK_b (w := w) (Nat.le_refl _) W D _ _ hDw hK rfl rfl)⟩
      · have t1 : (9223372036854775808 : Int) < (V : Int) := by omega
        have hR : IntR (toI true (vs b16 f n)) 0 3 := by
          rw [← HX.out]
          exact .inr ⟨by unfold fits toI; simp; omega, rfl, rfl⟩
        go_wp2_with fail
        refine ⟨by simp, .inl ⟨_, _, rfl, run_takeDeferred hK, ?_⟩⟩
        exact ⟨_, results_tmp2 rfl _ _ _, _, _, rfl, hR, hbW.trans (belowK_b (w := w) (Nat.le_refl _) W D _ _ hDw hK rfl rfl)⟩
  case stop =>
    rintro D c pre W _ _ h _
    exact h.elim
end Go.Proofs.YtafglggjncnkkaaDoor
namespace Go.Proofs.YtafglggjncnkkaaDoor
open Go.RowKit

/-- The greatest number of n limbs. -/
def bigN (n : Nat) : Nat := vs b16 (fun _ => 65535) n
theorem bigN_eq (n : Nat) : bigN n + 1 = b16 ^ n := by
  unfold bigN
  induction n with
  | zero => rfl
  | succ n ih =>
    rw [vs_succ, Nat.pow_succ, ← ih, show b16 = 65535 + 1 from rfl, Nat.mul_add, Nat.mul_one]
    omega
theorem bigN_dgt {n j : Nat} (h : j < n) : dgt b16 (bigN n) j = 65535 := dgt_vs (fun _ _ => by decide) h
theorem bigN_ln (n : Nat) : ln b16 (bigN n) = n := ln_vs b16_two (fun _ _ => by decide) (.inr (by decide))

set_option maxRecDepth 100000 in
set_option maxHeartbeats 1000000 in
theorem large_any (n : Nat) (hn : n ≤ 2000) (w : World) : Calls Tryd.prog 34 #[.int .i64 (n : Int)] w (VI ((bigN n : Nat) : Int) w) := by
  have hmk := mk16 n n (Nat.le_refl _) (by omega)
  go_enter Tryd.func34, Tryd.ntmps34
  go_wp2_with fail
  clear hmk
  go_loopw [4] (fun i wr => ∃ k : Nat, k ≤ n ∧ i = .int .i64 k ∧ Row wr (w.heap.size + 1) 40 .u16 n n (fun j => if j < k then 65535 else 0) ∧ WholeAt wr w.heap.size false (.slice none 0 0) ∧ Below w.heap.size w wr) (fun i _ => n - (intOf i).toNat)
  case atStart =>
    refine ⟨0, Nat.zero_le _, rfl, ?_, ?_, ((Below.refl _ _).alloc (Nat.le_refl _) _).alloc (by simp) _⟩
    · have hr := Row.made (w := w.alloc (.cells #[.bool false, .slice none 0 0] 24)) (t := 40) (m := n) (k := .u16)
      rw [World.size_alloc] at hr
      exact hr.congr fun j _ => by simp
    · exact (Below.heap_alloc _ _ _ (by simp)).trans (heap_alloc_new _ _)
  case round =>
    obtain ⟨k, hk, rfl, hrow, hres, hbel⟩ := hrel
    by_cases hlt : k < n
    · have c1 := hrow.cell (i := k) hlt
      have c2 := hrow.frozen k
      go_wp2_with fail
      go_roundw
      case rel =>
        refine ⟨k + 1, by omega, by go_num, ?_, (Below.heap_setCell _ _ _ _ (by simp)).trans hres, hbel.setCell (by simp) _⟩
        exact hrow.setI (f' := fun j => if j < k + 1 then 65535 else 0) (by simp) fun j _ hj => by
          by_cases h1 : j < k
          · simp only [h1, if_true]; rw [if_pos (by omega)]
          · simp only [h1, if_false]; rw [if_neg (by omega)]
      case measure => simp [intOf]; omega
    · obtain rfl : k = n := by omega
      have hrow2 := hrow.congr (f' := dgt b16 (bigN k)) fun j hj => by simp only [if_pos hj]; exact (bigN_dgt hj).symm
      obtain ⟨r0, r1⟩ := hres.cells
      have r3 := hres.frozen 0
      have r4 := hres.frozen 1
      go_wp2_with fail
      refine bodyPost_ret (v := .agg #[.bool false, .slice (some ⟨w.heap.size + 1, 0, none⟩) k k]) (by simp [results, Tryd.results34, go_sem, r0, r1]) rfl ?_
      refine ⟨false, some ⟨w.heap.size + 1, 0, none⟩, k, k, rfl, ⟨(decide_eq_false (by omega)).symm, by rw [Int.natAbs_natCast, bigN_ln], ?_⟩, (hbel.setCell (Nat.le_refl _) _).setCell (Nat.le_refl _) _⟩
      rw [Int.natAbs_natCast, bigN_ln]
      exact Own16.of_row ((hrow2.far (p := ⟨w.heap.size, 0, none⟩) (by simp) _).far (p := ⟨w.heap.size, 1, none⟩) (by simp) _) (by omega) (Nat.le_refl _) (Nat.le_refl _) (by omega)

section
variable {a b : Int} {s t : Bool} {A B : Option Addr} {n m c d : Nat} {w : World}
theorem int_v (ha : WV w a s A n) (la : n ≤ 1024) :
    Calls Tryd.prog 35 #[.agg #[.bool s, .slice A n c]] w fun e w' => ∃ r k, e = .returned (.tuple #[.int .i64 r, .int .i64 k]) ∧ IntR a r k ∧ Below w.heap.size w w' := by
  obtain ⟨rfl, rfl, hA⟩ := ha
  by_cases h4 : ln b16 a.natAbs ≤ 4
  · have h := int_walk (decide (a < 0)) A (ln b16 a.natAbs) c (dgt b16 a.natAbs) w hA (fun i => dgt16_lt _ i) (okW_num la) h4
    rw [vs_dgt_ln b16_two, toI_int] at h
    exact h
  · refine (int_long (decide (a < 0)) A (ln b16 a.natAbs) c (dgt b16 a.natAbs) w hA (fun i _ => dgt16_lt _ i) (by omega) (okW_num la) (by omega)).mono ?_
    rintro e w' ⟨rfl, hb⟩
    have h5 : ¬ a.natAbs < b16 ^ 4 := fun h => h4 ((ln_le b16_two).2 h)
    have h6 : b16 ^ 4 = 18446744073709551616 := rfl
    refine ⟨0, 3, rfl, .inr ⟨?_, rfl, rfl⟩, hb⟩
    unfold fits
    by_cases h7 : -9223372036854775808 ≤ a
    · rw [decide_eq_false (show ¬ a ≤ 9223372036854775807 by omega), Bool.and_false]
    · rw [decide_eq_false h7, Bool.false_and]
theorem int_fit (ha : WV w a s A n) (la : n ≤ 1024) (h1 : -9223372036854775808 ≤ a) (h2 : a ≤ 9223372036854775807) :
    Calls Tryd.prog 35 #[.agg #[.bool s, .slice A n c]] w fun e w' => e = .returned (.tuple #[.int .i64 a, .int .i64 0]) ∧ Below w.heap.size w w' := by
  refine (int_v ha la).mono ?_
  rintro e w' ⟨r, k, rfl, h | h, hb⟩
  · exact ⟨by rw [h.2.1, h.2.2], hb⟩
  · have h0 := h.1
    unfold fits at h0
    rw [decide_eq_true h1, decide_eq_true h2] at h0
    cases h0
theorem int_unfit (ha : WV w a s A n) (la : n ≤ 1024) (h : fits a = false) :
    Calls Tryd.prog 35 #[.agg #[.bool s, .slice A n c]] w fun e w' => e = .returned (.tuple #[.int .i64 0, .int .i64 3]) ∧ Below w.heap.size w w' := by
  refine (int_v ha la).mono ?_
  rintro e w' ⟨r, k, rfl, h1 | h1, hb⟩
  · rw [h] at h1; cases h1.1
  · exact ⟨by rw [h1.2.1, h1.2.2], hb⟩
/-- The call returned ErrLong. -/
def LongW (w : World) (e : Ending) (w' : World) : Prop := e = .returned (.tuple #[.agg #[.bool false, .slice none 0 0], .int .i64 3]) ∧ Below w.heap.size w w'
theorem RI.long {z : Int} {e : Ending} {w' : World} (h : RI w z e w') (hl : 1024 < ln b16 z.natAbs) : LongW w e w' := by
  rcases h with ⟨h1, _⟩ | ⟨_, he, hb⟩
  · omega
  · exact ⟨he, hb⟩
theorem add_long (ha : WV w a s A n) (hb : WV w b t B m) (la : n ≤ 1024) (lb : m ≤ 1024) (lr : 1024 < ln b16 (a + b).natAbs) :
    Calls Tryd.prog 24 #[.agg #[.bool s, .slice A n c], .agg #[.bool t, .slice B m d]] w (LongW w) := by
  obtain ⟨rfl, rfl, hA⟩ := ha
  obtain ⟨rfl, rfl, hB⟩ := hb
  exact (add_any a b A B c d w hA hB la lb).mono fun _ _ h => h.long lr
theorem sub_long (ha : WV w a s A n) (hb : WV w b t B m) (la : n ≤ 1024) (lb : m ≤ 1024) (lr : 1024 < ln b16 (a - b).natAbs) :
    Calls Tryd.prog 25 #[.agg #[.bool s, .slice A n c], .agg #[.bool t, .slice B m d]] w (LongW w) := by
  obtain ⟨rfl, rfl, hA⟩ := ha
  obtain ⟨rfl, rfl, hB⟩ := hb
  exact (sub_any a b A B c d w hA hB la lb).mono fun _ _ h => h.long lr
theorem mul_long (ha : WV w a s A n) (hb : WV w b t B m) (la : n ≤ 1024) (lb : m ≤ 1024) (lr : 1024 < ln b16 (a * b).natAbs) :
    Calls Tryd.prog 26 #[.agg #[.bool s, .slice A n c], .agg #[.bool t, .slice B m d]] w (LongW w) := by
  obtain ⟨rfl, rfl, hA⟩ := ha
  obtain ⟨rfl, rfl, hB⟩ := hb
  exact (mul_any a b A B c d w hA hB la lb).mono fun _ _ h => h.long lr
end
end Go.Proofs.YtafglggjncnkkaaDoor
namespace Go.Proofs.YtafglggjncnkkaaDoor
open Go.RowKit

theorem rtrim_round {f : Nat → Nat} {k V : Nat} (hk0 : 0 < k) (hv : vs b16 f k = V) (hx : f (k - 1) = 0) : vs b16 f (k - 1) = V := by
  have h1 := vs_succ b16 f (k - 1)
  rw [show k - 1 + 1 = k by omega, hv, hx] at h1
  omega
set_option maxHeartbeats 1000000 in
theorem rtrim_any (B : Nat) (A : Option Addr) (n c : Nat) (f : Nat → Nat) (w : World) (h : Rd B .u16 w A n f) (hf : ∀ i, i < n → f i < 65536) (hc : n ≤ c) (hn : n ≤ 100000000) :
    Calls Tryd.prog 90 #[.slice A n c] w fun e w' => e = .returned (.slice A (ln b16 (vs b16 f n)) c) ∧ w = w' := by
  have HF := Lib.hid hf
  clear hf
  go_enter Tryd.func90, Tryd.ntmps90
  go_wp2_with fail
  go_loopw [3] (fun v wr => ∃ k : Nat, k ≤ n ∧ v = .int .i64 (k : Int) ∧ Hid (vs b16 f k = vs b16 f n) ∧ wr = w) (fun v _ => (intOf v).toNat)
  case atStart => exact ⟨n, Nat.le_refl _, rfl, Lib.hid rfl, rfl⟩
  case round =>
    obtain ⟨k, hk, rfl, HV, rfl⟩ := hrel
    rcases Nat.eq_zero_or_pos k with rfl | hk0
    · go_wp2_with fail
      go_ret
      exact ⟨ret_slice (by rw [← HV.out, vs_zero, ln_zero]), rfl⟩
    · obtain ⟨b, o, rfl, hb, hcell⟩ := h (by omega)
      have hx := hcell (k - 1) (by omega)
      have t0 : (0 : Int) < (k : Int) := by omega
      have e1 : (k : Int) - 1 = ((k - 1 : Nat) : Int) := by omega
      have e2 : ((k : Int) - 1).toNat = k - 1 := by omega
      have i1 : (0 : Int) ≤ (k : Int) - 1 := by omega
      have i2 : (k : Int) - 1 < (n : Int) := by omega
      have i3 : (k : Int) ≤ (c : Int) := by omega
      clear hcell
      by_cases h0 : f (k - 1) = 0
      · have t1 : (((f (k - 1) : Nat) : Int) == 0) = true := by rw [h0]; rfl
        have HN := Lib.hid (rtrim_round hk0 HV.out h0)
        clear h0
        go_wp2_with fail
        go_roundw
        case rel => exact ⟨k - 1, by omega, rfl, HN, by first | trivial | rfl⟩
        case measure => simp [intOf]; omega
      · have t1 : (((f (k - 1) : Nat) : Int) == 0) = false := beq_eq_false_iff_ne.2 (by omega)
        have H0 := Lib.hid h0
        clear h0
        go_wp2_with fail
        go_ret
        exact ⟨ret_slice (by rw [← HV.out, ln_vs b16_two (fun j hj => HF.out j (by omega)) (.inr H0.out)]), rfl⟩
def LessPost (a b : Nat) (w : World) (e : Ending) (w' : World) : Prop := e = .returned (.bool (decide (a < b))) ∧ ∃ n, w' = w.drewN n

set_option maxHeartbeats 400000 in
theorem rless_len (A B : Option Addr) (n m c d : Nat) (w : World) (h : n ≠ m) :
    Calls Tryd.prog 75 #[.slice A n c, .slice B m d] w fun e w' => e = .returned (.bool (decide (n < m))) ∧ w = w' := by
  rcases Nat.lt_or_gt_of_ne h with h1 | h1
  · have k1 : ((n : Int) != m) = true := by simp; omega
    have k2 : decide ((n : Int) < (m : Int)) = true := decide_eq_true (by omega)
    have k3 := Lib.hid (decide_eq_true h1)
    go_enter Tryd.func75, Tryd.ntmps75
    go_wp2
    go_ret
    first | exact ⟨ret_bool k3.out.symm, rfl⟩ | exact ⟨rfl, rfl⟩
  · have k1 : ((n : Int) != m) = true := by simp; omega
    have k2 : decide ((n : Int) < (m : Int)) = false := decide_eq_false (by omega)
    have k3 := Lib.hid (decide_eq_false (show ¬ n < m by omega))
    go_enter Tryd.func75, Tryd.ntmps75
    go_wp2
    go_ret
    first | exact ⟨ret_bool k3.out.symm, rfl⟩ | exact ⟨rfl, rfl⟩

set_option maxHeartbeats 400000 in
theorem rless_same (A B : Option Addr) (n c d a b : Nat) (w : World) (ha : Rd w.heap.size .u16 w A n (dgt b16 a)) (hb : Rd w.heap.size .u16 w B n (dgt b16 b)) (hn : n ≤ 100000000) (la : a < b16 ^ n) (lb : b < b16 ^ n) :
    Calls Tryd.prog 75 #[.slice A n c, .slice B n d] w (LessPost a b w) := by
  have LA := Lib.hid la
  have LB := Lib.hid lb
  clear la lb
  have hcell : ∀ j, j < n → ∃ p q p' q', A = some ⟨p, q, none⟩ ∧ B = some ⟨p', q', none⟩ ∧ (w.cell? ⟨p, q + j, none⟩ = some (.int .u16 (dgt b16 a j : Int))) ∧ (w.cell? ⟨p', q' + j, none⟩ = some (.int .u16 (dgt b16 b j : Int))) := fun j hj => by
    obtain ⟨p, q, e, _, h1⟩ := ha (by omega)
    obtain ⟨p', q', e', _, h2⟩ := hb (by omega)
    exact ⟨p, q, p', q', e, e', h1 j hj, h2 j hj⟩
  have HC := Lib.hid hcell
  clear ha hb hcell
  go_enter Tryd.func75, Tryd.ntmps75
  go_wp2
  go_loopw [5] (fun i wr => ∃ k : Nat, k ≤ n ∧ i = .int .i64 ((k : Int) - 1) ∧ (∀ j, k ≤ j → j < n → dgt b16 a j = dgt b16 b j) ∧ ∃ m, wr = w.drewN m) (fun i _ => (intOf i + 1).toNat)
  case atStart => exact ⟨n, Nat.le_refl _, rfl, fun j h1 h2 => absurd h2 (by omega), 0, rfl⟩
  case round =>
    obtain ⟨k, hk, rfl, he, m, rfl⟩ := hrel
    have HE := Lib.hid he
    clear he
    rcases Nat.eq_zero_or_pos k with rfl | hk0
    · go_wp2
      go_ret
      exact ⟨ret_bool (decide_eq_false (show ¬ a < b from fun hh => by have := eq_of_dgt LA.out LB.out fun j hj => HE.out j (by omega) hj; omega)).symm, m, rfl⟩
    · obtain ⟨p, q, p', q', rfl, rfl, h1, h2⟩ := HC.out (k - 1) (by omega)
      have ek : ((k : Int) - 1).toNat = k - 1 := by omega
      rcases Nat.lt_trichotomy (dgt b16 a (k - 1)) (dgt b16 b (k - 1)) with hlt | heq | hgt
      · have t1 : (((dgt b16 a (k - 1) : Nat) : Int) != ((dgt b16 b (k - 1) : Nat) : Int)) = true := by simp; omega
        have t2 : ((dgt b16 a (k - 1) : Nat) : Int) < ((dgt b16 b (k - 1) : Nat) : Int) := by omega
        have t3 := Lib.hid (decide_eq_true (lt_of_dgt b16_two LA.out LB.out (by omega) (fun j h1 h2 => HE.out j (by omega) h2) hlt))
        go_wp2
        go_quiet (fail)
        go_wp2
        go_quiet (fail)
        go_wp2
        go_ret
        first | exact ⟨ret_bool t3.out.symm, _, by rw [World.drewN_drewN, World.drewN_drewN]⟩ | exact ⟨ret_bool (by rw [t3.out]; first | exact decide_eq_false (by omega) | exact decide_eq_true (by omega)), _, by rw [World.drewN_drewN, World.drewN_drewN]⟩
      · have t1 : (((dgt b16 a (k - 1) : Nat) : Int) != ((dgt b16 b (k - 1) : Nat) : Int)) = false := by simp; omega
        go_wp2
        go_quiet (fail)
        go_wp2
        go_roundw
        case rel =>
          refine ⟨k - 1, by omega, by go_num, fun j h1 h2 => ?_, _, rfl⟩
          by_cases e : j = k - 1
          · rw [e]; exact heq
          · exact HE.out j (by omega) h2
        case measure => simp [intOf]; omega
      · have t1 : (((dgt b16 a (k - 1) : Nat) : Int) != ((dgt b16 b (k - 1) : Nat) : Int)) = true := by simp; omega
        have t2 : ¬ ((dgt b16 a (k - 1) : Nat) : Int) < ((dgt b16 b (k - 1) : Nat) : Int) := by omega
        have t3 := Lib.hid (decide_eq_false (Nat.lt_asymm (lt_of_dgt b16_two LB.out LA.out (by omega) (fun j h1 h2 => (HE.out j (by omega) h2).symm) hgt)))
        go_wp2
        go_quiet (fail)
        go_wp2
        go_quiet (fail)
        go_wp2
        go_ret
        first | exact ⟨ret_bool t3.out.symm, _, by rw [World.drewN_drewN, World.drewN_drewN]⟩ | exact ⟨ret_bool (by rw [t3.out]; first | exact decide_eq_false (by omega) | exact decide_eq_true (by omega)), _, by rw [World.drewN_drewN, World.drewN_drewN]⟩
theorem rless_any (A B : Option Addr) (c d a b : Nat) (w : World) (ha : Num16 w A a) (hb : Num16 w B b) (la : ln b16 a ≤ 100000000) :
    Calls Tryd.prog 75 #[.slice A (ln b16 a) c, .slice B (ln b16 b) d] w (LessPost a b w) := by
  by_cases h : ln b16 a = ln b16 b
  · unfold Num16 at ha hb
    have h1 := lt_pow_ln b16_two a
    have h2 := lt_pow_ln b16_two b
    rw [← h] at hb h2 ⊢
    exact rless_same A B _ c d a b w ha hb la h1 h2
  · refine (rless_len A B _ _ c d w h).mono fun e w' ⟨he, hw⟩ => ⟨?_, 0, hw.symm⟩
    rw [he]
    rcases Nat.lt_or_gt_of_ne h with h1 | h1
    · have : a < b := Nat.lt_of_not_le fun hle => by have := ln_mono b16_two hle; omega
      rw [decide_eq_true h1, decide_eq_true this]
    · have : b < a := Nat.lt_of_not_le fun hle => by have := ln_mono b16_two hle; omega
      rw [decide_eq_false (show ¬ ln b16 a < ln b16 b by omega), decide_eq_false (show ¬ a < b by omega)]
end Go.Proofs.YtafglggjncnkkaaDoor
namespace Go.Proofs.YtafglggjncnkkaaDoor
open Go.RowKit

/-- The carry into digit k of a sum. -/
def cr (x y k : Nat) : Nat := (x % b16 ^ k + y % b16 ^ k) / b16 ^ k
theorem cr_zero (x y : Nat) : cr x y 0 = 0 := by simp [cr, Nat.mod_one]
theorem cr_le (x y k : Nat) : cr x y k ≤ 1 := by
  have hp : 0 < b16 ^ k := Nat.pow_pos (by decide)
  have h1 := Nat.mod_lt x hp
  have h2 := Nat.mod_lt y hp
  have : cr x y k < 2 := (Nat.div_lt_iff_lt_mul hp).2 (by omega)
  omega
theorem cr_step (x y k : Nat) : cr x y (k + 1) = (cr x y k + dgt b16 x k + dgt b16 y k) / 65536 ∧ dgt b16 (x + y) k = (cr x y k + dgt b16 x k + dgt b16 y k) % 65536 := by
  have hp : 0 < b16 ^ k := Nat.pow_pos (by decide)
  have e1 := Nat.div_add_mod x (b16 ^ k)
  have e2 := Nat.div_add_mod y (b16 ^ k)
  constructor
  · unfold cr dgt
    rw [Nat.pow_succ, Nat.mod_mul, Nat.mod_mul, ← Nat.div_div_eq_div_mul]
    rw [show x % b16 ^ k + b16 ^ k * (x / b16 ^ k % b16) + (y % b16 ^ k + b16 ^ k * (y / b16 ^ k % b16)) = (x % b16 ^ k + y % b16 ^ k) + b16 ^ k * (x / b16 ^ k % b16 + y / b16 ^ k % b16) by rw [Nat.mul_add]; omega]
    rw [Nat.add_mul_div_left _ _ hp, ← Nat.add_assoc]
    rfl
  · unfold cr dgt
    have h3 : (x + y) / b16 ^ k = (x % b16 ^ k + y % b16 ^ k) / b16 ^ k + (x / b16 ^ k + y / b16 ^ k) := by
      conv => lhs; rw [← e1, ← e2]
      rw [show b16 ^ k * (x / b16 ^ k) + x % b16 ^ k + (b16 ^ k * (y / b16 ^ k) + y % b16 ^ k) = (x % b16 ^ k + y % b16 ^ k) + b16 ^ k * (x / b16 ^ k + y / b16 ^ k) by rw [Nat.mul_add]; omega]
      rw [Nat.add_mul_div_left _ _ hp]
    rw [h3]
    show ((x % b16 ^ k + y % b16 ^ k) / b16 ^ k + (x / b16 ^ k + y / b16 ^ k)) % 65536 = ((x % b16 ^ k + y % b16 ^ k) / b16 ^ k + x / b16 ^ k % 65536 + y / b16 ^ k % 65536) % 65536
    omega
theorem ln_over {x k : Nat} (h : b16 ^ k ≤ x) : k < ln b16 x := by
  rcases Nat.lt_or_ge k (ln b16 x) with h1 | h1
  · exact h1
  · have := (ln_le b16_two).1 h1; omega
theorem plus_more {x y k : Nat} (h : k < ln b16 x ∨ k < ln b16 y ∨ 0 < cr x y k) : k < ln b16 (x + y) := by
  rcases h with h | h | h
  · exact Nat.lt_of_lt_of_le h (ln_mono b16_two (by omega))
  · exact Nat.lt_of_lt_of_le h (ln_mono b16_two (by omega))
  · refine ln_over ?_
    have h1 : b16 ^ k ≤ x % b16 ^ k + y % b16 ^ k := (Nat.div_pos_iff.1 h).2
    have h2 := Nat.mod_le x (b16 ^ k)
    have h3 := Nat.mod_le y (b16 ^ k)
    omega
theorem plus_end {x y k : Nat} (h1 : ln b16 x ≤ k) (h2 : ln b16 y ≤ k) (h3 : cr x y k = 0) : ln b16 (x + y) ≤ k := by
  have hp : 0 < b16 ^ k := Nat.pow_pos (by decide)
  have e1 := (ln_le b16_two).1 h1
  have e2 := (ln_le b16_two).1 h2
  refine (ln_le b16_two).2 ?_
  unfold cr at h3
  rw [Nat.mod_eq_of_lt e1, Nat.mod_eq_of_lt e2] at h3
  have := Nat.lt_of_div_eq_zero hp h3
  omega
theorem dgt_over {x k : Nat} (h : ln b16 x ≤ k) : dgt b16 x k = 0 := dgt_of_lt ((ln_le b16_two).1 h)

set_option linter.unusedSimpArgs false in
set_option maxRecDepth 100000 in
set_option maxHeartbeats 2000000 in
theorem rplus_any (A B : Option Addr) (c d x y : Nat) (w : World) (hA : Num16 w A x) (hB : Num16 w B y) (la : ln b16 x ≤ 1000000) (lb : ln b16 y ≤ 1000000) :
    Calls Tryd.prog 74 #[.slice A (ln b16 x) c, .slice B (ln b16 y) d] w fun e w' => ∃ A' c', e = .returned (.slice A' (ln b16 (x + y)) c') ∧ Own16 w.heap.size w' A' (ln b16 (x + y)) c' (dgt b16 (x + y)) ∧ Below w.heap.size w w' := by
  have HA := Lib.hid hA
  have HB := Lib.hid hB
  have hls : ln b16 (x + y) ≤ 1000001 := ln_add b16_two la lb
  clear hA hB
  obtain ⟨i0, hi, hz0, hz1, hz2⟩ := info_parts info_u16
  go_enter Tryd.func74, Tryd.ntmps74
  go_wp2_with fail
  go_loopw [5, 6, 7] (fun v u i wr => ∃ k, i = .int .i64 ((k : Nat) : Int) ∧ u = .int .i64 ((cr x y k : Nat) : Int) ∧ k ≤ ln b16 (x + y) ∧ Hid (lenV v = k) ∧ wr.ownsRow w.heap.size 40 1 v k (nums .u16 k (dgt b16 (x + y))) ∧ Below w.heap.size w wr) (fun v _ _ _ => ln b16 (x + y) - lenV v)
  case atStart => exact ⟨0, rfl, by rw [cr_zero]; rfl, Nat.zero_le _, Lib.hid rfl, World.ownsRow_nil .., Below.refl _ _⟩
  case round =>
    obtain ⟨k, rfl, rfl, hk, hlv, hown, hbl⟩ := hrel
    have hcr := cr_le x y k
    by_cases hc : k < ln b16 x ∨ k < ln b16 y ∨ 0 < cr x y k
    · have hk9 := plus_more hc
      have hcs := cr_step x y k
      have HC := Lib.hid hcs
      have HK := Lib.hid hk9
      obtain ⟨q, hq⟩ : ∃ q, q = cr x y k := ⟨_, rfl⟩
      rw [← hq] at hc hcr ⊢
      have HQ := Lib.hid hq
      have hdx := dgt16_lt x k
      have hdy := dgt16_lt y k
      clear hcs hk9 hq
      go_upto_region 4 with (fail)
      go_cut [21] from 8 to 21 (fun v wx => v = .bool true ∧ wx = wr)
      case first =>
        rcases Nat.lt_or_ge k (ln b16 x) with h1 | h1
        · have t1 : decide ((k : Int) < ((ln b16 x : Nat) : Int)) = true := decide_eq_true (by omega)
          go_wp2_with fail
          go_meet
          exact ⟨rfl, rfl⟩
        · have t1 : decide ((k : Int) < ((ln b16 x : Nat) : Int)) = false := decide_eq_false (by omega)
          rcases Nat.lt_or_ge k (ln b16 y) with h2 | h2
          · have t2 : decide ((k : Int) < ((ln b16 y : Nat) : Int)) = true := decide_eq_true (by omega)
            go_wp2_with fail
            go_meet
            exact ⟨rfl, rfl⟩
          · have t2 : decide ((k : Int) < ((ln b16 y : Nat) : Int)) = false := decide_eq_false (by omega)
            have t3 : 0 < q := by omega
            go_wp2_with fail
            go_meet
            exact ⟨rfl, rfl⟩
      case rest =>
      obtain ⟨rfl, rfl⟩ := hcut
      go_upto_if 27 with (fail)
      go_cut [6] from 27 to 34 (fun v wx => v = .int .i64 ((q + dgt b16 x k : Nat) : Int) ∧ wx = wc)
      case first =>
        rcases Nat.lt_or_ge k (ln b16 x) with h1 | h1
        · obtain ⟨p, o, rfl, hp, hca⟩ := (Num16.below HA.out hbl) (by omega)
          have c1 := hca k h1
          have t1 : decide ((k : Int) < ((ln b16 x : Nat) : Int)) = true := decide_eq_true (by omega)
          have t2 : (k : Int) < ((ln b16 x : Nat) : Int) := by omega
          have o1 : IntKind.i64.wrap ((dgt b16 x k : Nat) : Int) = ((dgt b16 x k : Nat) : Int) := by rw [IntKind.wrap_i64]; omega
          clear hca
          go_wp2_with fail
          go_meet
          exact ⟨by first | rfl | (congr 1; omega), rfl⟩
        · have t1 : decide ((k : Int) < ((ln b16 x : Nat) : Int)) = false := decide_eq_false (by omega)
          have HZ := Lib.hid (dgt_over h1)
          go_wp2_with fail
          go_meet
          exact ⟨by rw [HZ.out]; first | rfl | (congr 1; omega), rfl⟩
      case rest =>
      obtain ⟨rfl, rfl⟩ := hcut
      obtain ⟨q2, hq2⟩ : ∃ q2, q2 = q + dgt b16 x k := ⟨_, rfl⟩
      rw [← hq2]
      have hq2l : q2 ≤ 65536 := by omega
      have HQ2 := Lib.hid hq2
      clear hq2
      go_upto_if 38 with (fail)
      go_cut [6] from 38 to 45 (fun v wx => v = .int .i64 ((q2 + dgt b16 y k : Nat) : Int) ∧ wx = wc)
      case first =>
        rcases Nat.lt_or_ge k (ln b16 y) with h1 | h1
        · obtain ⟨p, o, rfl, hp, hca⟩ := (Num16.below HB.out hbl) (by omega)
          have c1 := hca k h1
          have t1 : decide ((k : Int) < ((ln b16 y : Nat) : Int)) = true := decide_eq_true (by omega)
          have t2 : (k : Int) < ((ln b16 y : Nat) : Int) := by omega
          have o1 : IntKind.i64.wrap ((dgt b16 y k : Nat) : Int) = ((dgt b16 y k : Nat) : Int) := by rw [IntKind.wrap_i64]; omega
          clear hca
          go_wp2_with fail
          go_meet
          exact ⟨by first | rfl | (congr 1; omega), rfl⟩
        · have t1 : decide ((k : Int) < ((ln b16 y : Nat) : Int)) = false := decide_eq_false (by omega)
          have HZ := Lib.hid (dgt_over h1)
          go_wp2_with fail
          go_meet
          exact ⟨by rw [HZ.out]; first | rfl | (congr 1; omega), rfl⟩
      case rest =>
      obtain ⟨rfl, rfl⟩ := hcut
      obtain ⟨T, hT⟩ : ∃ T, T = q2 + dgt b16 y k := ⟨_, rfl⟩
      rw [← hT]
      have hTl : T ≤ 131072 := by omega
      have e1 : cr x y (k + 1) = T / 65536 := by rw [HC.out.1, ← HQ.out, ← HQ2.out, ← hT]
      have e2 : dgt b16 (x + y) k = T % 65536 := by rw [HC.out.2, ← HQ.out, ← HQ2.out, ← hT]
      clear hT hdx hdy
      have t5 : (T : Int).tmod 65536 = ((dgt b16 (x + y) k : Nat) : Int) := by rw [Int.tmod_eq_emod_of_nonneg (by omega), e2]; omega
      have t6 : (T : Int).tdiv 65536 = ((cr x y (k + 1) : Nat) : Int) := by rw [Int.tdiv_eq_ediv_of_nonneg (by omega), e1]; omega
      have hdl := dgt16_lt (x + y) k
      have hcl := cr_le x y (k + 1)
      clear e1 e2
      have o3 : IntKind.u16.wrap ((dgt b16 (x + y) k : Nat) : Int) = ((dgt b16 (x + y) k : Nat) : Int) := by rw [IntKind.wrap_u16]; omega
      have hsz := hbl.size
      go_wp2_with (at_builtin; refine wpList_append_own _ rfl _ _ 22 rfl w.heap.size 40 i0 (.int .u16 0) 1 2 Tryd.underlying22 hi hz0 hz1 hz2 rfl (by decide) _ _ _ rfl (hown.alloc _) ⟨wc.heap.size, 0, none⟩ 1 1 [.int .u16 ((dgt b16 (x + y) k : Nat) : Int)] rfl rfl (cell_one_new _ _ _) (by simp [Value.oneCell']) (by unfold maxLen; omega) (by omega) (by simp; omega) ?_; intro v' w5 hown5 hgrow _; obtain ⟨g', cap', rfl⟩ := ownsRow_succ hown5)
      go_roundw
      case rel =>
        rw [nums_succ] at hown5
        exact ⟨k + 1, rfl, rfl, HK.out, Lib.hid rfl, hown5, (hbl.alloc hsz (.cells #[.int .u16 ((dgt b16 (x + y) k : Nat) : Int)] 40)).grown hgrow (by simp; omega) (fun g hg => (hown.lt g hg).1)⟩
      case measure =>
        have := HK.out
        show ln b16 (x + y) - (k + 1) < ln b16 (x + y) - lenV u5
        rw [hlv.out]
        omega
    · have h1 : ln b16 x ≤ k := by omega
      have h2 : ln b16 y ≤ k := by omega
      have h3 : cr x y k = 0 := by omega
      have hkk : k = ln b16 (x + y) := by have := plus_end h1 h2 h3; omega
      have t1 : decide ((k : Int) < ((ln b16 x : Nat) : Int)) = false := decide_eq_false (by omega)
      have t2 : decide ((k : Int) < ((ln b16 y : Nat) : Int)) = false := decide_eq_false (by omega)
      rw [h3]
      obtain ⟨A', c', rfl⟩ := own_slice16 hown
      have HK := Lib.hid hkk
      clear hkk h3 hc
      go_wp2_with fail
      go_ret
      refine ⟨A', c', ret_slice HK.out, ?_, hbl⟩
      rw [← HK.out]
      exact hown
end Go.Proofs.YtafglggjncnkkaaDoor
namespace Go.Proofs.YtafglggjncnkkaaDoor
open Go.RowKit

/-- The borrow from digit k of a difference. -/
def bw (x y k : Nat) : Nat := if x % b16 ^ k < y % b16 ^ k then 1 else 0
theorem bw_zero (x y : Nat) : bw x y 0 = 0 := by simp [bw, Nat.mod_one]
theorem bw_le (x y k : Nat) : bw x y k ≤ 1 := by unfold bw; split <;> omega
theorem bw_div {x y k : Nat} (h : y ≤ x) : (x - y) / b16 ^ k + y / b16 ^ k + bw x y k = x / b16 ^ k := by
  have hp : 0 < b16 ^ k := Nat.pow_pos (by decide)
  have e1 := Nat.div_add_mod x (b16 ^ k)
  have e2 := Nat.div_add_mod y (b16 ^ k)
  have l1 := Nat.mod_lt x hp
  have l2 := Nat.mod_lt y hp
  unfold bw
  generalize b16 ^ k = P at *
  generalize x % P = a at *
  generalize y % P = a' at *
  generalize x / P = X at *
  generalize y / P = Y at *
  by_cases hb : a < a'
  · rw [if_pos hb]
    have hXY : Y + 1 ≤ X := by
      rcases Nat.lt_or_ge Y X with h1 | h1
      · exact h1
      · have := Nat.mul_le_mul_left P h1; omega
    obtain ⟨Z, rfl⟩ := Nat.le.dest hXY
    have e3 : P * (Y + 1 + Z) = P * Y + P + P * Z := by rw [Nat.mul_add, Nat.mul_add, Nat.mul_one]
    have e4 : x - y = (P + a - a') + P * Z := by omega
    rw [e4, Nat.add_mul_div_left _ _ hp, Nat.div_eq_of_lt (by omega)]
    omega
  · rw [if_neg hb]
    have hXY : Y ≤ X := by
      rcases Nat.lt_or_ge X Y with h1 | h1
      · have := Nat.mul_le_mul_left P (show X + 1 ≤ Y from h1)
        rw [Nat.mul_add, Nat.mul_one] at this
        omega
      · exact h1
    obtain ⟨Z, rfl⟩ := Nat.le.dest hXY
    have e3 : P * (Y + Z) = P * Y + P * Z := Nat.mul_add ..
    have e4 : x - y = (a - a') + P * Z := by omega
    rw [e4, Nat.add_mul_div_left _ _ hp, Nat.div_eq_of_lt (by omega)]
    omega
theorem bw_step {x y : Nat} (h : y ≤ x) (k : Nat) : bw x y (k + 1) = 1 - (65536 + dgt b16 x k - bw x y k - dgt b16 y k) / 65536 ∧ dgt b16 (x - y) k = (65536 + dgt b16 x k - bw x y k - dgt b16 y k) % 65536 := by
  have hd := bw_div (k := k) h
  have hd1 := bw_div (k := k + 1) h
  have hb := bw_le x y k
  have hb1 := bw_le x y (k + 1)
  rw [Nat.pow_succ, ← Nat.div_div_eq_div_mul, ← Nat.div_div_eq_div_mul, ← Nat.div_div_eq_div_mul] at hd1
  unfold dgt
  generalize (x - y) / b16 ^ k = Z at *
  generalize x / b16 ^ k = X at *
  generalize y / b16 ^ k = Y at *
  generalize bw x y k = b at *
  generalize bw x y (k + 1) = b' at *
  have hd2 : Z / 65536 + Y / 65536 + b' = X / 65536 := hd1
  clear hd1
  show b' = 1 - (65536 + X % 65536 - b - Y % 65536) / 65536 ∧ Z % 65536 = (65536 + X % 65536 - b - Y % 65536) % 65536
  have h1 := Nat.mod_lt X (show 0 < 65536 by decide)
  have h2 := Nat.mod_lt Y (show 0 < 65536 by decide)
  have h3 := Nat.mod_lt Z (show 0 < 65536 by decide)
  have f1 := Nat.div_add_mod X 65536
  have f2 := Nat.div_add_mod Y 65536
  have f3 := Nat.div_add_mod Z 65536
  generalize X % 65536 = dx at *
  generalize Y % 65536 = dy at *
  generalize Z % 65536 = dz at *
  generalize X / 65536 = X1 at *
  generalize Y / 65536 = Y1 at *
  generalize Z / 65536 = Z1 at *
  rcases Nat.lt_or_ge dx (dy + b) with hlt | hge
  · have hq : (65536 + dx - b - dy) / 65536 = 0 := Nat.div_eq_of_lt (by omega)
    rw [hq, Nat.mod_eq_of_lt (show 65536 + dx - b - dy < 65536 by omega)]
    omega
  · have hq : (65536 + dx - b - dy) / 65536 = 1 := by omega
    rw [hq, show 65536 + dx - b - dy = 65536 + (dx - b - dy) by omega, Nat.add_mod_left, Nat.mod_eq_of_lt (show dx - b - dy < 65536 by omega)]
    omega

set_option linter.unusedSimpArgs false in
set_option maxRecDepth 100000 in
set_option maxHeartbeats 2000000 in
theorem rminus_any (A B : Option Addr) (c d x y : Nat) (w : World) (hA : Num16 w A x) (hB : Num16 w B y) (la : ln b16 x ≤ 1000000) (hxy : y ≤ x) :
    Calls Tryd.prog 76 #[.slice A (ln b16 x) c, .slice B (ln b16 y) d] w fun e w' => ∃ A' c', e = .returned (.slice A' (ln b16 (x - y)) c') ∧ Num16 w' A' (x - y) ∧ (∀ p, A' = some p → w.heap.size ≤ p.block) ∧ Below w.heap.size w w' := by
  have HA := Lib.hid hA
  have HB := Lib.hid hB
  have hlx := lt_pow_ln b16_two x
  have hlb : ln b16 y ≤ ln b16 x := ln_mono b16_two hxy
  have HL := Lib.hid hlx
  have HXY := Lib.hid hxy
  clear hA hB hlx hxy
  obtain ⟨N, hN⟩ : ∃ N, N = ln b16 x := ⟨_, rfl⟩
  have hNl : N ≤ 1000000 := by omega
  have HN := Lib.hid hN
  rw [← hN] at hlb ⊢
  clear hN la
  obtain ⟨i0, hi, hz0, hz1, hz2⟩ := info_parts info_u16
  go_enter Tryd.func76, Tryd.ntmps76
  go_wp2_with fail
  go_loopw [5, 6, 7] (fun v u i wr => ∃ k, i = .int .i64 ((k : Nat) : Int) ∧ u = .int .i64 ((bw x y k : Nat) : Int) ∧ k ≤ N ∧ Hid (lenV v = k) ∧ wr.ownsRow w.heap.size 40 1 v k (nums .u16 k (dgt b16 (x - y))) ∧ Below w.heap.size w wr) (fun v _ _ _ => N - lenV v)
  case atStart => exact ⟨0, rfl, by rw [bw_zero]; rfl, Nat.zero_le _, Lib.hid rfl, World.ownsRow_nil .., Below.refl _ _⟩
  case round =>
    obtain ⟨k, rfl, rfl, hk, hlv, hown, hbl⟩ := hrel
    have hbw := bw_le x y k
    by_cases hk9 : k < N
    · have hcs := bw_step HXY.out k
      have HC := Lib.hid hcs
      obtain ⟨q, hq⟩ : ∃ q, q = bw x y k := ⟨_, rfl⟩
      rw [← hq] at hbw ⊢
      have HQ := Lib.hid hq
      have hdx := dgt16_lt x k
      have hdy := dgt16_lt y k
      clear hcs hq
      have t0 : decide ((k : Int) < (N : Int)) = true := decide_eq_true (by omega)
      obtain ⟨p, o, rfl, hp, hca⟩ := (Num16.below HA.out hbl) (by rw [← HN.out]; omega)
      have c1 := hca k (by rw [← HN.out]; omega)
      have t2 : (k : Int) < (N : Int) := by omega
      have o1 : IntKind.i64.wrap ((dgt b16 x k : Nat) : Int) = ((dgt b16 x k : Nat) : Int) := by rw [IntKind.wrap_i64]; omega
      have o2 : IntKind.i64.wrap (65536 + ((dgt b16 x k : Nat) : Int)) = 65536 + ((dgt b16 x k : Nat) : Int) := by rw [IntKind.wrap_i64]; omega
      have o4 : IntKind.i64.wrap (65536 + ((dgt b16 x k : Nat) : Int) - (q : Int)) = ((65536 + dgt b16 x k - q : Nat) : Int) := by rw [IntKind.wrap_i64]; omega
      clear hca
      go_upto_if 26 with (fail)
      have hM : 65536 + dgt b16 x k - q ≤ 131071 ∧ 65535 ≤ 65536 + dgt b16 x k - q := by omega
      obtain ⟨M, hMe⟩ : ∃ M, M = 65536 + dgt b16 x k - q := ⟨_, rfl⟩
      rw [← hMe] at o4 hM ⊢
      have HM := Lib.hid hMe
      clear hMe o2 c1 o1
      go_cut [8] from 26 to 33 (fun v wx => v = .int .i64 ((M - dgt b16 y k : Nat) : Int) ∧ wx = wr)
      case first =>
        rcases Nat.lt_or_ge k (ln b16 y) with h1 | h1
        · obtain ⟨p2, o2, rfl, hp2, hca⟩ := (Num16.below HB.out hbl) (by omega)
          have c1 := hca k h1
          have t1 : decide (k < ln b16 y) = true := decide_eq_true h1
          have t3 : (k : Int) < ((ln b16 y : Nat) : Int) := by omega
          have o1 : IntKind.i64.wrap ((dgt b16 y k : Nat) : Int) = ((dgt b16 y k : Nat) : Int) := by rw [IntKind.wrap_i64]; omega
          have o5 : IntKind.i64.wrap ((M : Int) - ((dgt b16 y k : Nat) : Int)) = ((M - dgt b16 y k : Nat) : Int) := by rw [IntKind.wrap_i64]; omega
          clear hca
          go_wp2_with fail
          go_meet
          exact ⟨by first | rfl | (congr 1; omega), rfl⟩
        · have t1 : decide (k < ln b16 y) = false := decide_eq_false (by omega)
          have HZ := Lib.hid (dgt_over h1)
          go_wp2_with fail
          go_meet
          exact ⟨by rw [HZ.out]; rfl, rfl⟩
      case rest =>
      obtain ⟨rfl, rfl⟩ := hcut
      obtain ⟨T, hT⟩ : ∃ T, T = M - dgt b16 y k := ⟨_, rfl⟩
      rw [← hT]
      have hTl : T ≤ 131071 := by omega
      have e1 : bw x y (k + 1) = 1 - T / 65536 := by rw [HC.out.1, ← HQ.out, ← HM.out, ← hT]
      have e2 : dgt b16 (x - y) k = T % 65536 := by rw [HC.out.2, ← HQ.out, ← HM.out, ← hT]
      have hT2 : T / 65536 ≤ 1 := by omega
      clear hT hdx hdy o4 hM
      have t5 : (T : Int).tmod 65536 = ((dgt b16 (x - y) k : Nat) : Int) := by rw [Int.tmod_eq_emod_of_nonneg (by omega), e2]; omega
      have t6 : (T : Int).tdiv 65536 = ((T / 65536 : Nat) : Int) := by rw [Int.tdiv_eq_ediv_of_nonneg (by omega)]; omega
      have t7 : IntKind.i64.wrap (1 - ((T / 65536 : Nat) : Int)) = ((bw x y (k + 1) : Nat) : Int) := by rw [IntKind.wrap_i64, e1]; omega
      have t8 : IntKind.i64.wrap ((T / 65536 : Nat) : Int) = ((T / 65536 : Nat) : Int) := by rw [IntKind.wrap_i64]; omega
      have t9 : (1 : Int) - (T : Int) / 65536 = ((bw x y (k + 1) : Nat) : Int) := by rw [e1]; omega
      have hdl := dgt16_lt (x - y) k
      clear e1 e2
      have o3 : IntKind.u16.wrap ((dgt b16 (x - y) k : Nat) : Int) = ((dgt b16 (x - y) k : Nat) : Int) := by rw [IntKind.wrap_u16]; omega
      have hsz := hbl.size
      go_wp2_with (at_builtin; refine wpList_append_own _ rfl _ _ 22 rfl w.heap.size 40 i0 (.int .u16 0) 1 2 Tryd.underlying22 hi hz0 hz1 hz2 rfl (by decide) _ _ _ rfl (hown.alloc _) ⟨wc.heap.size, 0, none⟩ 1 1 [.int .u16 ((dgt b16 (x - y) k : Nat) : Int)] rfl rfl (cell_one_new _ _ _) (by simp [Value.oneCell']) (by unfold maxLen; omega) (by omega) (by simp; omega) ?_; intro v' w5 hown5 hgrow _; obtain ⟨g', cap', rfl⟩ := ownsRow_succ hown5)
      go_roundw
      case rel =>
        rw [nums_succ] at hown5
        exact ⟨k + 1, rfl, by first | rfl | (congr 1; first | exact t7 | exact t9), by omega, Lib.hid rfl, hown5, (hbl.alloc hsz (.cells #[.int .u16 ((dgt b16 (x - y) k : Nat) : Int)] 40)).grown hgrow (by simp; omega) (fun g hg => (hown.lt g hg).1)⟩
      case measure =>
        show N - (k + 1) < N - lenV u5
        rw [hlv.out]
        omega
    · obtain rfl : k = N := by omega
      obtain ⟨A', c', rfl, hcc, hrow⟩ := RowO.of_own hown
      have hvs : vs b16 (dgt b16 (x - y)) k = x - y := vs_dgt_lt (Nat.lt_of_le_of_lt (Nat.sub_le x y) (by rw [HN.out]; exact HL.out))
      have hc := rtrim_any wr.heap.size A' k c' (dgt b16 (x - y)) wr hrow.rd (fun i _ => dgt16_lt _ i) hcc (by omega)
      rw [hvs] at hc
      have HC := Lib.hid hc
      clear hc hvs
      go_wp2_with fail
      refine HC.out.mono ?_
      rintro e w5 ⟨rfl, rfl⟩
      go_wp2_with fail
      go_ret
      refine ⟨A', c', rfl, ?_, fun p hp => by subst hp; exact (hown.lt _ rfl).1, hbl⟩
      have hln : ln b16 (x - y) ≤ k := by
        have := ln_mono b16_two (Nat.sub_le x y)
        rw [← HN.out] at this
        exact this
      exact fun hn => by
        obtain ⟨b, o, e, h1, h2⟩ := hrow.rd (by omega)
        exact ⟨b, o, e, h1, fun i hi => h2 i (by omega)⟩
end Go.Proofs.YtafglggjncnkkaaDoor
namespace Go.Proofs.YtafglggjncnkkaaDoor
open Go.RowKit

theorem mul_digit16 {a b : Nat} (ha : a < 65536) (hb : b < 65536) : a * b ≤ 4294836225 := Nat.mul_le_mul (show a ≤ 65535 by omega) (show b ≤ 65535 by omega)
theorem mul_step16 {f g : Nat → Nat} {m i k x y c V : Nat} (hi : i + k < m) (hg : ∀ j, j < m → j ≠ i + k → g j = f j) (hu : g (i + k) = (x * y + f (i + k) + c) % b16) {s : Nat}
    (h : vs b16 f m + b16 ^ (i + k) * c = V + b16 ^ i * (x * s)) : vs b16 g m + b16 ^ (i + k + 1) * ((x * y + f (i + k) + c) / b16) = V + b16 ^ i * (x * (s + b16 ^ k * y)) := by
  have h1 := vs_set (B := b16) hi hg
  have h2 : b16 ^ (i + k) * ((x * y + f (i + k) + c) % b16) + b16 ^ (i + k) * (b16 * ((x * y + f (i + k) + c) / b16)) = b16 ^ (i + k) * (x * y + f (i + k) + c) := by rw [← Nat.mul_add, Nat.mod_add_div]
  have h3 : b16 ^ i * (x * (s + b16 ^ k * y)) = b16 ^ i * (x * s) + b16 ^ (i + k) * (x * y) := by
    rw [Nat.mul_add, Nat.mul_add, Nat.pow_add, Nat.mul_assoc (b16 ^ i) (b16 ^ k), Nat.mul_left_comm x (b16 ^ k) y]
  rw [hu] at h1
  rw [h3, Nat.pow_succ, Nat.mul_assoc]
  rw [Nat.mul_add, Nat.mul_add] at h2
  generalize b16 ^ (i + k) * (b16 * ((x * y + f (i + k) + c) / b16)) = z1 at *
  generalize b16 ^ (i + k) * ((x * y + f (i + k) + c) % b16) = z2 at *
  generalize b16 ^ (i + k) * (x * y) = z3 at *
  generalize b16 ^ (i + k) * f (i + k) = z4 at *
  generalize b16 ^ (i + k) * c = z5 at *
  generalize b16 ^ i * (x * s) = z6 at *
  omega


theorem Num16.of_rd {w : World} {A : Option Addr} {n : Nat} {f : Nat → Nat} (h : Rd w.heap.size .u16 w A n f) (hf : ∀ i, i < n → f i < 65536) : Num16 w A (vs b16 f n) := by
  have hl : ln b16 (vs b16 f n) ≤ n := (ln_le b16_two).2 (vs_lt hf)
  exact (h.shorter hl).congr fun i hi => (dgt_vs hf (by omega)).symm

/-- After the first i digits of a: the words are those of their product with b. -/
def MulSt16 (H a b m i : Nat) (wr : World) : Prop := ∃ f : Nat → Nat, Row wr H 40 .u16 m m f ∧ (∀ j, f j < 65536) ∧ vs b16 f m = vs b16 (dgt b16 a) i * b ∧ ∀ j, i + ln b16 b ≤ j → f j = 0
/-- Within digit i: k digits of b done, the carry c. -/
def MulIn16 (H a b m i k c : Nat) (wr : World) : Prop := ∃ f : Nat → Nat, Row wr H 40 .u16 m m f ∧ (∀ j, f j < 65536) ∧ vs b16 f m + b16 ^ (i + k) * c = vs b16 (dgt b16 a) i * b + b16 ^ i * (dgt b16 a i * vs b16 (dgt b16 b) k) ∧ c < 65536 ∧ ∀ j, i + ln b16 b ≤ j → f j = 0

theorem MulSt16.inner {H a b m i : Nat} {wr : World} (h : MulSt16 H a b m i wr) : MulIn16 H a b m i 0 0 wr := by
  obtain ⟨f, h1, h2, h3, h4⟩ := h
  exact ⟨f, h1, h2, by simpa [vs] using h3, by decide, h4⟩
theorem MulIn16.step {H a b m i k c : Nat} {wr : World} {f : Nat → Nat} (h1 : Row wr H 40 .u16 m m f) (h2 : ∀ j, f j < 65536)
    (h3 : vs b16 f m + b16 ^ (i + k) * c = vs b16 (dgt b16 a) i * b + b16 ^ i * (dgt b16 a i * vs b16 (dgt b16 b) k)) (h4 : c < 65536) (h5 : ∀ j, i + ln b16 b ≤ j → f j = 0)
    (hk : k < ln b16 b) (hm : i + ln b16 b < m) {u v : Int} (hu : u = ((dgt b16 a i : Nat) : Int) * (dgt b16 b k : Nat) + (f (i + k) : Nat) + (c : Nat)) (hv : v = u % 65536) :
    MulIn16 H a b m i (k + 1) ((u / 65536).toNat) (wr.setCell ⟨H, i + k, none⟩ (.int .u16 v)) := by
  have e : u = ((dgt b16 a i * dgt b16 b k + f (i + k) + c : Nat) : Int) := by rw [hu, Int.natCast_add, Int.natCast_add, Int.natCast_mul]
  have hp := mul_digit16 (dgt16_lt a i) (dgt16_lt b k)
  have hf := h2 (i + k)
  have ev : v = (((dgt b16 a i * dgt b16 b k + f (i + k) + c) % b16 : Nat) : Int) := by rw [hv, e]; rfl
  have et : (u / 65536).toNat = (dgt b16 a i * dgt b16 b k + f (i + k) + c) / b16 := by rw [e]; rfl
  rw [ev, et]
  refine ⟨fun j => if j = i + k then (dgt b16 a i * dgt b16 b k + f (i + k) + c) % b16 else f j, h1.set (by simp) fun j _ hj => by simp [hj], fun j => ?_, ?_, ?_, fun j hj => ?_⟩
  · by_cases hj : j = i + k
    · simp only [hj, if_true]; exact Nat.mod_lt _ (by decide)
    · simp only [hj, if_false]; exact h2 j
  · rw [vs_succ b16 (dgt b16 b) k]
    exact mul_step16 (by omega) (fun j _ hj => by simp [hj]) (by simp) h3
  · rw [Nat.div_lt_iff_lt_mul (by decide)]
    show _ < 65536 * 65536
    omega
  · simp only [show ¬ j = i + k by omega, if_false]; exact h5 j hj
theorem MulIn16.done {H a b m i c : Nat} {wr : World} (h : MulIn16 H a b m i (ln b16 b) c wr) (hm : i + ln b16 b < m) : MulSt16 H a b m (i + 1) (wr.setCell ⟨H, i + ln b16 b, none⟩ (.int .u16 (c : Int))) := by
  obtain ⟨f, h1, h2, h3, h4, h5⟩ := h
  refine ⟨fun j => if j = i + ln b16 b then c else f j, h1.set (by simp) fun j _ hj => by simp [hj], fun j => ?_, ?_, fun j hj => ?_⟩
  · by_cases hj : j = i + ln b16 b
    · simp only [hj, if_true]; exact h4
    · simp only [hj, if_false]; exact h2 j
  · have hs := vs_set (B := b16) (f := f) (g := fun j => if j = i + ln b16 b then c else f j) hm fun j _ hj => by simp [hj]
    rw [vs_dgt_ln b16_two] at h3
    rw [h5 _ (Nat.le_refl _)] at hs
    simp only [if_true] at hs
    rw [vs_succ, Nat.add_mul, Nat.mul_assoc, ← h3]
    omega
  · simp only [show ¬ j = i + ln b16 b by omega, if_false]; exact h5 j (by omega)

set_option linter.unusedSimpArgs false in
set_option maxRecDepth 100000 in
set_option maxHeartbeats 2000000 in
theorem rtimes_any (A B : Option Addr) (c d a b : Nat) (w : World) (ha : Num16 w A a) (hb : Num16 w B b) (hn : ln b16 a ≤ 1000000) (hm : ln b16 b ≤ 1000000) :
    Calls Tryd.prog 77 #[.slice A (ln b16 a) c, .slice B (ln b16 b) d] w (fun e w' => ∃ A' c', e = .returned (.slice A' (ln b16 (a * b)) c') ∧ Num16 w' A' (a * b) ∧ (∀ p, A' = some p → w.heap.size ≤ p.block) ∧ Below w.heap.size w w') := by
  have hmk := mk16 (ln b16 a + ln b16 b) (ln b16 a + ln b16 b) (Nat.le_refl _) (by omega)
  rw [show ((ln b16 a + ln b16 b : Nat) : Int) = (ln b16 a : Int) + ln b16 b by omega] at hmk
  go_enter Tryd.func77, Tryd.ntmps77
  have hws : IntKind.i64.wrap (((ln b16 a : Nat) : Int) + ((ln b16 b : Nat) : Int)) = ((ln b16 a : Nat) : Int) + ((ln b16 b : Nat) : Int) := by rw [IntKind.wrap_i64]; omega
  go_wp2_with fail
  clear hmk hws
  go_loopw [6] (fun i wr => ∃ k : Nat, k ≤ ln b16 a ∧ i = .int .i64 k ∧ MulSt16 w.heap.size a b (ln b16 a + ln b16 b) k wr ∧ Below w.heap.size w wr) (fun i _ => ln b16 a - (intOf i).toNat)
  case atStart => exact ⟨0, Nat.zero_le _, rfl, ⟨fun _ => 0, Row.made, fun _ => by show (0 : Nat) < 65536; decide, by rw [vs_zeros fun _ _ => rfl]; simp [vs], fun _ _ => rfl⟩, (Below.refl _ _).alloc (Nat.le_refl _) _⟩
  case round =>
    obtain ⟨i, hi, rfl, hst, hbel⟩ := hrel
    by_cases hlt : i < ln b16 a
    · obtain ⟨p, q, rfl, hp, hca⟩ := ha (by omega)
      have c0 := (hbel.cell (p := ⟨p, q + i, none⟩) hp).trans (hca i hlt)
      have hxi := dgt16_lt a i
      obtain ⟨wo, rfl⟩ : ∃ wo : World, wo = wr := ⟨_, rfl⟩
      go_wp2_with fail
      go_loopw [7, 8] (fun cy j wr => ∃ k y : Nat, k ≤ ln b16 b ∧ j = .int .i64 (k : Int) ∧ cy = .int .i64 (y : Int) ∧ MulIn16 w.heap.size a b (ln b16 a + ln b16 b) i k y wr ∧ Below w.heap.size w wr) (fun _ j _ => ln b16 b - (intOf j).toNat)
      case atStart => exact ⟨0, 0, Nat.zero_le _, rfl, rfl, hst.inner, hbel⟩
      case round =>
        obtain ⟨k, y, hk, rfl, rfl, hin, hbel2⟩ := hrel
        have c0' := (hbel2.cell (p := ⟨p, q + i, none⟩) hp).trans (hca i hlt)
        by_cases hkt : k < ln b16 b
        · obtain ⟨p', q', rfl, hp', hcb⟩ := hb (by omega)
          have c1 := (hbel2.cell (p := ⟨p', q' + k, none⟩) hp').trans (hcb k hkt)
          obtain ⟨f, h1, h2, h3, h4, h5⟩ := hin
          have c2 := h1.cell (i := i + k) (by omega)
          have c3 := h1.frozen (i + k)
          have hyk := dgt16_lt b k
          have hf := h2 (i + k)
          obtain ⟨P, hP⟩ : ∃ P, P = dgt b16 a i * dgt b16 b k := ⟨_, rfl⟩
          have hPl : P ≤ 4294836225 := by rw [hP]; exact mul_digit16 hxi hyk
          have hPI : ((dgt b16 a i : Nat) : Int) * ((dgt b16 b k : Nat) : Int) = (P : Int) := by rw [hP, Int.natCast_mul]
          obtain ⟨F, hF⟩ : ∃ F, f (i + k) = F := ⟨_, rfl⟩
          rw [hF] at hf c2
          obtain ⟨U, hU⟩ : ∃ U, U = y + P + F := ⟨_, rfl⟩
          have hUl : U ≤ 4294967295 := by omega
          have t0 : decide ((k : Int) < ((ln b16 b : Nat) : Int)) = true := decide_eq_true (by omega)
          have t1 : (k : Int) < ((ln b16 b : Nat) : Int) := by omega
          have t2 : (i : Int) < ((ln b16 a : Nat) : Int) := by omega
          have t3 : (i : Int) + (k : Int) < ((ln b16 a : Nat) : Int) + ((ln b16 b : Nat) : Int) := by omega
          have o1 : IntKind.i64.wrap ((dgt b16 a i : Nat) : Int) = ((dgt b16 a i : Nat) : Int) := by rw [IntKind.wrap_i64]; omega
          have o2 : IntKind.i64.wrap ((dgt b16 b k : Nat) : Int) = ((dgt b16 b k : Nat) : Int) := by rw [IntKind.wrap_i64]; omega
          have o3 : IntKind.i64.wrap (P : Int) = (P : Int) := by rw [IntKind.wrap_i64]; omega
          have o4 : IntKind.i64.wrap ((y : Int) + (P : Int)) = (y : Int) + (P : Int) := by rw [IntKind.wrap_i64]; omega
          have o5 : IntKind.i64.wrap (F : Int) = (F : Int) := by rw [IntKind.wrap_i64]; omega
          have o6 : IntKind.i64.wrap ((y : Int) + (P : Int) + (F : Int)) = (U : Int) := by rw [IntKind.wrap_i64]; omega
          have o7 : IntKind.i64.wrap ((i : Int) + (k : Int)) = (i : Int) + (k : Int) := by rw [IntKind.wrap_i64]; omega
          have H2 := Lib.hid h2
          have H3 := Lib.hid h3
          have H5 := Lib.hid h5
          have HU := Lib.hid hU
          have HP := Lib.hid hP
          have HF := Lib.hid hF
          clear h2 h3 h5 hP hF hU
          go_wp2_with fail
          go_quiet (fail)
          go_wp2_with fail
          go_roundw
          case rel =>
            have hs := MulIn16.step (H := w.heap.size) (a := a) (b := b) (m := ln b16 a + ln b16 b) (i := i) (k := k) (c := y) (wr := wr.drewN nq) (f := f) h1 H2.out H3.out h4 H5.out hkt (by omega) (u := (U : Int)) (v := (U : Int) % 65536) (by rw [HF.out, ← Int.natCast_mul, ← HP.out, HU.out]; omega) rfl
            rw [show ((U : Int) / 65536).toNat = U / 65536 by omega] at hs
            exact ⟨k + 1, U / 65536, by omega, by go_num, by congr 1, hs, (belowN hbel2 _).setCell (Nat.le_refl _) _⟩
          case measure => simp [intOf]; omega
        · obtain rfl : k = ln b16 b := by omega
          obtain ⟨f, h1, h2, h3, h4, h5⟩ := hin
          have c2 := h1.cell (i := i + ln b16 b) (by omega)
          have c3 := h1.frozen (i + ln b16 b)
          have hdone := MulIn16.done (H := w.heap.size) (a := a) (b := b) (m := ln b16 a + ln b16 b) (i := i) (c := y) (wr := wr) ⟨f, h1, h2, h3, h4, h5⟩ (by omega)
          have HD := Lib.hid hdone
          have t2 : (i : Int) < ((ln b16 a : Nat) : Int) := by omega
          have t3 : (i : Int) + ((ln b16 b : Nat) : Int) < ((ln b16 a : Nat) : Int) + ((ln b16 b : Nat) : Int) := by omega
          have o1 : IntKind.u16.wrap (y : Int) = (y : Int) := by rw [IntKind.wrap_u16]; omega
          have o7 : IntKind.i64.wrap ((i : Int) + ((ln b16 b : Nat) : Int)) = (i : Int) + ((ln b16 b : Nat) : Int) := by rw [IntKind.wrap_i64]; omega
          clear h2 h3 h5 hdone
          go_wp2_with fail
          go_roundw
          case rel => exact ⟨i + 1, by omega, by go_num, HD.out, hbel2.setCell (Nat.le_refl _) _⟩
          case measure => simp [intOf]; omega
    · obtain rfl : i = ln b16 a := by omega
      obtain ⟨f, h1, h2, h3, h4⟩ := hst
      have ht := rtrim_any wr.heap.size (some ⟨w.heap.size, 0, none⟩) _ (ln b16 a + ln b16 b) _ wr (h1.rd (Nat.le_refl _) h1.lt) (fun i _ => h2 i) (Nat.le_refl _) (by omega)
      have hnum := Num16.of_rd (h1.rd (Nat.le_refl _) h1.lt) (fun i _ => h2 i)
      rw [h3, vs_dgt_ln b16_two] at ht hnum
      have HT := Lib.hid ht
      have HNUM := Lib.hid hnum
      clear ht h2 h3 h4 hnum
      go_wp2_with fail
      refine HT.out.mono ?_
      rintro e w3 ⟨rfl, rfl⟩
      go_wp2_with fail
      go_ret
      exact ⟨_, _, rfl, HNUM.out, fun p hp => by injection hp with hp; rw [← hp]; exact Nat.le_refl _, hbel⟩
end Go.Proofs.YtafglggjncnkkaaDoor
namespace Go.Proofs.YtafglggjncnkkaaDoor
open Go.RowKit

set_option maxRecDepth 100000 in
theorem rvalid_any (s : Bool) (A : Option Addr) (n c : Nat) (f : Nat → Nat) (w : World) (h : Rd w.heap.size .u16 w A n f) (hf : ∀ i, i < n → f i < 65536) (hn : n ≤ 1000000) :
    Calls Tryd.prog 51 #[.agg #[.bool s, .slice A n c]] w fun e w' => e = .returned (.bool (okW s n f)) ∧ Below w.heap.size w w' := by
  go_enter Tryd.func51, Tryd.ntmps51
  by_cases h0 : n = 0
  · subst h0
    go_wp2_with fail
    go_ret
    exact ⟨by simp [okW], (Below.refl _ _).alloc (Nat.le_refl _) _⟩
  · obtain ⟨b, o, rfl, hb, hc⟩ := h (by omega)
    have c1 := hc (n - 1) (by omega)
    have f1 := hf (n - 1) (by omega)
    have hi1 : 0 ≤ (n : Int) - 1 := by omega
    have hi2 : (n : Int) - 1 < (n : Int) := by omega
    have hi3 : ((n : Int) - 1).toNat = n - 1 := by omega
    have t0 : ((n : Int) == 0) = false := by simp; omega
    have ho : okW s n f = (decide (n ≤ 1024) && (f (n - 1) != 0)) := by unfold okW; rw [if_neg h0]
    have HO := Lib.hid ho
    clear hc hf ho
    by_cases h1 : n ≤ 1024
    · have t1 : (n : Int) ≤ 1024 := by omega
      go_wp2_with fail
      go_ret
      refine ⟨?_, (Below.refl _ _).alloc (Nat.le_refl _) _⟩
      rw [HO.out]
      show Ending.returned (.bool (((f (n - 1) : Nat) : Int) != 0)) = _
      have e : (((f (n - 1) : Nat) : Int) != 0) = (f (n - 1) != 0) := by
        by_cases e : f (n - 1) = 0
        · rw [e]; rfl
        · rw [bne_iff_ne.2 e, bne_iff_ne.2 (by omega)]
      rw [e, decide_eq_true h1, Bool.true_and]
    · have t1 : decide ((n : Int) ≤ 1024) = false := decide_eq_false (by omega)
      go_wp2_with fail
      go_ret
      refine ⟨?_, (Below.refl _ _).alloc (Nat.le_refl _) _⟩
      rw [HO.out]
      simp [h1]

theorem rvalid_v {a : Int} {s : Bool} {A : Option Addr} {n c : Nat} {w : World} (ha : WV w a s A n) (la : n ≤ 1024) : Calls Tryd.prog 51 #[.agg #[.bool s, .slice A n c]] w fun e w' => e = .returned (.bool true) ∧ Below w.heap.size w w' := by
  obtain ⟨rfl, rfl, hA⟩ := ha
  have h := rvalid_any (decide (a < 0)) A (ln b16 a.natAbs) c (dgt b16 a.natAbs) w hA (fun i _ => dgt16_lt _ i) (by omega)
  rw [okW_num la] at h
  exact h
/-- The reference returned the number z and no error, or ErrLong. -/
def RefR (z : Int) (w : World) (e : Ending) (w' : World) : Prop :=
  (ln b16 z.natAbs ≤ 1024 ∧ ∃ s A n c, e = .returned (.tuple #[.agg #[.bool s, .slice A n c], .int .i64 0]) ∧ WV w' z s A n ∧ Below w.heap.size w w') ∨ (1024 < ln b16 z.natAbs ∧ LongW w e w')
set_option linter.unusedSimpArgs false in
set_option maxRecDepth 100000 in
theorem rfits_any {z : Int} {s : Bool} {A : Option Addr} {n c : Nat} {w : World} (ha : WV w z s A n) : Calls Tryd.prog 52 #[.agg #[.bool s, .slice A n c]] w (fun e w' => (ln b16 z.natAbs ≤ 1024 ∧ e = .returned (.tuple #[.agg #[.bool s, .slice A n c], .int .i64 0]) ∧ WV w' z s A n ∧ Below w.heap.size w w') ∨ (1024 < ln b16 z.natAbs ∧ LongW w e w')) := by
  have hb0 : Below w.heap.size w ((w.alloc (.cells #[.bool s, .slice A n c] 24)).alloc (.cells #[.bool false, .slice none 0 0] 24)) := ((Below.refl _ w).alloc (Nat.le_refl _) _).alloc (by simp) _
  go_enter Tryd.func52, Tryd.ntmps52
  have hl := ha.len
  by_cases h : n ≤ 1024
  · have t1 : decide ((1024 : Int) < (n : Int)) = false := decide_eq_false (by omega)
    have HL := Lib.hid hl
    clear hl
    go_wp2_with fail
    have hb : Below w.heap.size w ((w.alloc (.cells #[.bool s, .slice A n c] 24)).alloc (.cells #[.bool s, .slice A n c] 24)) := ((Below.refl _ w).alloc (Nat.le_refl _) _).alloc (by simp) _
    exact bodyPost_ret (v := .tuple #[.agg #[.bool s, .slice A n c], .int .i64 0]) (by simp [results, Tryd.results52, go_sem]) rfl (.inl ⟨by rw [← HL.out]; exact h, rfl, ha.below hb, hb⟩)
  · have t1 : decide ((1024 : Int) < (n : Int)) = true := decide_eq_true (by omega)
    have HL := Lib.hid hl
    clear hl
    go_wp2_with fail
    exact bodyPost_ret (v := .tuple #[.agg #[.bool false, .slice none 0 0], .int .i64 3]) (by simp [results, Tryd.results52, go_sem]) rfl (.inr ⟨by rw [← HL.out]; omega, rfl, hb0⟩)
set_option linter.unusedSimpArgs false in
set_option maxRecDepth 100000 in
theorem rneg_any {z : Int} {s : Bool} {A : Option Addr} {n c : Nat} {w : World} (ha : WV w z s A n) : Calls Tryd.prog 54 #[.agg #[.bool s, .slice A n c]] w fun e w' => ∃ t, e = .returned (.agg #[.bool t, .slice A n c]) ∧ WV w' (-z) t A n ∧ Below w.heap.size w w' := by
  have hb0 : Below w.heap.size w ((w.alloc (.cells #[.bool s, .slice A n c] 24)).alloc (.cells #[.bool false, .slice none 0 0] 24)) := ((Below.refl _ w).alloc (Nat.le_refl _) _).alloc (by simp) _
  have hR0 := WholeAt.new (w.alloc (.cells #[.bool s, .slice A n c] 24)) false (.slice none 0 0)
  simp only [World.size_alloc] at hR0
  have hsg : (!s && decide (0 < n)) = decide (-z < 0) := by
    rw [ha.sgn, ha.len]
    by_cases h1 : z < 0
    · rw [decide_eq_true h1, decide_eq_false (show ¬ -z < 0 by omega)]; rfl
    · rw [decide_eq_false h1]
      by_cases h2 : z = 0
      · rw [h2]
        show decide (0 < ln b16 0) = decide (-(0 : Int) < 0)
        rw [ln_zero]; rfl
      · rw [decide_eq_true ((ln_pos b16_two).2 (show 0 < z.natAbs by omega)), decide_eq_true (show -z < 0 by omega)]; rfl
  have hm := fun W => make_any (!s) A n c W
  rw [hsg] at hm
  have hv : WV w (-z) (decide (-z < 0)) A n := ⟨rfl, by rw [Int.natAbs_neg]; exact ha.2.1, by rw [Int.natAbs_neg]; exact ha.2.2⟩
  obtain ⟨t, ht⟩ : ∃ t, t = decide (-z < 0) := ⟨_, rfl⟩
  rw [← ht] at hm hv
  have HM := Lib.hid hm
  clear hm hsg ht ha
  go_enter Tryd.func54, Tryd.ntmps54
  go_wp2_with fail
  refine (HM.out _).mono ?_
  rintro e w1 ⟨rfl, hb1⟩
  have hR1 := hR0.below hb1 hR0.lt
  have hbl1 := hb0.trans (hb1.mono hb0.size)
  obtain ⟨r0, r1⟩ := hR1.cells
  have g0 := hR1.frozen 0
  have g1 := hR1.frozen 1
  obtain ⟨hW, hbW⟩ := store_whole hR1 hbl1 (show w.heap.size ≤ w.heap.size + 1 by omega) t (.slice A n c)
  have HW := Lib.hid hW
  clear hW
  go_wp2_with fail
  have hW := HW.out
  clear HW hR1 r0 r1
  generalize ((w1.setCell ⟨w.heap.size + 1, 0, none⟩ (.bool t)).setCell ⟨w.heap.size + 1, 1, none⟩ (.slice A n c)) = WW at *
  obtain ⟨y0, y1⟩ := hW.cells
  refine bodyPost_ret (v := .agg #[.bool t, .slice A n c]) (by simp [results, Tryd.results54, go_sem, y0, y1]) rfl ?_
  exact ⟨t, rfl, hv.below hbW, hbW⟩
end Go.Proofs.YtafglggjncnkkaaDoor
namespace Go.Proofs.YtafglggjncnkkaaDoor
open Go.RowKit

theorem num_store {W : World} {A : Option Addr} {x G : Nat} (h : Num16 W A x) (hA : ∀ p, A = some p → G < p.block) (s : Bool) (v : Value) : Num16 ((W.setCell ⟨G, 0, none⟩ (.bool s)).setCell ⟨G, 1, none⟩ v) A x := by
  intro hn
  obtain ⟨b, o, e, hlt, hc⟩ := h hn
  have hne := hA _ e
  refine ⟨b, o, e, by rw [World.size_setCell, World.size_setCell]; exact hlt, fun i hi => ?_⟩
  refine (World.cell?_of_block (w := W) ?_).trans (hc i hi)
  exact (Below.heap_setCell _ _ _ _ (Nat.ne_of_gt hne)).trans (Below.heap_setCell _ _ _ _ (Nat.ne_of_gt hne))
theorem belSelf2 {w W : World} {P : World → Prop} (_ : Env w P W) : Below W.heap.size W W := Below.refl _ W
set_option linter.unusedSimpArgs false in
set_option maxRecDepth 100000 in
set_option maxHeartbeats 2000000 in
theorem rproduct_any {a b : Int} {s t : Bool} {A B : Option Addr} {n m c d : Nat} {w : World} (ha : WV w a s A n) (hv : WV w b t B m) (la : n ≤ 1000000) (lb : m ≤ 1000000) :
    Calls Tryd.prog 55 #[.agg #[.bool s, .slice A n c], .agg #[.bool t, .slice B m d]] w fun e w' => ∃ s' A' n' c', e = .returned (.agg #[.bool s', .slice A' n' c']) ∧ WV w' (a * b) s' A' n' ∧ (∀ p, A' = some p → w.heap.size ≤ p.block) ∧ Below w.heap.size w w' := by
  have hD := Env.two w s t A B n m c d
  have hz2 : ((w.alloc (.cells #[.bool s, .slice A n c] 24)).alloc (.cells #[.bool t, .slice B m d] 24)).heap.size = w.heap.size + 1 + 1 := by simp
  obtain ⟨W2, hW2⟩ : ∃ W2, W2 = (w.alloc (.cells #[.bool s, .slice A n c] 24)).alloc (.cells #[.bool t, .slice B m d] 24) := ⟨_, rfl⟩
  rw [← hW2] at hD hz2
  have hb := (belSelf2 hD).alloc (Nat.le_refl _) (.cells #[.bool false, .slice none 0 0] 24)
  have hR := WholeAt.new W2 false (.slice none 0 0)
  rw [hz2] at hR
  have hsgn : ((s != t) && decide (0 < ln b16 (a.natAbs * b.natAbs))) = decide (a * b < 0) := by
    rw [← toI_mul a b, toI_neg, ha.sgn, hv.sgn]
    congr 1
    exact decide_eq_decide.2 (ln_pos b16_two)
  have hab : (a * b).natAbs = a.natAbs * b.natAbs := Int.natAbs_mul a b
  have HT := Lib.hid fun (W : World) (hW : Below w.heap.size w W) => rtimes_any A B c d a.natAbs b.natAbs W (Num16.below ha.2.2 hW) (Num16.below hv.2.2 hW) (by rw [← ha.len]; exact la) (by rw [← hv.len]; exact lb)
  rw [← ha.len, ← hv.len] at HT
  have HM := Lib.hid fun (A' : Option Addr) (c' : Nat) (W : World) => make_any (s != t) A' (ln b16 (a.natAbs * b.natAbs)) c' W
  rw [hsgn] at HM
  have HAB := Lib.hid hab
  have HW2 := Lib.hid hW2
  clear ha hv hsgn hab hW2
  go_enter Tryd.func55, Tryd.ntmps55
  go_upto_region 1 with (fail)
  rw [← HW2.out]
  replace hb := hb.drew
  have hR' : WholeAt (W2.alloc (.cells #[.bool false, .slice none 0 0] 24)).drew (w.heap.size + 1 + 1) false (.slice none 0 0) := hR
  have hle := hb.size
  have tok0 : True := trivial
  go_region_held3 (fun w' => w'.cell? ⟨w.heap.size, 0, none⟩ = some (.bool s) ∧ w'.cell? ⟨w.heap.size, 1, none⟩ = some (.slice A n c) ∧ w'.cell? ⟨w.heap.size + 1, 0, none⟩ = some (.bool t) ∧ w'.cell? ⟨w.heap.size + 1, 1, none⟩ = some (.slice B m d))
    (exact Two0.cells (hD.step (by first | exact hb | ((repeat (first | exact hb | (refine Below.setCell ?_ ?_ _) | (refine Below.alloc ?_ ?_ _))) <;> (try dsimp only) <;> (repeat (first | rw [World.size_alloc] | rw [World.size_setCell] | rw [World.size_drew])) <;> omega))).here)
    (first
      | (have _t := tok0; go_at_call 77; refine (HT.out _ (hD.step hb).bel).mono ?_; rintro e w5 ⟨A5, c5, rfl, hn5, hp5, hb5⟩; have hq5 := fun p hp => Nat.le_trans (hD.step hb).bel.size (hp5 p hp); have hlt5 := hR'.lt; replace hR' := hR'.below hb5 hR'.lt; replace hb := hb.trans (hb5.mono hb.size); clear tok0 hb5; have tok1 : True := trivial)
      | (have _t := tok1; go_at_call 73; refine (HM.out A5 c5 _).mono ?_; rintro e w6 ⟨rfl, hb6⟩; replace hn5 := Num16.below hn5 hb6; replace hR' := hR'.below hb6 hR'.lt; replace hb := hb.trans (hb6.mono hb.size); have hs6 := hb.size; obtain ⟨r0, r1⟩ := hR'.cells; have g0 := hR'.frozen 0; have g1 := hR'.frozen 1; have hlt := hR'.lt; clear tok1 hb6; have tok2 : True := trivial))
  obtain ⟨hW, hbW⟩ := store_whole hR' (hD.step hb).bel (show w.heap.size ≤ w.heap.size + 1 + 1 by omega) (decide (a * b < 0)) (.slice A5 (ln b16 (a.natAbs * b.natAbs)) c5)
  have hfin := num_store hn5 (fun p hp => Nat.lt_of_lt_of_le hlt5 (hp5 p hp)) (decide (a * b < 0)) (.slice A5 (ln b16 (a.natAbs * b.natAbs)) c5)
  have HW := Lib.hid hW
  have HF := Lib.hid hfin
  clear hW hfin r0 r1 g0 g1 hn5 hp5
  go_wp2_with fail
  have hW := HW.out
  have hfin := HF.out
  clear HW HF
  generalize ((w6.setCell ⟨w.heap.size + 1 + 1, 0, none⟩ (.bool (decide (a * b < 0)))).setCell ⟨w.heap.size + 1 + 1, 1, none⟩ (.slice A5 (ln b16 (a.natAbs * b.natAbs)) c5)) = WW at *
  obtain ⟨y0, y1⟩ := hW.cells
  refine bodyPost_ret (v := .agg #[.bool (decide (a * b < 0)), .slice A5 (ln b16 (a.natAbs * b.natAbs)) c5]) (by simp [results, Tryd.results55, go_sem, y0, y1]) rfl ?_
  exact ⟨_, A5, _, c5, rfl, ⟨rfl, by rw [HAB.out], by rw [HAB.out]; exact hfin⟩, hq5, hbW⟩
end Go.Proofs.YtafglggjncnkkaaDoor
namespace Go.Proofs.YtafglggjncnkkaaDoor
open Go.RowKit

theorem sgn_of {z : Int} {s : Bool} {x : Nat} (h : z = toI s x) : z.natAbs = x ∧ (s && decide (0 < ln b16 x)) = decide (z < 0) := by
  subst h
  refine ⟨toI_abs s x, ?_⟩
  rw [toI_neg]
  congr 1
  exact decide_eq_decide.2 (ln_pos b16_two)
theorem rplus_o (A B : Option Addr) (c d x y : Nat) (w : World) (hA : Num16 w A x) (hB : Num16 w B y) (la : ln b16 x ≤ 1000000) (lb : ln b16 y ≤ 1000000) :
    Calls Tryd.prog 74 #[.slice A (ln b16 x) c, .slice B (ln b16 y) d] w fun e w' => ∃ A' c', e = .returned (.slice A' (ln b16 (x + y)) c') ∧ Num16 w' A' (x + y) ∧ (∀ p, A' = some p → w.heap.size ≤ p.block) ∧ Below w.heap.size w w' :=
  (rplus_any A B c d x y w hA hB la lb).mono fun _ _ ⟨A', c', he, ho, hb⟩ => ⟨A', c', he, ho.num, fun p hp => by subst hp; exact (World.ownsRow.lt ho _ rfl).1, hb⟩
set_option linter.unusedSimpArgs false in
set_option maxRecDepth 100000 in
set_option maxHeartbeats 4000000 in
theorem rsum_any {a b : Int} {s t : Bool} {A B : Option Addr} {n m c d : Nat} {w : World} (ha : WV w a s A n) (hv : WV w b t B m) (la : n ≤ 1000000) (lb : m ≤ 1000000) :
    Calls Tryd.prog 53 #[.agg #[.bool s, .slice A n c], .agg #[.bool t, .slice B m d]] w fun e w' => ∃ s' A' n' c', e = .returned (.agg #[.bool s', .slice A' n' c']) ∧ WV w' (a + b) s' A' n' ∧ (∀ p, A' = some p → w.heap.size ≤ p.block) ∧ Below w.heap.size w w' := by
  have hD := Env.two w s t A B n m c d
  have hz2 : ((w.alloc (.cells #[.bool s, .slice A n c] 24)).alloc (.cells #[.bool t, .slice B m d] 24)).heap.size = w.heap.size + 1 + 1 := by simp
  obtain ⟨W2, hW2⟩ : ∃ W2, W2 = (w.alloc (.cells #[.bool s, .slice A n c] 24)).alloc (.cells #[.bool t, .slice B m d] 24) := ⟨_, rfl⟩
  rw [← hW2] at hD hz2
  have hb := (belSelf2 hD).alloc (Nat.le_refl _) (.cells #[.bool false, .slice none 0 0] 24)
  have hR := WholeAt.new W2 false (.slice none 0 0)
  rw [hz2] at hR
  obtain ⟨W3, hW3⟩ : ∃ W3, W3 = W2.alloc (.cells #[.bool false, .slice none 0 0] 24) := ⟨_, rfl⟩
  rw [← hW3] at hb hR
  have HW2 := Lib.hid hW2
  have HW3 := Lib.hid hW3
  have la' : ln b16 a.natAbs ≤ 1000000 := by rw [← ha.len]; exact la
  have lb' : ln b16 b.natAbs ≤ 1000000 := by rw [← hv.len]; exact lb
  have ea : a = toI s a.natAbs := by rw [ha.sgn, toI_int]
  have eb : b = toI t b.natAbs := by rw [hv.sgn, toI_int]
  clear hW2 hW3
  go_enter Tryd.func53, Tryd.ntmps53
  go_upto_region 1 with (fail)
  rw [← HW2.out, ← HW3.out]
  obtain ⟨k1, k2, k3, k4⟩ := Two0.cells (hD.step hb).here
  by_cases hst : s = t
  · subst hst
    have hz := sgn_of (z := a + b) (s := s) (x := a.natAbs + b.natAbs) (by rw [toI_same, ← ea, ← eb])
    have hab : (a + b).natAbs = a.natAbs + b.natAbs := hz.1
    have hsgn : (s && decide (0 < ln b16 (a.natAbs + b.natAbs))) = decide (a + b < 0) := hz.2
    have HM := Lib.hid fun (A' : Option Addr) (c' : Nat) (W : World) => make_any s A' (ln b16 (a.natAbs + b.natAbs)) c' W
    rw [hsgn] at HM
    have HAB := Lib.hid hab
    have HT := Lib.hid fun (W : World) (hW : Below w.heap.size w W) => rplus_o A B c d a.natAbs b.natAbs W (Num16.below ha.2.2 hW) (Num16.below hv.2.2 hW) la' lb'
    rw [← ha.len, ← hv.len] at HT
    clear ha hv hsgn hab
    have hR' : WholeAt W3.drew (w.heap.size + 1 + 1) false (.slice none 0 0) := hR
    clear hz ea eb
    go_upto_region 2 with (fail)
    replace hb := hb.drew
    have hle := hb.size
    have tok0 : True := trivial
    go_region_held3 (fun w' => w'.cell? ⟨w.heap.size, 0, none⟩ = some (.bool s) ∧ w'.cell? ⟨w.heap.size, 1, none⟩ = some (.slice A n c) ∧ w'.cell? ⟨w.heap.size + 1, 0, none⟩ = some (.bool s) ∧ w'.cell? ⟨w.heap.size + 1, 1, none⟩ = some (.slice B m d))
      (exact Two0.cells (hD.step (by first | exact hb | ((repeat (first | exact hb | (refine Below.setCell ?_ ?_ _) | (refine Below.alloc ?_ ?_ _))) <;> (try dsimp only) <;> (repeat (first | rw [World.size_alloc] | rw [World.size_setCell] | rw [World.size_drew])) <;> omega))).here)
      (first
        | (have _t := tok0; go_at_call 74; refine (HT.out _ (hD.step hb).bel).mono ?_; rintro e w5 ⟨A5, c5, rfl, hn5, hp5, hb5⟩; have hq5 := fun p hp => Nat.le_trans (hD.step hb).bel.size (hp5 p hp); have hlt5 := hR'.lt; replace hR' := hR'.below hb5 hR'.lt; replace hb := hb.trans (hb5.mono hb.size); clear tok0 hb5; have tok1 : True := trivial)
        | (have _t := tok1; go_at_call 73; refine (HM.out A5 c5 _).mono ?_; rintro e w6 ⟨rfl, hb6⟩; replace hn5 := Num16.below hn5 hb6; replace hR' := hR'.below hb6 hR'.lt; replace hb := hb.trans (hb6.mono hb.size); have hs6 := hb.size; obtain ⟨r0, r1⟩ := hR'.cells; have g0 := hR'.frozen 0; have g1 := hR'.frozen 1; have hlt := hR'.lt; clear tok1 hb6; have tok2 : True := trivial))
    obtain ⟨hW, hbW⟩ := store_whole hR' (hD.step hb).bel (show w.heap.size ≤ w.heap.size + 1 + 1 by omega) (decide (a + b < 0)) (.slice A5 (ln b16 (a.natAbs + b.natAbs)) c5)
    have hfin := num_store hn5 (fun p hp => Nat.lt_of_lt_of_le hlt5 (hp5 p hp)) (decide (a + b < 0)) (.slice A5 (ln b16 (a.natAbs + b.natAbs)) c5)
    have HW := Lib.hid hW
    have HF := Lib.hid hfin
    clear hW hfin r0 r1 g0 g1 hn5 hp5
    go_wp2_with fail
    have hW := HW.out
    have hfin := HF.out
    clear HW HF
    generalize ((w6.setCell ⟨w.heap.size + 1 + 1, 0, none⟩ (.bool (decide (a + b < 0)))).setCell ⟨w.heap.size + 1 + 1, 1, none⟩ (.slice A5 (ln b16 (a.natAbs + b.natAbs)) c5)) = WW at *
    obtain ⟨y0, y1⟩ := hW.cells
    refine bodyPost_ret (v := .agg #[.bool (decide (a + b < 0)), .slice A5 (ln b16 (a.natAbs + b.natAbs)) c5]) (by simp [results, Tryd.results53, go_sem, y0, y1]) rfl ?_
    exact ⟨_, A5, _, c5, rfl, ⟨rfl, by rw [HAB.out], by rw [HAB.out]; exact hfin⟩, hq5, hbW⟩
  · have tst : (s == t) = false := by simp [hst]
    have hc := rless_any A B c d a.natAbs b.natAbs W3 (Num16.below ha.2.2 (hD.step hb).bel) (Num16.below hv.2.2 (hD.step hb).bel) (by omega)
    rw [← ha.len, ← hv.len] at hc
    go_wp2_with fail
    refine hc.mono ?_
    clear hc
    rintro e w4 ⟨rfl, q, rfl⟩
    replace hb : Below W2.heap.size W2 (W3.drewN q) := belowN hb q
    have hR' : WholeAt (W3.drewN q).drew (w.heap.size + 1 + 1) false (.slice none 0 0) := hR
    clear k1 k2 k3 k4
    by_cases hlt9 : a.natAbs < b.natAbs
    · rw [decide_eq_true hlt9]
      have hle9 : a.natAbs ≤ b.natAbs := Nat.le_of_lt hlt9
      have hz := sgn_of (z := a + b) (s := t) (x := b.natAbs - a.natAbs) (by rw [toI_diff (Ne.symm hst) hle9, ← ea, ← eb, Int.add_comm])
      have hab : (a + b).natAbs = b.natAbs - a.natAbs := hz.1
      have hsgn : (t && decide (0 < ln b16 (b.natAbs - a.natAbs))) = decide (a + b < 0) := hz.2
      have HM := Lib.hid fun (A' : Option Addr) (c' : Nat) (W : World) => make_any t A' (ln b16 (b.natAbs - a.natAbs)) c' W
      rw [hsgn] at HM
      have HAB := Lib.hid hab
      have HT := Lib.hid fun (W : World) (hW : Below w.heap.size w W) => rminus_any B A d c b.natAbs a.natAbs W (Num16.below hv.2.2 hW) (Num16.below ha.2.2 hW) lb' hle9
      rw [← ha.len, ← hv.len] at HT
      clear ha hv hsgn hab
      clear hz ea eb hlt9 hle9
      go_upto_region 4 with (fail)
      replace hb := hb.drew
      have hle := hb.size
      have tok0 : True := trivial
      go_region_held3 (fun w' => w'.cell? ⟨w.heap.size, 0, none⟩ = some (.bool s) ∧ w'.cell? ⟨w.heap.size, 1, none⟩ = some (.slice A n c) ∧ w'.cell? ⟨w.heap.size + 1, 0, none⟩ = some (.bool t) ∧ w'.cell? ⟨w.heap.size + 1, 1, none⟩ = some (.slice B m d))
        (exact Two0.cells (hD.step (by first | exact hb | ((repeat (first | exact hb | (refine Below.setCell ?_ ?_ _) | (refine Below.alloc ?_ ?_ _))) <;> (try dsimp only) <;> (repeat (first | rw [World.size_alloc] | rw [World.size_setCell] | rw [World.size_drew])) <;> omega))).here)
        (first
          | (have _t := tok0; go_at_call 76; refine (HT.out _ (hD.step hb).bel).mono ?_; rintro e w5 ⟨A5, c5, rfl, hn5, hp5, hb5⟩; have hq5 := fun p hp => Nat.le_trans (hD.step hb).bel.size (hp5 p hp); have hlt5 := hR'.lt; replace hR' := hR'.below hb5 hR'.lt; replace hb := hb.trans (hb5.mono hb.size); clear tok0 hb5; have tok1 : True := trivial)
          | (have _t := tok1; go_at_call 73; refine (HM.out A5 c5 _).mono ?_; rintro e w6 ⟨rfl, hb6⟩; replace hn5 := Num16.below hn5 hb6; replace hR' := hR'.below hb6 hR'.lt; replace hb := hb.trans (hb6.mono hb.size); have hs6 := hb.size; obtain ⟨r0, r1⟩ := hR'.cells; have g0 := hR'.frozen 0; have g1 := hR'.frozen 1; have hlt := hR'.lt; clear tok1 hb6; have tok2 : True := trivial))
      obtain ⟨hW, hbW⟩ := store_whole hR' (hD.step hb).bel (show w.heap.size ≤ w.heap.size + 1 + 1 by omega) (decide (a + b < 0)) (.slice A5 (ln b16 (b.natAbs - a.natAbs)) c5)
      have hfin := num_store hn5 (fun p hp => Nat.lt_of_lt_of_le hlt5 (hp5 p hp)) (decide (a + b < 0)) (.slice A5 (ln b16 (b.natAbs - a.natAbs)) c5)
      have HW := Lib.hid hW
      have HF := Lib.hid hfin
      clear hW hfin r0 r1 g0 g1 hn5 hp5
      go_wp2_with fail
      have hW := HW.out
      have hfin := HF.out
      clear HW HF
      generalize ((w6.setCell ⟨w.heap.size + 1 + 1, 0, none⟩ (.bool (decide (a + b < 0)))).setCell ⟨w.heap.size + 1 + 1, 1, none⟩ (.slice A5 (ln b16 (b.natAbs - a.natAbs)) c5)) = WW at *
      obtain ⟨y0, y1⟩ := hW.cells
      refine bodyPost_ret (v := .agg #[.bool (decide (a + b < 0)), .slice A5 (ln b16 (b.natAbs - a.natAbs)) c5]) (by simp [results, Tryd.results53, go_sem, y0, y1]) rfl ?_
      exact ⟨_, A5, _, c5, rfl, ⟨rfl, by rw [HAB.out], by rw [HAB.out]; exact hfin⟩, hq5, hbW⟩
    · rw [decide_eq_false hlt9]
      have hle9 : b.natAbs ≤ a.natAbs := Nat.le_of_not_lt hlt9
      have hz := sgn_of (z := a + b) (s := s) (x := a.natAbs - b.natAbs) (by rw [toI_diff hst hle9, ← ea, ← eb])
      have hab : (a + b).natAbs = a.natAbs - b.natAbs := hz.1
      have hsgn : (s && decide (0 < ln b16 (a.natAbs - b.natAbs))) = decide (a + b < 0) := hz.2
      have HM := Lib.hid fun (A' : Option Addr) (c' : Nat) (W : World) => make_any s A' (ln b16 (a.natAbs - b.natAbs)) c' W
      rw [hsgn] at HM
      have HAB := Lib.hid hab
      have HT := Lib.hid fun (W : World) (hW : Below w.heap.size w W) => rminus_any A B c d a.natAbs b.natAbs W (Num16.below ha.2.2 hW) (Num16.below hv.2.2 hW) la' hle9
      rw [← ha.len, ← hv.len] at HT
      clear ha hv hsgn hab
      clear hz ea eb hlt9 hle9
      go_upto_region 5 with (fail)
      replace hb := hb.drew
      have hle := hb.size
      have tok0 : True := trivial
      go_region_held3 (fun w' => w'.cell? ⟨w.heap.size, 0, none⟩ = some (.bool s) ∧ w'.cell? ⟨w.heap.size, 1, none⟩ = some (.slice A n c) ∧ w'.cell? ⟨w.heap.size + 1, 0, none⟩ = some (.bool t) ∧ w'.cell? ⟨w.heap.size + 1, 1, none⟩ = some (.slice B m d))
        (exact Two0.cells (hD.step (by first | exact hb | ((repeat (first | exact hb | (refine Below.setCell ?_ ?_ _) | (refine Below.alloc ?_ ?_ _))) <;> (try dsimp only) <;> (repeat (first | rw [World.size_alloc] | rw [World.size_setCell] | rw [World.size_drew])) <;> omega))).here)
        (first
          | (have _t := tok0; go_at_call 76; refine (HT.out _ (hD.step hb).bel).mono ?_; rintro e w5 ⟨A5, c5, rfl, hn5, hp5, hb5⟩; have hq5 := fun p hp => Nat.le_trans (hD.step hb).bel.size (hp5 p hp); have hlt5 := hR'.lt; replace hR' := hR'.below hb5 hR'.lt; replace hb := hb.trans (hb5.mono hb.size); clear tok0 hb5; have tok1 : True := trivial)
          | (have _t := tok1; go_at_call 73; refine (HM.out A5 c5 _).mono ?_; rintro e w6 ⟨rfl, hb6⟩; replace hn5 := Num16.below hn5 hb6; replace hR' := hR'.below hb6 hR'.lt; replace hb := hb.trans (hb6.mono hb.size); have hs6 := hb.size; obtain ⟨r0, r1⟩ := hR'.cells; have g0 := hR'.frozen 0; have g1 := hR'.frozen 1; have hlt := hR'.lt; clear tok1 hb6; have tok2 : True := trivial))
      obtain ⟨hW, hbW⟩ := store_whole hR' (hD.step hb).bel (show w.heap.size ≤ w.heap.size + 1 + 1 by omega) (decide (a + b < 0)) (.slice A5 (ln b16 (a.natAbs - b.natAbs)) c5)
      have hfin := num_store hn5 (fun p hp => Nat.lt_of_lt_of_le hlt5 (hp5 p hp)) (decide (a + b < 0)) (.slice A5 (ln b16 (a.natAbs - b.natAbs)) c5)
      have HW := Lib.hid hW
      have HF := Lib.hid hfin
      clear hW hfin r0 r1 g0 g1 hn5 hp5
      go_wp2_with fail
      have hW := HW.out
      have hfin := HF.out
      clear HW HF
      generalize ((w6.setCell ⟨w.heap.size + 1 + 1, 0, none⟩ (.bool (decide (a + b < 0)))).setCell ⟨w.heap.size + 1 + 1, 1, none⟩ (.slice A5 (ln b16 (a.natAbs - b.natAbs)) c5)) = WW at *
      obtain ⟨y0, y1⟩ := hW.cells
      refine bodyPost_ret (v := .agg #[.bool (decide (a + b < 0)), .slice A5 (ln b16 (a.natAbs - b.natAbs)) c5]) (by simp [results, Tryd.results53, go_sem, y0, y1]) rfl ?_
      exact ⟨_, A5, _, c5, rfl, ⟨rfl, by rw [HAB.out], by rw [HAB.out]; exact hfin⟩, hq5, hbW⟩
end Go.Proofs.YtafglggjncnkkaaDoor
namespace Go.Proofs.YtafglggjncnkkaaDoor
open Go.RowKit

theorem rfits_ok {z : Int} {s : Bool} {A : Option Addr} {n c : Nat} {w : World} (ha : WV w z s A n) (hl : ln b16 z.natAbs ≤ 1024) : Calls Tryd.prog 52 #[.agg #[.bool s, .slice A n c]] w (fun e w' => e = .returned (.tuple #[.agg #[.bool s, .slice A n c], .int .i64 0]) ∧ WV w' z s A n ∧ Below w.heap.size w w') :=
  (rfits_any ha).mono fun _ _ h => by rcases h with ⟨_, h⟩ | ⟨h, _⟩; exact h; omega
theorem rfits_no {z : Int} {s : Bool} {A : Option Addr} {n c : Nat} {w : World} (ha : WV w z s A n) (hl : 1024 < ln b16 z.natAbs) : Calls Tryd.prog 52 #[.agg #[.bool s, .slice A n c]] w (LongW w) :=
  (rfits_any ha).mono fun _ _ h => by rcases h with ⟨h, _⟩ | ⟨_, h⟩; omega; exact h
set_option linter.unusedSimpArgs false in
set_option maxRecDepth 100000 in
set_option maxHeartbeats 2000000 in
theorem rsub_v {a b : Int} {s t : Bool} {A B : Option Addr} {n m c d : Nat} {w : World} (ha : WV w a s A n) (hv : WV w b t B m) (la : n ≤ 1024) (lb : m ≤ 1024) :
    Calls Tryd.prog 28 #[.agg #[.bool s, .slice A n c], .agg #[.bool t, .slice B m d]] w (RefR (a - b) w) := by
  have hD := Env.two w s t A B n m c d
  have hz2 : ((w.alloc (.cells #[.bool s, .slice A n c] 24)).alloc (.cells #[.bool t, .slice B m d] 24)).heap.size = w.heap.size + 1 + 1 := by simp
  obtain ⟨W2, hW2⟩ : ∃ W2, W2 = (w.alloc (.cells #[.bool s, .slice A n c] 24)).alloc (.cells #[.bool t, .slice B m d] 24) := ⟨_, rfl⟩
  rw [← hW2] at hD hz2
  have hb := (belSelf2 hD).alloc (Nat.le_refl _) (.cells #[.bool false, .slice none 0 0] 24)
  have hR := WholeAt.new W2 false (.slice none 0 0)
  rw [hz2] at hR
  obtain ⟨W3, hW3⟩ : ∃ W3, W3 = W2.alloc (.cells #[.bool false, .slice none 0 0] 24) := ⟨_, rfl⟩
  rw [← hW3] at hb hR
  have HW2 := Lib.hid hW2
  have HW3 := Lib.hid hW3
  clear hW2 hW3
  go_enter Tryd.func28, Tryd.ntmps28
  go_upto_region 1 with (fail)
  rw [← HW2.out, ← HW3.out]
  obtain ⟨k1, k2, k3, k4⟩ := Two0.cells (hD.step hb).here
  go_wp2_with fail
  refine (rvalid_v (c := c) (ha.below (hD.step hb).bel) la).mono ?_
  clear k1 k2 k3 k4
  rintro e w4 ⟨rfl, hb4⟩
  replace hb := hb.trans (hb4.mono hb.size)
  replace hR := hR.below hb4 hR.lt
  obtain ⟨k1, k2, k3, k4⟩ := Two0.cells (hD.step hb).here
  go_wp2_with fail
  refine (rvalid_v (c := d) (hv.below (hD.step hb).bel) lb).mono ?_
  clear k1 k2 k3 k4
  rintro e w5 ⟨rfl, hb5⟩
  replace hb := hb.trans (hb5.mono hb.size)
  replace hR := hR.below hb5 hR.lt
  clear hb4 hb5
  go_upto_region 3 with (fail)
  rcases Nat.lt_or_ge 1024 (ln b16 (a - b).natAbs) with hl | hl
  · skip
    replace hb := hb.drew
    have hR' : WholeAt w5.drew (w.heap.size + 1 + 1) false (.slice none 0 0) := hR
    have hle := hb.size
    have tok0 : True := trivial
    go_region_held3 (fun w' => w'.cell? ⟨w.heap.size, 0, none⟩ = some (.bool s) ∧ w'.cell? ⟨w.heap.size, 1, none⟩ = some (.slice A n c) ∧ w'.cell? ⟨w.heap.size + 1, 0, none⟩ = some (.bool t) ∧ w'.cell? ⟨w.heap.size + 1, 1, none⟩ = some (.slice B m d))
      (exact Two0.cells (hD.step (by first | exact hb | ((repeat (first | exact hb | (refine Below.setCell ?_ ?_ _) | (refine Below.alloc ?_ ?_ _))) <;> (try dsimp only) <;> (repeat (first | rw [World.size_alloc] | rw [World.size_setCell] | rw [World.size_drew])) <;> omega))).here)
      (first
        | (have _t := tok0; go_at_call 54; refine (rneg_any (c := d) (hv.below (hD.step hb).bel)).mono ?_; rintro e w6 ⟨t6, rfl, hn6, hb6⟩; replace hR' := hR'.below hb6 hR'.lt; replace hb := hb.trans (hb6.mono hb.size); clear tok0 hb6; have tok1 : True := trivial)
        | (have _t := tok1; go_at_call 53; refine (rsum_any (c := c) (d := d) (ha.below (hD.step hb).bel) hn6 (by omega) (by omega)).mono ?_; rintro e w7 ⟨s7, A7, n7, c7, rfl, hv7, hp7, hb7⟩; rw [← Int.sub_eq_add_neg] at hv7; have hlt7 := hR'.lt; replace hR' := hR'.below hb7 hR'.lt; replace hb := hb.trans (hb7.mono hb.size); clear tok1 hb7 hn6; have tok2 : True := trivial)
        | (have _t := tok2; go_at_call 52; refine (rfits_no (c := c7) hv7 hl).mono ?_; rintro e w8 ⟨rfl, hb8⟩; replace hR' := hR'.below hb8 hR'.lt; replace hb := hb.trans (hb8.mono hb.size); have hs8 := hb.size; obtain ⟨r0, r1⟩ := hR'.cells; have g0 := hR'.frozen 0; have g1 := hR'.frozen 1; have hlt := hR'.lt; clear tok2 hb8; have tok3 : True := trivial))
    obtain ⟨hW, hbW⟩ := store_whole hR' (hD.step hb).bel (show w.heap.size ≤ w.heap.size + 1 + 1 by omega) false (.slice none 0 0)
    clear hv7 hp7
    have HW := Lib.hid hW
    clear hW r0 r1 g0 g1
    go_wp2_with fail
    have hW := HW.out
    clear HW
    generalize ((w8.setCell ⟨w.heap.size + 1 + 1, 0, none⟩ (.bool false)).setCell ⟨w.heap.size + 1 + 1, 1, none⟩ (.slice none 0 0)) = WW at *
    obtain ⟨y0, y1⟩ := hW.cells
    refine bodyPost_ret (v := .tuple #[.agg #[.bool false, .slice none 0 0], .int .i64 3]) (by simp [results, Tryd.results28, go_sem, y0, y1]) rfl ?_
    exact .inr ⟨hl, rfl, hbW⟩
  · skip
    replace hb := hb.drew
    have hR' : WholeAt w5.drew (w.heap.size + 1 + 1) false (.slice none 0 0) := hR
    have hle := hb.size
    have tok0 : True := trivial
    go_region_held3 (fun w' => w'.cell? ⟨w.heap.size, 0, none⟩ = some (.bool s) ∧ w'.cell? ⟨w.heap.size, 1, none⟩ = some (.slice A n c) ∧ w'.cell? ⟨w.heap.size + 1, 0, none⟩ = some (.bool t) ∧ w'.cell? ⟨w.heap.size + 1, 1, none⟩ = some (.slice B m d))
      (exact Two0.cells (hD.step (by first | exact hb | ((repeat (first | exact hb | (refine Below.setCell ?_ ?_ _) | (refine Below.alloc ?_ ?_ _))) <;> (try dsimp only) <;> (repeat (first | rw [World.size_alloc] | rw [World.size_setCell] | rw [World.size_drew])) <;> omega))).here)
      (first
        | (have _t := tok0; go_at_call 54; refine (rneg_any (c := d) (hv.below (hD.step hb).bel)).mono ?_; rintro e w6 ⟨t6, rfl, hn6, hb6⟩; replace hR' := hR'.below hb6 hR'.lt; replace hb := hb.trans (hb6.mono hb.size); clear tok0 hb6; have tok1 : True := trivial)
        | (have _t := tok1; go_at_call 53; refine (rsum_any (c := c) (d := d) (ha.below (hD.step hb).bel) hn6 (by omega) (by omega)).mono ?_; rintro e w7 ⟨s7, A7, n7, c7, rfl, hv7, hp7, hb7⟩; rw [← Int.sub_eq_add_neg] at hv7; have hlt7 := hR'.lt; replace hR' := hR'.below hb7 hR'.lt; replace hb := hb.trans (hb7.mono hb.size); clear tok1 hb7 hn6; have tok2 : True := trivial)
        | (have _t := tok2; go_at_call 52; refine (rfits_ok (c := c7) hv7 hl).mono ?_; rintro e w8 ⟨rfl, hv8, hb8⟩; replace hR' := hR'.below hb8 hR'.lt; replace hb := hb.trans (hb8.mono hb.size); have hs8 := hb.size; obtain ⟨r0, r1⟩ := hR'.cells; have g0 := hR'.frozen 0; have g1 := hR'.frozen 1; have hlt := hR'.lt; clear tok2 hb8; have tok3 : True := trivial))
    obtain ⟨hW, hbW⟩ := store_whole hR' (hD.step hb).bel (show w.heap.size ≤ w.heap.size + 1 + 1 by omega) s7 (.slice A7 n7 c7)
    have hfin := num_store hv8.2.2 (fun p hp => Nat.lt_of_lt_of_le hlt7 (hp7 p hp)) s7 (.slice A7 n7 c7)
    have hF2 : WV ((w8.setCell ⟨w.heap.size + 1 + 1, 0, none⟩ (.bool s7)).setCell ⟨w.heap.size + 1 + 1, 1, none⟩ (.slice A7 n7 c7)) (a - b) s7 A7 n7 := ⟨hv8.1, hv8.2.1, hfin⟩
    have HF := Lib.hid hF2
    clear hfin hF2 hv8 hv7 hp7
    have HW := Lib.hid hW
    clear hW r0 r1 g0 g1
    go_wp2_with fail
    have hW := HW.out
    clear HW
    generalize ((w8.setCell ⟨w.heap.size + 1 + 1, 0, none⟩ (.bool s7)).setCell ⟨w.heap.size + 1 + 1, 1, none⟩ (.slice A7 n7 c7)) = WW at *
    obtain ⟨y0, y1⟩ := hW.cells
    refine bodyPost_ret (v := .tuple #[.agg #[.bool s7, .slice A7 n7 c7], .int .i64 0]) (by simp [results, Tryd.results28, go_sem, y0, y1]) rfl ?_
    exact .inl ⟨hl, s7, A7, n7, c7, rfl, HF.out, hbW⟩
end Go.Proofs.YtafglggjncnkkaaDoor
namespace Go.Proofs.YtafglggjncnkkaaDoor
open Go.RowKit

set_option linter.unusedSimpArgs false in
set_option maxRecDepth 100000 in
set_option maxHeartbeats 2000000 in
theorem radd_v {a b : Int} {s t : Bool} {A B : Option Addr} {n m c d : Nat} {w : World} (ha : WV w a s A n) (hv : WV w b t B m) (la : n ≤ 1024) (lb : m ≤ 1024) :
    Calls Tryd.prog 27 #[.agg #[.bool s, .slice A n c], .agg #[.bool t, .slice B m d]] w (RefR (a + b) w) := by
  have hD := Env.two w s t A B n m c d
  have hz2 : ((w.alloc (.cells #[.bool s, .slice A n c] 24)).alloc (.cells #[.bool t, .slice B m d] 24)).heap.size = w.heap.size + 1 + 1 := by simp
  obtain ⟨W2, hW2⟩ : ∃ W2, W2 = (w.alloc (.cells #[.bool s, .slice A n c] 24)).alloc (.cells #[.bool t, .slice B m d] 24) := ⟨_, rfl⟩
  rw [← hW2] at hD hz2
  have hb := (belSelf2 hD).alloc (Nat.le_refl _) (.cells #[.bool false, .slice none 0 0] 24)
  have hR := WholeAt.new W2 false (.slice none 0 0)
  rw [hz2] at hR
  obtain ⟨W3, hW3⟩ : ∃ W3, W3 = W2.alloc (.cells #[.bool false, .slice none 0 0] 24) := ⟨_, rfl⟩
  rw [← hW3] at hb hR
  have HW2 := Lib.hid hW2
  have HW3 := Lib.hid hW3
  clear hW2 hW3
  go_enter Tryd.func27, Tryd.ntmps27
  go_upto_region 1 with (fail)
  rw [← HW2.out, ← HW3.out]
  obtain ⟨k1, k2, k3, k4⟩ := Two0.cells (hD.step hb).here
  go_wp2_with fail
  refine (rvalid_v (c := c) (ha.below (hD.step hb).bel) la).mono ?_
  clear k1 k2 k3 k4
  rintro e w4 ⟨rfl, hb4⟩
  replace hb := hb.trans (hb4.mono hb.size)
  replace hR := hR.below hb4 hR.lt
  obtain ⟨k1, k2, k3, k4⟩ := Two0.cells (hD.step hb).here
  go_wp2_with fail
  refine (rvalid_v (c := d) (hv.below (hD.step hb).bel) lb).mono ?_
  clear k1 k2 k3 k4
  rintro e w5 ⟨rfl, hb5⟩
  replace hb := hb.trans (hb5.mono hb.size)
  replace hR := hR.below hb5 hR.lt
  obtain ⟨k1, k2, k3, k4⟩ := Two0.cells (hD.step hb).here
  go_wp2_with fail
  refine (rsum_any (c := c) (d := d) (ha.below (hD.step hb).bel) (hv.below (hD.step hb).bel) (by omega) (by omega)).mono ?_
  clear k1 k2 k3 k4
  rintro e w6 ⟨s6, A6, n6, c6, rfl, hv6, hp6, hb6⟩
  have hlt6 := hR.lt
  replace hb := hb.trans (hb6.mono hb.size)
  replace hR := hR.below hb6 hR.lt
  go_wp2_with fail
  refine (rfits_any (c := c6) hv6).mono ?_
  rintro e w7 (⟨hl, rfl, hv7, hb7⟩ | ⟨hl, rfl, hb7⟩)
  · replace hb := hb.trans (hb7.mono hb.size)
    replace hR := hR.below hb7 hR.lt
    obtain ⟨r0, r1⟩ := hR.cells
    have g0 := hR.frozen 0
    have g1 := hR.frozen 1
    obtain ⟨hW, hbW⟩ := store_whole hR (hD.step hb).bel (show w.heap.size ≤ w.heap.size + 1 + 1 by omega) s6 (.slice A6 n6 c6)
    have hfin := num_store hv7.2.2 (fun p hp => Nat.lt_of_lt_of_le hlt6 (hp6 p hp)) s6 (.slice A6 n6 c6)
    have HW := Lib.hid hW
    have HF := Lib.hid hfin
    have HV := Lib.hid hv7
    clear hW hfin hv7 hv6 hp6
    go_wp2_with fail
    have hW := HW.out
    have hfin := HF.out
    generalize ((w7.setCell ⟨w.heap.size + 1 + 1, 0, none⟩ (.bool s6)).setCell ⟨w.heap.size + 1 + 1, 1, none⟩ (.slice A6 n6 c6)) = WW at *
    obtain ⟨y0, y1⟩ := hW.cells
    refine bodyPost_ret (v := .tuple #[.agg #[.bool s6, .slice A6 n6 c6], .int .i64 0]) (by simp [results, Tryd.results27, go_sem, y0, y1]) rfl ?_
    exact .inl ⟨hl, s6, A6, n6, c6, rfl, ⟨HV.out.1, HV.out.2.1, hfin⟩, hbW⟩
  · replace hb := hb.trans (hb7.mono hb.size)
    replace hR := hR.below hb7 hR.lt
    obtain ⟨r0, r1⟩ := hR.cells
    have g0 := hR.frozen 0
    have g1 := hR.frozen 1
    obtain ⟨hW, hbW⟩ := store_whole hR (hD.step hb).bel (show w.heap.size ≤ w.heap.size + 1 + 1 by omega) false (.slice none 0 0)
    have HW := Lib.hid hW
    clear hW hv6 hp6
    go_wp2_with fail
    have hW := HW.out
    generalize ((w7.setCell ⟨w.heap.size + 1 + 1, 0, none⟩ (.bool false)).setCell ⟨w.heap.size + 1 + 1, 1, none⟩ (.slice none 0 0)) = WW at *
    obtain ⟨y0, y1⟩ := hW.cells
    refine bodyPost_ret (v := .tuple #[.agg #[.bool false, .slice none 0 0], .int .i64 3]) (by simp [results, Tryd.results27, go_sem, y0, y1]) rfl ?_
    exact .inr ⟨hl, rfl, hbW⟩
set_option linter.unusedSimpArgs false in
set_option maxRecDepth 100000 in
set_option maxHeartbeats 2000000 in
theorem rmul_v {a b : Int} {s t : Bool} {A B : Option Addr} {n m c d : Nat} {w : World} (ha : WV w a s A n) (hv : WV w b t B m) (la : n ≤ 1024) (lb : m ≤ 1024) :
    Calls Tryd.prog 29 #[.agg #[.bool s, .slice A n c], .agg #[.bool t, .slice B m d]] w (RefR (a * b) w) := by
  have hD := Env.two w s t A B n m c d
  have hz2 : ((w.alloc (.cells #[.bool s, .slice A n c] 24)).alloc (.cells #[.bool t, .slice B m d] 24)).heap.size = w.heap.size + 1 + 1 := by simp
  obtain ⟨W2, hW2⟩ : ∃ W2, W2 = (w.alloc (.cells #[.bool s, .slice A n c] 24)).alloc (.cells #[.bool t, .slice B m d] 24) := ⟨_, rfl⟩
  rw [← hW2] at hD hz2
  have hb := (belSelf2 hD).alloc (Nat.le_refl _) (.cells #[.bool false, .slice none 0 0] 24)
  have hR := WholeAt.new W2 false (.slice none 0 0)
  rw [hz2] at hR
  obtain ⟨W3, hW3⟩ : ∃ W3, W3 = W2.alloc (.cells #[.bool false, .slice none 0 0] 24) := ⟨_, rfl⟩
  rw [← hW3] at hb hR
  have HW2 := Lib.hid hW2
  have HW3 := Lib.hid hW3
  clear hW2 hW3
  go_enter Tryd.func29, Tryd.ntmps29
  go_upto_region 1 with (fail)
  rw [← HW2.out, ← HW3.out]
  obtain ⟨k1, k2, k3, k4⟩ := Two0.cells (hD.step hb).here
  go_wp2_with fail
  refine (rvalid_v (c := c) (ha.below (hD.step hb).bel) la).mono ?_
  clear k1 k2 k3 k4
  rintro e w4 ⟨rfl, hb4⟩
  replace hb := hb.trans (hb4.mono hb.size)
  replace hR := hR.below hb4 hR.lt
  obtain ⟨k1, k2, k3, k4⟩ := Two0.cells (hD.step hb).here
  go_wp2_with fail
  refine (rvalid_v (c := d) (hv.below (hD.step hb).bel) lb).mono ?_
  clear k1 k2 k3 k4
  rintro e w5 ⟨rfl, hb5⟩
  replace hb := hb.trans (hb5.mono hb.size)
  replace hR := hR.below hb5 hR.lt
  obtain ⟨k1, k2, k3, k4⟩ := Two0.cells (hD.step hb).here
  go_wp2_with fail
  refine (rproduct_any (c := c) (d := d) (ha.below (hD.step hb).bel) (hv.below (hD.step hb).bel) (by omega) (by omega)).mono ?_
  clear k1 k2 k3 k4
  rintro e w6 ⟨s6, A6, n6, c6, rfl, hv6, hp6, hb6⟩
  have hlt6 := hR.lt
  replace hb := hb.trans (hb6.mono hb.size)
  replace hR := hR.below hb6 hR.lt
  go_wp2_with fail
  refine (rfits_any (c := c6) hv6).mono ?_
  rintro e w7 (⟨hl, rfl, hv7, hb7⟩ | ⟨hl, rfl, hb7⟩)
  · replace hb := hb.trans (hb7.mono hb.size)
    replace hR := hR.below hb7 hR.lt
    obtain ⟨r0, r1⟩ := hR.cells
    have g0 := hR.frozen 0
    have g1 := hR.frozen 1
    obtain ⟨hW, hbW⟩ := store_whole hR (hD.step hb).bel (show w.heap.size ≤ w.heap.size + 1 + 1 by omega) s6 (.slice A6 n6 c6)
    have hfin := num_store hv7.2.2 (fun p hp => Nat.lt_of_lt_of_le hlt6 (hp6 p hp)) s6 (.slice A6 n6 c6)
    have HW := Lib.hid hW
    have HF := Lib.hid hfin
    have HV := Lib.hid hv7
    clear hW hfin hv7 hv6 hp6
    go_wp2_with fail
    have hW := HW.out
    have hfin := HF.out
    generalize ((w7.setCell ⟨w.heap.size + 1 + 1, 0, none⟩ (.bool s6)).setCell ⟨w.heap.size + 1 + 1, 1, none⟩ (.slice A6 n6 c6)) = WW at *
    obtain ⟨y0, y1⟩ := hW.cells
    refine bodyPost_ret (v := .tuple #[.agg #[.bool s6, .slice A6 n6 c6], .int .i64 0]) (by simp [results, Tryd.results29, go_sem, y0, y1]) rfl ?_
    exact .inl ⟨hl, s6, A6, n6, c6, rfl, ⟨HV.out.1, HV.out.2.1, hfin⟩, hbW⟩
  · replace hb := hb.trans (hb7.mono hb.size)
    replace hR := hR.below hb7 hR.lt
    obtain ⟨r0, r1⟩ := hR.cells
    have g0 := hR.frozen 0
    have g1 := hR.frozen 1
    obtain ⟨hW, hbW⟩ := store_whole hR (hD.step hb).bel (show w.heap.size ≤ w.heap.size + 1 + 1 by omega) false (.slice none 0 0)
    have HW := Lib.hid hW
    clear hW hv6 hp6
    go_wp2_with fail
    have hW := HW.out
    generalize ((w7.setCell ⟨w.heap.size + 1 + 1, 0, none⟩ (.bool false)).setCell ⟨w.heap.size + 1 + 1, 1, none⟩ (.slice none 0 0)) = WW at *
    obtain ⟨y0, y1⟩ := hW.cells
    refine bodyPost_ret (v := .tuple #[.agg #[.bool false, .slice none 0 0], .int .i64 3]) (by simp [results, Tryd.results29, go_sem, y0, y1]) rfl ?_
    exact .inr ⟨hl, rfl, hbW⟩
end Go.Proofs.YtafglggjncnkkaaDoor
