/-
  Several texts in one: The range-function whole.downwards at words, and whole.long, which ranges over it.
-/
import Derived.RangeFuncNested
import Derived.RangeFuncBound
import Derived.RangeFuncCalls
import Derived.RangeFuncLeaves
import Derived.RangeFuncBox
import Derived.Shelf.Abstract
import Derived.Shelf.RegionOpen
import Derived.OwnWalkIn
import Derived.TacticsInMore
import Derived.LoopNIn
import Derived.LoopIn
import Derived.Test.YtjgihmmeimfheaaGreatK4
import Derived.Test.YtjgihmmeimfheaaGreatK3
namespace Go.Proofs.YtjgihmmeimfheaaGreat
open Go.RowKit Go.Shelf
attribute [local go_sem] Oper.semAt_some

/-- A number below a bound. -/
abbrev Bd (b : Nat) := { x : Nat // x < b }
/-- The first k of the numbers f (n - 1), .., f 0. -/
def dn (b : Nat) (f : Nat → Nat) (hf : ∀ i, f i < b) (n k : Nat) : List (Bd b) := (List.range k).map fun j => ⟨f (n - 1 - j), hf _⟩
theorem dn_succ (b : Nat) (f : Nat → Nat) (hf : ∀ i, f i < b) (n k : Nat) : dn b f hf n (k + 1) = dn b f hf n k ++ [⟨f (n - 1 - k), hf _⟩] := by simp [dn, List.range_succ]
theorem dn_length (b : Nat) (f : Nat → Nat) (hf : ∀ i, f i < b) (n k : Nat) : (dn b f hf n k).length = k := by simp [dn]
/-- Its value: each further digit is the least significant one. -/
def dval (B : Nat) {b : Nat} (l : List (Bd b)) : Nat := l.foldl (fun s x => s * B + x.1) 0
theorem dval_snoc (B : Nat) {b : Nat} (l : List (Bd b)) (x : Bd b) : dval B (l ++ [x]) = dval B l * B + x.1 := by simp [dval]
theorem dval_dn (B b : Nat) (f : Nat → Nat) (hf : ∀ i, f i < b) (n k : Nat) (hk : k ≤ n) : dval B (dn b f hf n k) = vs B (fun i => f (n - k + i)) k := by
 induction k with
 | zero => rfl
 | succ k ih =>
  rw [dn_succ, dval_snoc, ih (by omega), vs_first, Nat.mul_comm, Nat.add_comm]
  congr 1
  · rw [show n - 1 - k = n - (k + 1) + 0 by omega]
  ·
   congr 1
   exact vs_congr fun i _ => by rw [show n - k + i = n - (k + 1) + (i + 1) by omega]
theorem dval_all (B b : Nat) (f : Nat → Nat) (hf : ∀ i, f i < b) (n : Nat) : dval B (dn b f hf n n) = vs B f n := by
 rw [dval_dn B b f hf n n (Nat.le_refl _)]
 exact vs_congr fun i _ => by rw [Nat.sub_self, Nat.zero_add]
theorem dval_lt {B b : Nat} (hb : b ≤ B) (l : List (Bd b)) : dval B l < B ^ l.length := by
 rw [← List.reverse_reverse l]
 generalize l.reverse = m
 induction m with
 | nil => simp [dval]
 | cons x m ih =>
  rw [List.reverse_cons, dval_snoc, List.length_append, List.length_singleton, Nat.pow_succ]
  have h1 : (dval B m.reverse + 1) * B ≤ B ^ m.reverse.length * B := Nat.mul_le_mul_right _ ih
  have h2 := x.2
  rw [Nat.add_mul, Nat.one_mul] at h1
  omega

/-- What a round keeps: all below block n₀, and the iterator's own box. -/
def KpB (n₀ Bs : Nat) (W W' : World) : Prop := Below n₀ W W' ∧ W'.heap[Bs]? = W.heap[Bs]?
theorem KpB.t {n₀ Bs : Nat} {A B C : World} (h : KpB n₀ Bs A B) (k : KpB n₀ Bs B C) : KpB n₀ Bs A C := ⟨h.1.trans k.1, k.2.trans h.2⟩
theorem KpB.b {n₀ Bs : Nat} {w : World} (hn : n₀ ≤ w.heap.size) (hB : Bs < w.heap.size) (W : World) (l : Nat) (o o' : Obj) (hl : w.heap.size ≤ l) (h : W.heap[l]? = some o) (h1 : o.isCells = false) (h2 : o.isWalk = false) : KpB n₀ Bs W (W.putObj l o') :=
 ⟨belowK_b hn W l o o' hl h h1 h2, World.putObj_heap_other (by omega)⟩
theorem KpB.cell {n₀ Bs : Nat} {W W' : World} (h : KpB n₀ Bs W W') : W'.cell? ⟨Bs, 0, none⟩ = W.cell? ⟨Bs, 0, none⟩ := World.cell?_of_block (w := W) h.2

set_option maxRecDepth 100000 in
set_option maxHeartbeats 2000000 in
theorem down1_in (F : Fence) (m : Nat) (hg : F.fn 172) (hro : F.round = none) (hm : 1 ≤ m) (l Bs n₀ n c : Nat) (A : Option Addr) (f : Nat → Nat) (hf : ∀ i, f i < 4294967296) (hn : n ≤ 1000000) (J Jx : List (Bd 4294967296) → World → Prop)
  (hY : ∀ pre x W, J pre W → pre.length < n → YieldAt F (m - 1) Tryz.prog l #[.int .u32 ((x : Bd 4294967296).1 : Int)] W fun e W' =>
   (e = .returned (.bool true) ∧ J (pre ++ [x]) W' ∧ KpB n₀ Bs W W') ∨ (e = .returned (.bool false) ∧ Jx (pre ++ [x]) W'))
  (W : World) (hBs : W.cell? ⟨Bs, 0, none⟩ = some (.slice A n c)) (hc : Rd n₀ .u32 W A n f) (h0 : J [] W) :
  CallsIn F m Tryz.prog 172 #[.func (.yield l) #[] #[], .pointer (some ⟨Bs, 0, none⟩)] W fun e W' => (∃ v, e = .returned v) ∧
   ((∃ ys, ys = dn 4294967296 f hf n n ∧ J ys W') ∨ (∃ pre, (∃ k, k ≤ n ∧ pre = dn 4294967296 f hf n k) ∧ Jx pre W')) := by
 refine callsIn_of_wp Tryz.func172 rfl hg ?_ hro
 simp only [Tryz.ntmps172, List.size_toArray, List.length_cons, List.length_nil, Nat.reduceAdd, Nat.reduceSub, Array.replicate_succ, Array.replicate_zero, List.push_toArray, List.append_toArray, List.nil_append, List.cons_append]
 gi_wp2
 gi_loopw [3] (fun i wr => ∃ k : Nat, k ≤ n ∧ i = .int .i64 ((n : Int) - k - 1) ∧ J (dn 4294967296 f hf n k) wr ∧ KpB n₀ Bs W wr)
  (fun i _ => (intOf i + 1).toNat)
 case atStart => exact ⟨0, Nat.zero_le _, by simp, h0, Below.refl _ _, rfl⟩
 case round =>
  obtain ⟨k, hk, rfl, hJs, hnx⟩ := hrel
  have hbs := hnx.cell.trans hBs
  by_cases hlt : k < n
  ·
   obtain ⟨b, o, rfl, hb, hcc⟩ := hc (by omega)
   obtain ⟨fn, tmps, assign, body, hy, hR⟩ := hY _ (⟨f (n - 1 - k), hf _⟩) wr hJs (by rw [dn_length]; exact hlt)
   dsimp only at hy
   have hcx := (hnx.1.cell (p := ⟨b, o + (n - 1 - k), none⟩) hb).trans (hcc (n - 1 - k) (by omega))
   have ek : ((n : Int) - k - 1) = ((n - 1 - k : Nat) : Int) := by omega
   rw [ek]
   clear ek
   gi_wp2
   refine hR.mono ?_
   rintro e W3 (⟨rfl, hJ3, hk3⟩ | ⟨rfl, hJx3⟩)
   ·
    have hbs3 := hk3.cell.trans hbs
    gi_wp2
    go_roundw
    case rel => exact ⟨k + 1, by omega, by congr 1; omega, by rw [dn_succ]; exact hJ3, hnx.t hk3⟩
    case measure => simp [intOf] <;> omega
   ·
    gi_wp2
    refine bodyPost_ret (results_none rfl _ _ _) rfl ?_
    exact ⟨⟨_, rfl⟩, .inr ⟨_, ⟨k + 1, by omega, (dn_succ ..).symm⟩, hJx3⟩⟩
  ·
   obtain rfl : k = n := by omega
   rw [show (k : Int) - k - 1 = -1 by omega]
   gi_wp2
   go_end0
   exact ⟨⟨_, rfl⟩, .inl ⟨_, rfl, hJs⟩⟩

set_option maxHeartbeats 1000000 in
theorem down_in (F : Fence) (m : Nat) (hg : F.fn 170) (hro : F.round = none) (a : Option Addr) (len cap : Nat) (w : World) :
  CallsIn F m Tryz.prog 170 #[.slice a len cap] w fun e w' => e = .returned (.func (.func 172) #[] #[.pointer (some ⟨w.heap.size, 0, none⟩)]) ∧ w' = w.alloc (.cells #[.slice a len cap] 118) := by
 refine callsIn_of_wp Tryz.func170 rfl hg ?_ hro
 simp only [Tryz.ntmps170, List.size_toArray, List.length_cons, List.length_nil, Nat.reduceAdd, Nat.reduceSub, Array.replicate_succ, Array.replicate_zero, List.push_toArray, List.append_toArray, List.nil_append, List.cons_append]
 gi_wp2
 go_ret
 exact ⟨rfl, rfl⟩

theorem down_stops (F : Fence) (m : Nat) (hg : F.fn 172) (hro : F.round = none) (hm : 1 ≤ m) (Bs n₀ n c : Nat) (A : Option Addr) (f : Nat → Nat) (hf : ∀ i, f i < 4294967296) (hn : n ≤ 1000000) (w : World) (hBs : Bs < w.heap.size) (hn₀ : n₀ ≤ w.heap.size)
  (hc : w.cell? ⟨Bs, 0, none⟩ = some (.slice A n c)) (hI : Rd n₀ .u32 w A n f) :
  SeqStopsK F m Tryz.prog 172 #[.pointer (some ⟨Bs, 0, none⟩)] (fun x : Bd 4294967296 => #[Value.int .u32 (x.1 : Int)]) (KpB n₀ Bs) (fun ys => ys = dn 4294967296 f hf n n) (fun pre => ∃ k, k ≤ n ∧ pre = dn 4294967296 f hf n k) n w := fun l J Jx W hW _ _ hY h0 => by
 have hc' := (hW.cell (p := ⟨Bs, 0, none⟩) hBs).trans hc
 exact down1_in F m hg hro hm l Bs n₀ n c A f hf hn J Jx hY W hc' (hI.below (hW.mono hn₀)) h0

set_option maxRecDepth 100000 in
set_option maxHeartbeats 2000000 in
/-- long: the value of at most two words. -/
theorem long_walk (A : Option Addr) (n c : Nat) (f : Nat → Nat) (hf : ∀ i, f i < 4294967296) (w : World) (hx : Rd w.heap.size .u32 w A n f) (hn : n ≤ 2) :
  Calls Tryz.prog 162 #[.slice A n c] w fun e w' => e = .returned (.int .u64 ((vs b32 f n : Nat) : Int)) ∧ Below w.heap.size w w' := by
 refine (callsIn_wide (n := 5)).1 ?_
 have hro : Fence.wide.round = none := rfl
 refine callsIn_of_wp_marks Tryz.func162 rfl trivial ?_ hro
 simp only [Tryz.ntmps162, List.size_toArray, List.length_cons, List.length_nil, Nat.reduceAdd, Nat.reduceSub, Array.replicate_succ, Array.replicate_zero, List.push_toArray, List.append_toArray, List.nil_append, List.cons_append]
 gi_wp2_with (refine ⟨trivial, ?_⟩; gi_at_call 170; refine (down_in Fence.wide (5 - 1) trivial hro _ _ _ _).mono ?_; rintro e w' ⟨rfl, rfl⟩)
 have bS := Boxed.new w 121 (.int .u64 0)
 have bN := Boxed.new (w.alloc (.cells #[.int .u64 0] 121)) 118 (.slice A n c)
 rw [World.size_alloc] at bN
 have hB0 : Below w.heap.size w ((w.alloc (.cells #[.int .u64 0] 121)).alloc (.cells #[.slice A n c] 118)) := ((Below.refl _ w).alloc (Nat.le_refl _) _).alloc (by simp) _
 refine wpIn_rangeFunc_ownG hro (by decide) (gf := 172) (lb := #[.pointer (some ⟨w.heap.size + 1, 0, none⟩)]) rfl trivial (enters_of Tryz.func172 (by kernel_rfl) rfl)
  (down_stops Fence.wide (5 - 1) trivial hro (by decide) (w.heap.size + 1) w.heap.size n c A f hf (by omega) _ (by simp) (by simp; omega) bN.cell (hx.below hB0)) KpB.t (KpB.b (by simp; omega) (by simp)) (Below.refl _ _) (fun _ => rfl)
  (fun pre W => (W.cell? ⟨w.heap.size, 0, none⟩ = some (.int .u64 ((dval b32 pre : Nat) : Int)) ∧ W.frozen? ⟨w.heap.size, 0, none⟩ = false) ∧ Below w.heap.size w W)
  (fun _ _ _ => False)
  (OwnFrom.and (Own.from (fun s A B row hs hg hr => ⟨cell_kept hs.1 hg hr, (frozen_kept hs.1 hg hr).trans hs.2⟩) _) (ownFrom_below (Nat.le_refl _) (by simp; omega)))
  (fun _ _ _ _ _ hs _ _ => hs)
  ⟨⟨(bS.alloc _).cell, (bS.alloc _).frozen⟩, hB0⟩
  (fun x => { tmps := #[.slice A n c, undef, .int .u64 0, .pointer (some ⟨w.heap.size, 0, none⟩), .int .u32 (x.1 : Int), .slice A n c, .func (.func 172) #[] #[.pointer (some ⟨w.heap.size + 1, 0, none⟩)], .int .u32 (x.1 : Int), undef, undef, undef, undef, undef, undef], defers := [] }) ?assign ?body ?done ?stop
 case assign =>
  intro l x W K hK
  gi_wp2
  exact hK
 case body =>
  rintro l pre x W ⟨⟨hc, hf⟩, hB⟩ hl
  have h1 := dval_lt (B := b32) (b := 4294967296) (Nat.le_refl _) pre
  have hv : dval b32 pre < 4294967296 := Nat.lt_of_lt_of_le h1 (Nat.pow_le_pow_right (by decide) (show pre.length ≤ 1 by omega))
  have h2 := x.2
  have o1 := u64_or_add hv h2
  obtain ⟨X, hX⟩ : ∃ X, X = 4294967296 * dval b32 pre + x.1 := ⟨_, rfl⟩
  rw [← hX, show ((4294967296 * dval b32 pre : Nat) : Int) = (dval b32 pre : Int) * 4294967296 by omega] at o1
  have HX := Lib.hid hX
  clear hX h1
  gi_wp2
  refine ⟨(KeepsOthers.setCell _ _ _).from _, ⟨(Below.refl w.heap.size W).setCell (p := ⟨w.heap.size, 0, none⟩) (Nat.le_refl _) _, Below.heap_setCell _ _ _ _ (by simp)⟩, ⟨?_, by rw [World.frozen?_setCell]; exact hf⟩, hB.setCell (p := ⟨w.heap.size, 0, none⟩) (Nat.le_refl _) _⟩
  have e : dval b32 (pre ++ [x]) = X := by rw [dval_snoc, HX.out, Nat.mul_comm]; rfl
  rw [e]
  exact World.cell?_setCell_same' _ _ _ (by rw [hc]; rfl)
 case done =>
  rintro D ys W hD rfl ⟨⟨hc, _⟩, hB⟩ hK
  rw [dval_all] at hc
  gi_wp2
  refine ⟨by simp, .inl ⟨_, _, rfl, run_takeDeferred hK, ?_⟩⟩
  exact ⟨_, results_tmp rfl _ _ _, rfl, hB.trans (belowK_b (w := w) (Nat.le_refl _) W D _ _ (by simp at hD; omega) hK rfl rfl)⟩
 case stop =>
  rintro D c pre W _ _ h _
  exact h.elim
theorem long_any (A : Option Addr) (c x : Nat) (w : World) (hx : Num32 w A x) (hn : ln b32 x ≤ 2) :
  Calls Tryz.prog 162 #[.slice A (ln b32 x) c] w fun e w' => e = .returned (.int .u64 ((x : Nat) : Int)) ∧ Below w.heap.size w w' := by
 have h := long_walk A (ln b32 x) c (dgt b32 x) (fun i => dgt32_lt x i) w hx hn
 rw [vs_dgt_ln b32_two] at h
 exact h
end Go.Proofs.YtjgihmmeimfheaaGreat
