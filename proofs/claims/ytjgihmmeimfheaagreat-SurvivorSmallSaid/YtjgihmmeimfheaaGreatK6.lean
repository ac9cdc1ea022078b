/-
  Several texts in one: The range-function whole.downwards at words, and whole.long, which ranges over it. The plain laws between the walks of survivor and the laws of dividing: the claims with a weight, sorted; lengths. The lengths of the fractions that survivor reckons with.
-/
import Derived.RangeFuncNested
import Derived.RangeFuncBound
import Derived.RangeFuncCalls
import Derived.RangeFuncLeaves
import Derived.RangeFuncBox
import Derived.Shelf.Abstract
import Derived.Shelf.RegionOpen
import Derived.OwnWalkIn
import Derived.TacticsInMore
import Derived.LoopNIn
import Derived.LoopIn
import Derived.Test.YtjgihmmeimfheaaGreatK1
set_option maxRecDepth 100000
set_option maxHeartbeats 2000000
namespace Go.Proofs.YtjgihmmeimfheaaGreat
section
open Go.RowKit Go.Shelf
attribute [local go_sem] Oper.semAt_some

abbrev Bd (b : Nat) := { x : Nat // x < b }
def dn (b : Nat) (f : Nat → Nat) (hf : ∀ i, f i < b) (n k : Nat) : List (Bd b) := (List.range k).map fun j => ⟨f (n - 1 - j), hf _⟩
theorem dn_succ (b : Nat) (f : Nat → Nat) (hf : ∀ i, f i < b) (n k : Nat) : dn b f hf n (k + 1) = dn b f hf n k ++ [⟨f (n - 1 - k), hf _⟩] := by simp [dn, List.range_succ]
theorem dn_length (b : Nat) (f : Nat → Nat) (hf : ∀ i, f i < b) (n k : Nat) : (dn b f hf n k).length = k := by simp [dn]
def dval (B : Nat) {b : Nat} (l : List (Bd b)) : Nat := l.foldl (fun s x => s * B + x.1) 0
theorem dval_snoc (B : Nat) {b : Nat} (l : List (Bd b)) (x : Bd b) : dval B (l ++ [x]) = dval B l * B + x.1 := by simp [dval]
theorem dval_dn (B b : Nat) (f : Nat → Nat) (hf : ∀ i, f i < b) (n k : Nat) (hk : k ≤ n) : dval B (dn b f hf n k) = vs B (fun i => f (n - k + i)) k := by
 induction k with
 | zero => rfl
 | succ k ih =>
  rw [dn_succ, dval_snoc, ih (by omega), vs_first, Nat.mul_comm, Nat.add_comm]
  congr 1
  · rw [show n - 1 - k = n - (k + 1) + 0 by omega]
  ·
   congr 1
   exact vs_congr fun i _ => by rw [show n - k + i = n - (k + 1) + (i + 1) by omega]
theorem dval_all (B b : Nat) (f : Nat → Nat) (hf : ∀ i, f i < b) (n : Nat) : dval B (dn b f hf n n) = vs B f n := by
 rw [dval_dn B b f hf n n (Nat.le_refl _)]
 exact vs_congr fun i _ => by rw [Nat.sub_self, Nat.zero_add]
theorem dval_lt {B b : Nat} (hb : b ≤ B) (l : List (Bd b)) : dval B l < B ^ l.length := by
 rw [← List.reverse_reverse l];generalize l.reverse = m
 induction m with
 | nil => simp [dval]
 | cons x m ih =>
  rw [List.reverse_cons, dval_snoc, List.length_append, List.length_singleton, Nat.pow_succ];have h1 : (dval B m.reverse + 1) * B ≤ B ^ m.reverse.length * B := Nat.mul_le_mul_right _ ih;have h2 := x.2;rw [Nat.add_mul, Nat.one_mul] at h1;omega

def KpB (n₀ Bs : Nat) (W W' : World) : Prop := Below n₀ W W' ∧ W'.heap[Bs]? = W.heap[Bs]?
theorem KpB.t {n₀ Bs : Nat} {A B C : World} (h : KpB n₀ Bs A B) (k : KpB n₀ Bs B C) : KpB n₀ Bs A C := ⟨h.1.trans k.1, k.2.trans h.2⟩
theorem KpB.b {n₀ Bs : Nat} {w : World} (hn : n₀ ≤ w.heap.size) (hB : Bs < w.heap.size) (W : World) (l : Nat) (o o' : Obj) (hl : w.heap.size ≤ l) (h : W.heap[l]? = some o) (h1 : o.isCells = false) (h2 : o.isWalk = false) : KpB n₀ Bs W (W.putObj l o') :=
 ⟨belowK_b hn W l o o' hl h h1 h2, World.putObj_heap_other (by omega)⟩
theorem KpB.cell {n₀ Bs : Nat} {W W' : World} (h : KpB n₀ Bs W W') : W'.cell? ⟨Bs, 0, none⟩ = W.cell? ⟨Bs, 0, none⟩ := World.cell?_of_block (w := W) h.2

theorem down1_in (F : Fence) (m : Nat) (hg : F.fn 172) (hro : F.round = none) (hm : 1 ≤ m) (l Bs n₀ n c : Nat) (A : Option Addr) (f : Nat → Nat) (hf : ∀ i, f i < 4294967296) (hn : n ≤ 1000000) (J Jx : List (Bd 4294967296) → World → Prop)
  (hY : ∀ pre x W, J pre W → pre.length < n → YieldAt F (m - 1) Tryz.prog l #[.int .u32 ((x : Bd 4294967296).1 : Int)] W fun e W' =>
   (e = .returned (.bool true) ∧ J (pre ++ [x]) W' ∧ KpB n₀ Bs W W') ∨ (e = .returned (.bool false) ∧ Jx (pre ++ [x]) W'))
  (W : World) (hBs : W.cell? ⟨Bs, 0, none⟩ = some (.slice A n c)) (hc : Rd n₀ .u32 W A n f) (h0 : J [] W) :
  CallsIn F m Tryz.prog 172 #[.func (.yield l) #[] #[], .pointer (some ⟨Bs, 0, none⟩)] W fun e W' => (∃ v, e = .returned v) ∧
   ((∃ ys, ys = dn 4294967296 f hf n n ∧ J ys W') ∨ (∃ pre, (∃ k, k ≤ n ∧ pre = dn 4294967296 f hf n k) ∧ Jx pre W')) := by
 refine callsIn_of_wp Tryz.func172 rfl hg ?_ hro;simp only [Tryz.ntmps172, List.size_toArray, List.length_cons, List.length_nil, Nat.reduceAdd, Nat.reduceSub, Array.replicate_succ, Array.replicate_zero, List.push_toArray, List.append_toArray, List.nil_append, List.cons_append]
 gi_wp2
 gi_loopw [3] (fun i wr => ∃ k : Nat, k ≤ n ∧ i = .int .i64 ((n : Int) - k - 1) ∧ J (dn 4294967296 f hf n k) wr ∧ KpB n₀ Bs W wr)
  (fun i _ => (intOf i + 1).toNat)
 case atStart => exact ⟨0, Nat.zero_le _, by simp, h0, Below.refl _ _, rfl⟩
 case round =>
  obtain ⟨k, hk, rfl, hJs, hnx⟩ := hrel;have hbs := hnx.cell.trans hBs
  by_cases hlt : k < n
  ·
   obtain ⟨b, o, rfl, hb, hcc⟩ := hc (by omega);obtain ⟨fn, tmps, assign, body, hy, hR⟩ := hY _ (⟨f (n - 1 - k), hf _⟩) wr hJs (by rw [dn_length]; exact hlt)
   dsimp only at hy
   have hcx := (hnx.1.cell (p := ⟨b, o + (n - 1 - k), none⟩) hb).trans (hcc (n - 1 - k) (by omega))
   have ek : ((n : Int) - k - 1) = ((n - 1 - k : Nat) : Int) := by omega
   rw [ek];clear ek
   gi_wp2
   refine hR.mono ?_
   rintro e W3 (⟨rfl, hJ3, hk3⟩ | ⟨rfl, hJx3⟩)
   ·
    have hbs3 := hk3.cell.trans hbs
    gi_wp2
    go_roundw
    case rel => exact ⟨k + 1, by omega, by congr 1; omega, by rw [dn_succ]; exact hJ3, hnx.t hk3⟩
    case measure => simp [intOf] <;> omega
   ·
    gi_wp2
    refine bodyPost_ret (results_none rfl _ _ _) rfl ?_;exact ⟨⟨_, rfl⟩, .inr ⟨_, ⟨k + 1, by omega, (dn_succ ..).symm⟩, hJx3⟩⟩
  ·
   obtain rfl : k = n := by omega
   rw [show (k : Int) - k - 1 = -1 by omega]
   gi_wp2
   go_end0
   exact ⟨⟨_, rfl⟩, .inl ⟨_, rfl, hJs⟩⟩

theorem down_in (F : Fence) (m : Nat) (hg : F.fn 170) (hro : F.round = none) (a : Option Addr) (len cap : Nat) (w : World) :
  CallsIn F m Tryz.prog 170 #[.slice a len cap] w fun e w' => e = .returned (.func (.func 172) #[] #[.pointer (some ⟨w.heap.size, 0, none⟩)]) ∧ w' = w.alloc (.cells #[.slice a len cap] 118) := by
 refine callsIn_of_wp Tryz.func170 rfl hg ?_ hro;simp only [Tryz.ntmps170, List.size_toArray, List.length_cons, List.length_nil, Nat.reduceAdd, Nat.reduceSub, Array.replicate_succ, Array.replicate_zero, List.push_toArray, List.append_toArray, List.nil_append, List.cons_append]
 gi_wp2
 go_ret
 exact ⟨rfl, rfl⟩

theorem down_stops (F : Fence) (m : Nat) (hg : F.fn 172) (hro : F.round = none) (hm : 1 ≤ m) (Bs n₀ n c : Nat) (A : Option Addr) (f : Nat → Nat) (hf : ∀ i, f i < 4294967296) (hn : n ≤ 1000000) (w : World) (hBs : Bs < w.heap.size) (hn₀ : n₀ ≤ w.heap.size)
  (hc : w.cell? ⟨Bs, 0, none⟩ = some (.slice A n c)) (hI : Rd n₀ .u32 w A n f) :
  SeqStopsK F m Tryz.prog 172 #[.pointer (some ⟨Bs, 0, none⟩)] (fun x : Bd 4294967296 => #[Value.int .u32 (x.1 : Int)]) (KpB n₀ Bs) (fun ys => ys = dn 4294967296 f hf n n) (fun pre => ∃ k, k ≤ n ∧ pre = dn 4294967296 f hf n k) n w := fun l J Jx W hW _ _ hY h0 => by
 have hc' := (hW.cell (p := ⟨Bs, 0, none⟩) hBs).trans hc;exact down1_in F m hg hro hm l Bs n₀ n c A f hf hn J Jx hY W hc' (hI.below (hW.mono hn₀)) h0

theorem long_walk (A : Option Addr) (n c : Nat) (f : Nat → Nat) (hf : ∀ i, f i < 4294967296) (w : World) (hx : Rd w.heap.size .u32 w A n f) (hn : n ≤ 2) :
  Calls Tryz.prog 162 #[.slice A n c] w fun e w' => e = .returned (.int .u64 ((vs b32 f n : Nat) : Int)) ∧ Below w.heap.size w w' := by
 refine (callsIn_wide (n := 5)).1 ?_;have hro : Fence.wide.round = none := rfl;refine callsIn_of_wp_marks Tryz.func162 rfl trivial ?_ hro;simp only [Tryz.ntmps162, List.size_toArray, List.length_cons, List.length_nil, Nat.reduceAdd, Nat.reduceSub, Array.replicate_succ, Array.replicate_zero, List.push_toArray, List.append_toArray, List.nil_append, List.cons_append]
 gi_wp2_with (refine ⟨trivial, ?_⟩; gi_at_call 170; refine (down_in Fence.wide (5 - 1) trivial hro _ _ _ _).mono ?_; rintro e w' ⟨rfl, rfl⟩)
 have bS := Boxed.new w 121 (.int .u64 0);have bN := Boxed.new (w.alloc (.cells #[.int .u64 0] 121)) 118 (.slice A n c);rw [World.size_alloc] at bN;have hB0 : Below w.heap.size w ((w.alloc (.cells #[.int .u64 0] 121)).alloc (.cells #[.slice A n c] 118)) := ((Below.refl _ w).alloc (Nat.le_refl _) _).alloc (by simp) _
 refine wpIn_rangeFunc_ownG hro (by decide) (gf := 172) (lb := #[.pointer (some ⟨w.heap.size + 1, 0, none⟩)]) rfl trivial (enters_of Tryz.func172 (by kernel_rfl) rfl)
  (down_stops Fence.wide (5 - 1) trivial hro (by decide) (w.heap.size + 1) w.heap.size n c A f hf (by omega) _ (by simp) (by simp; omega) bN.cell (hx.below hB0)) KpB.t (KpB.b (by simp; omega) (by simp)) (Below.refl _ _) (fun _ => rfl)
  (fun pre W => (W.cell? ⟨w.heap.size, 0, none⟩ = some (.int .u64 ((dval b32 pre : Nat) : Int)) ∧ W.frozen? ⟨w.heap.size, 0, none⟩ = false) ∧ Below w.heap.size w W)
  (fun _ _ _ => False)
  (OwnFrom.and (Own.from (fun s A B row hs hg hr => ⟨cell_kept hs.1 hg hr, (frozen_kept hs.1 hg hr).trans hs.2⟩) _) (ownFrom_below (Nat.le_refl _) (by simp; omega)))
  (fun _ _ _ _ _ hs _ _ => hs)
  ⟨⟨(bS.alloc _).cell, (bS.alloc _).frozen⟩, hB0⟩
  (fun x => { tmps := #[.slice A n c, undef, .int .u64 0, .pointer (some ⟨w.heap.size, 0, none⟩), .int .u32 (x.1 : Int), .slice A n c, .func (.func 172) #[] #[.pointer (some ⟨w.heap.size + 1, 0, none⟩)], .int .u32 (x.1 : Int), undef, undef, undef, undef, undef, undef], defers := [] }) ?assign ?body ?done ?stop
 case assign =>
  intro l x W K hK
  gi_wp2
  exact hK
 case body =>
  rintro l pre x W ⟨⟨hc, hf⟩, hB⟩ hl
  have h1 := dval_lt (B := b32) (b := 4294967296) (Nat.le_refl _) pre;have hv : dval b32 pre < 4294967296 := Nat.lt_of_lt_of_le h1 (Nat.pow_le_pow_right (by decide) (show pre.length ≤ 1 by omega));have h2 := x.2;have o1 := u64_or_add hv h2
  obtain ⟨X, hX⟩ : ∃ X, X = 4294967296 * dval b32 pre + x.1 := ⟨_, rfl⟩
  rw [← hX, show ((4294967296 * dval b32 pre : Nat) : Int) = (dval b32 pre : Int) * 4294967296 by omega] at o1;have HX := Lib.hid hX;clear hX h1
  gi_wp2
  refine ⟨(KeepsOthers.setCell _ _ _).from _, ⟨(Below.refl w.heap.size W).setCell (p := ⟨w.heap.size, 0, none⟩) (Nat.le_refl _) _, Below.heap_setCell _ _ _ _ (by simp)⟩, ⟨?_, by rw [World.frozen?_setCell]; exact hf⟩, hB.setCell (p := ⟨w.heap.size, 0, none⟩) (Nat.le_refl _) _⟩
  have e : dval b32 (pre ++ [x]) = X := by rw [dval_snoc, HX.out, Nat.mul_comm]; rfl
  rw [e];exact World.cell?_setCell_same' _ _ _ (by rw [hc]; rfl)
 case done =>
  rintro D ys W hD rfl ⟨⟨hc, _⟩, hB⟩ hK
  rw [dval_all] at hc
  gi_wp2
  refine ⟨by simp, .inl ⟨_, _, rfl, run_takeDeferred hK, ?_⟩⟩;exact ⟨_, results_tmp rfl _ _ _, rfl, hB.trans (belowK_b (w := w) (Nat.le_refl _) W D _ _ (by simp at hD; omega) hK rfl rfl)⟩
 case stop =>
  rintro D c pre W _ _ h _
  exact h.elim
theorem long_any (A : Option Addr) (c x : Nat) (w : World) (hx : Num32 w A x) (hn : ln b32 x ≤ 2) :
  Calls Tryz.prog 162 #[.slice A (ln b32 x) c] w fun e w' => e = .returned (.int .u64 ((x : Nat) : Int)) ∧ Below w.heap.size w w' := by
 have h := long_walk A (ln b32 x) c (dgt b32 x) (fun i => dgt32_lt x i) w hx hn;rw [vs_dgt_ln b32_two] at h;exact h
end
section

def prs (w : Nat → Rat) (K : Nat → Int) (l : List Nat) : List (Rat × Rat) := l.map (fun k => (w k, ((K k : Int) : Rat)))
def idx (w : Nat → Rat) (n : Nat) : List Nat := (List.range n).filter (fun k => decide (w k ≠ 0))
theorem idx_succ (w : Nat → Rat) (n : Nat) : idx w (n + 1) = idx w n ++ (if w n = 0 then [] else [n]) := by
 unfold idx;rw [List.range_succ, List.filter_append]
 congr 1
 by_cases h : w n = 0
 · rw [if_pos h]; simp [h]
 · rw [if_neg h]; simp [h]
theorem idx_mem {w : Nat → Rat} {n k : Nat} : k ∈ idx w n ↔ k < n ∧ w k ≠ 0 := by
 unfold idx;rw [List.mem_filter, List.mem_range]
 simp
theorem idx_len (w : Nat → Rat) (n : Nat) : (idx w n).length ≤ n := by
 have := List.length_filter_le (fun k => decide (w k ≠ 0)) (List.range n)
 rwa [List.length_range] at this
theorem idx_pre (w : Nat → Rat) : ∀ {n k : Nat}, k < n → w k ≠ 0 → (idx w k).length < (idx w n).length ∧ (idx w n).getD (idx w k).length 0 = k
 | n + 1, k, hk, hw => by
  rw [idx_succ]
  by_cases e : k = n
  ·
   subst e;rw [if_neg hw];exact ⟨by simp, by simp⟩
  ·
   obtain ⟨h1, h2⟩ := idx_pre w (n := n) (k := k) (by omega) hw;refine ⟨by rw [List.length_append]; omega, ?_⟩;rw [List.getD_eq_getElem?_getD, List.getElem?_append_left h1, ← List.getD_eq_getElem?_getD];exact h2
def srt (w : Nat → Rat) (n : Nat) (p : Nat → Nat) (j : Nat) : Nat := (idx w n).getD (p j) 0
def srts (w : Nat → Rat) (n : Nat) (p : Nat → Nat) : List Nat := (List.range (idx w n).length).map (srt w n p)
theorem range_getD (l : List Nat) : (List.range l.length).map (fun i => l.getD i 0) = l := by
 apply List.ext_getElem
 · simp
 ·
  intro i h1 h2
  simp [List.getElem?_eq_getElem h2]
theorem srts_perm {w : Nat → Rat} {n : Nat} {p : Nat → Nat} (h : Bij (idx w n).length p) : (srts w n p).Perm (idx w n) := by
 have e : srts w n p = ((List.range (idx w n).length).map p).map (fun i => (idx w n).getD i 0) := by
  unfold srts srt;rw [List.map_map];rfl
 rw [e];have h2 := h.list.map (fun i => (idx w n).getD i 0)
 rwa [range_getD] at h2
theorem srts_len (w : Nat → Rat) (n : Nat) (p : Nat → Nat) : (srts w n p).length = (idx w n).length := by simp [srts]
theorem srt_mem {w : Nat → Rat} {n : Nat} {p : Nat → Nat} (h : Bij (idx w n).length p) {j : Nat} (hj : j < (idx w n).length) : srt w n p j < n ∧ w (srt w n p j) ≠ 0 := by
 have h1 := h.1 j hj;unfold srt;rw [List.getD_eq_getElem?_getD, List.getElem?_eq_getElem h1, Option.getD_some];exact idx_mem.1 (List.getElem_mem h1)
def key (w : Nat → Rat) (K : Nat → Int) (n : Nat) (i : Nat) : Rat := ((K ((idx w n).getD i 0) : Int) : Rat) / w ((idx w n).getD i 0)
theorem key_lt {a b x y : Rat} (hx : 0 < x) (hy : 0 < y) : (a * y < b * x ↔ a / x < b / y) := by
 have e1 : a / x * x = a := Rat.div_mul_cancel (by grind);have e2 : b / y * y = b := Rat.div_mul_cancel (by grind)
 generalize a / x = u at *
 generalize b / y = v at *
 subst e1 e2;have hxy := Rat.mul_pos hx hy
 constructor
 ·
  intro h
  refine Rat.not_le.1 fun g => ?_
  have := Rat.mul_le_mul_of_nonneg_right g (Rat.le_of_lt hxy)
  grind
 ·
  intro h;have := Rat.mul_pos (show 0 < v - u by grind) hxy
  grind
theorem prs_mem {w : Nat → Rat} {K : Nat → Int} {l : List Nat} {x : Rat × Rat} (h : x ∈ prs w K l) : ∃ k, k ∈ l ∧ x = (w k, ((K k : Int) : Rat)) := by
 obtain ⟨k, hk, e⟩ := List.mem_map.1 h;exact ⟨k, hk, e.symm⟩
theorem int_nonneg {z : Int} (h : 0 ≤ z) : (0 : Rat) ≤ ((z : Int) : Rat) := by exact_mod_cast h
theorem lev_srts {w : Nat → Rat} {K : Nat → Int} {n : Nat} {p : Nat → Nat} {T : Rat} (hw : ∀ k, k < n → 0 ≤ w k ∧ 0 ≤ K k) (hp : Srd (idx w n).length (key w K n) (idx w n).length p) (h0 : 0 ≤ T) (h1 : T ≤ SC (prs w K (idx w n))) :
  Lv (prs w K (List.range n)) T (lev T (SW (prs w K (srts w n p))) (prs w K (srts w n p))) := by
 have hperm : (prs w K (srts w n p)).Perm (prs w K (idx w n)) := (srts_perm hp.1).map _;refine lev_Lv (fun x hx => ?_) ?_ ?_ h0 (by rw [SC_perm hperm]; exact h1)
 ·
  obtain ⟨k, hk, rfl⟩ := prs_mem hx;have := hw k (List.mem_range.1 hk);exact ⟨this.1, int_nonneg this.2⟩
 ·
  have e : (prs w K (List.range n)).filter (fun x => decide (x.1 ≠ 0)) = prs w K (idx w n) := by
   unfold prs idx;rw [List.filter_map];rfl
  rw [e]; exact hperm
 ·
  unfold Srt prs srts;rw [List.pairwise_map, List.pairwise_map]
  refine List.pairwise_lt_range.imp_of_mem fun {a b} ha hb hab => ?_
  have hb' := List.mem_range.1 hb;have hl := hp.2.2.2 a b hab hb' hb';obtain ⟨ma, na⟩ := srt_mem hp.1 (List.mem_range.1 ha);obtain ⟨mb, nb⟩ := srt_mem hp.1 hb'
  have pa : 0 < w (srt w n p a) := by have := (hw _ ma).1; grind
  have pb : 0 < w (srt w n p b) := by have := (hw _ mb).1; grind
  show ((K (srt w n p a) : Int) : Rat) * w (srt w n p b) ≤ ((K (srt w n p b) : Int) : Rat) * w (srt w n p a)
  refine Rat.not_lt.1 fun g => ?_
  have g2 := (key_lt pb pa).1 g;have e1 : key w K n (p a) = ((K (srt w n p a) : Int) : Rat) / w (srt w n p a) := rfl;have e2 : key w K n (p b) = ((K (srt w n p b) : Int) : Rat) / w (srt w n p b) := rfl;unfold Lex at hl;rw [e1, e2] at hl
  grind
theorem prs_cons {w : Nat → Rat} {K : Nat → Int} {l : List Nat} {i : Nat} (hi : i < l.length) : prs w K (l.drop i) = (w (l.getD i 0), ((K (l.getD i 0) : Int) : Rat)) :: prs w K (l.drop (i + 1)) := by
 rw [List.drop_eq_getElem_cons hi, List.getD_eq_getElem?_getD, List.getElem?_eq_getElem hi];rfl
theorem lev_cons {w : Nat → Rat} {K : Nat → Int} {l : List Nat} {i : Nat} (hi : i < l.length) (L W : Rat) : lev L W (prs w K (l.drop i)) = if L / W * w (l.getD i 0) ≤ ((K (l.getD i 0) : Int) : Rat) then L / W else lev (L - ((K (l.getD i 0) : Int) : Rat)) (W - w (l.getD i 0)) (prs w K (l.drop (i + 1))) := by
 rw [prs_cons hi];rfl
theorem SW_app : ∀ (l m : List (Rat × Rat)), SW (l ++ m) = SW l + SW m
 | [], m => by show SW m = 0 + SW m; grind
 | x :: r, m => by
  show x.1 + SW (r ++ m) = x.1 + SW r + SW m;rw [SW_app r m]; grind
theorem SW_take {w : Nat → Rat} {K : Nat → Int} {l : List Nat} {i : Nat} (hi : i < l.length) : SW (prs w K (l.take i)) + w (l.getD i 0) = SW (prs w K (l.take (i + 1))) := by
 rw [List.take_succ_eq_append_getElem hi, List.getD_eq_getElem?_getD, List.getElem?_eq_getElem hi];unfold prs;rw [List.map_append, SW_app];show _ = _ + (w l[i] + 0);show _ + w l[i] = _
 grind
theorem SW_drop {w : Nat → Rat} {K : Nat → Int} {l : List Nat} {i : Nat} (hi : i < l.length) : SW (prs w K (l.drop i)) - w (l.getD i 0) = SW (prs w K (l.drop (i + 1))) := by
 rw [prs_cons hi];show w _ + _ - w _ = _
 grind
theorem SW_drop_pos {w : Nat → Rat} {K : Nat → Int} {l : List Nat} (hl : ∀ k, k ∈ l → 0 < w k) {i : Nat} (hi : i < l.length) : 0 < SW (prs w K (l.drop i)) := by
 have h : ∀ (m : List Nat), (∀ k, k ∈ m → 0 < w k) → 0 ≤ SW (prs w K m) := fun m => by
  induction m with
  | nil => intro _; exact Rat.le_refl
  | cons x r ih =>
   intro h;have h1 := ih (fun k hk => h k (List.mem_cons_of_mem _ hk));have h2 := h x (List.mem_cons_self ..);show 0 ≤ w x + SW (prs w K r)
   grind
 rw [prs_cons hi];have h1 := h (l.drop (i + 1)) (fun k hk => hl k (List.mem_of_mem_drop hk))
 have h2 : 0 < w (l.getD i 0) := by
  rw [List.getD_eq_getElem?_getD, List.getElem?_eq_getElem hi];exact hl _ (List.getElem_mem hi)
 show 0 < w _ + SW _
 grind
def capS (w : Nat → Rat) (K : Nat → Int) : Nat → Int
 | 0 => 0
 | k + 1 => capS w K k + if w k = 0 then 0 else K k
theorem SC_app : ∀ (l m : List (Rat × Rat)), SC (l ++ m) = SC l + SC m
 | [], m => by show SC m = 0 + SC m; grind
 | x :: r, m => by
  show x.2 + SC (r ++ m) = x.2 + SC r + SC m;rw [SC_app r m]; grind
theorem capS_SC (w : Nat → Rat) (K : Nat → Int) : ∀ n, ((capS w K n : Int) : Rat) = SC (prs w K (idx w n))
 | 0 => rfl
 | n + 1 => by
  rw [idx_succ];unfold prs;rw [List.map_append, SC_app];have ih := capS_SC w K n;unfold prs at ih;rw [← ih]
  by_cases h : w n = 0
  ·
   rw [if_pos h];show (((capS w K n + if w n = 0 then 0 else K n : Int)) : Rat) = _ + 0;rw [if_pos h, Rat.intCast_add]
   grind
  ·
   rw [if_neg h];show (((capS w K n + if w n = 0 then 0 else K n : Int)) : Rat) = _ + (((K n : Int) : Rat) + 0);rw [if_neg h, Rat.intCast_add]
   grind
theorem capS_b {w : Nat → Rat} {K : Nat → Int} {M : Int} : ∀ {n : Nat}, (∀ k, k < n → 0 ≤ K k ∧ K k ≤ M) → 0 ≤ M → 0 ≤ capS w K n ∧ capS w K n ≤ (n : Int) * M
 | 0, _, _ => by unfold capS; simp
 | n + 1, h, hM => by
  obtain ⟨h1, h2⟩ := capS_b (n := n) (w := w) (fun k hk => h k (by omega)) hM;obtain ⟨h3, h4⟩ := h n (by omega)
  have e : ((n + 1 : Nat) : Int) * M = (n : Int) * M + M := by rw [Int.natCast_add, Int.natCast_one, Int.add_mul, Int.one_mul]
  rw [e];unfold capS
  split <;> omega
def totZ (a : Int) (w : Nat → Rat) (K : Nat → Int) (n : Nat) : Int := min a (capS w K n)
theorem totZ_b {a : Int} {w : Nat → Rat} {K : Nat → Int} {n : Nat} (ha : 0 ≤ a) (hK : ∀ k, k < n → 0 ≤ K k) : 0 ≤ totZ a w K n ∧ totZ a w K n ≤ a ∧ ((totZ a w K n : Int) : Rat) ≤ SC (prs w K (idx w n)) := by
 have h : ∀ n, (∀ k, k < n → 0 ≤ K k) → 0 ≤ capS w K n := fun n => by
  induction n with
  | zero => intro _; exact Int.le_refl 0
  | succ n ih =>
   intro h;have h1 := ih (fun k hk => h k (by omega));have h2 := h n (by omega);unfold capS
   split <;> omega
 have h1 := h n hK;unfold totZ;refine ⟨by omega, by omega, ?_⟩;rw [← capS_SC]
 have : min a (capS w K n) ≤ capS w K n := by omega
 exact_mod_cast this
theorem FF_su (t : Rat) (w : Nat → Rat) (K : Nat → Int) : ∀ n, FF t (prs w K (List.range n)) = su (fun k => part t (w k, ((K k : Int) : Rat))) n
 | 0 => rfl
 | n + 1 => by
  unfold prs;rw [List.range_succ, List.map_append, FF_app];have ih := FF_su t w K n;unfold prs at ih;rw [ih];show _ + (part t (w n, ((K n : Int) : Rat)) + 0) = su _ n + _
  grind
end
section

def DW (w : Nat → Rat) : Nat → Nat
 | 0 => 1
 | k + 1 => DW w k * (w k).den
theorem DW_pos (w : Nat → Rat) : ∀ n, 0 < DW w n
 | 0 => Nat.one_pos
 | n + 1 => Nat.mul_pos (DW_pos w n) (w n).den_pos
theorem DW_dv (w : Nat → Rat) : ∀ (n k : Nat), k < n → Dv (w k) (DW w n)
 | n + 1, k, h => by
  by_cases e : k = n
  · subst e; exact (Dv.self _).more (Nat.dvd_mul_left _ _)
  · exact (DW_dv w n k (by omega)).more (Nat.dvd_mul_right _ _)
theorem den_lt {q : Rat} {k : Nat} (h : fl q ≤ k) : q.den < b16 ^ k := (ln_le b16_two).1 (fl_le.1 h).2
theorem num_lt {q : Rat} {k : Nat} (h : fl q ≤ k) : q.num.natAbs < b16 ^ k := (ln_le b16_two).1 (fl_le.1 h).1
theorem DW_le {w : Nat → Rat} : ∀ {n : Nat}, (∀ k, k < n → fl (w k) ≤ 4) → DW w n ≤ b16 ^ (4 * n)
 | 0, _ => by simp [DW]
 | n + 1, h => by
  have h1 := DW_le (n := n) (fun k hk => h k (by omega));have h2 := Nat.le_of_lt (den_lt (h n (by omega)));have h3 := Nat.mul_le_mul h1 h2;rw [← Nat.pow_add] at h3;exact h3
theorem q_le {q : Rat} {k : Nat} (h0 : 0 ≤ q) (h : fl q ≤ k) : q ≤ ((b16 ^ k : Nat) : Rat) := by
 have h1 := num_lt h;have h2 : 0 ≤ q.num := Rat.num_nonneg.2 h0;rw [Rat.le_iff, Rat.num_natCast, Rat.den_natCast]
 have h3 : (q.num : Int) ≤ ((b16 ^ k : Nat) : Int) := by omega
 have h4 := Int.mul_le_mul_of_nonneg_left (show (1 : Int) ≤ (q.den : Int) by have := q.den_pos; omega) (show (0 : Int) ≤ ((b16 ^ k : Nat) : Int) by omega);rw [Int.mul_one] at h4;rw [Int.natCast_one, Int.mul_one];exact Int.le_trans h3 h4
theorem fl_int3 {z : Int} (h1 : -281474976710655 ≤ z) (h2 : z ≤ 281474976710655) : fl ((z : Int) : Rat) ≤ 3 := by
 rw [fl_le, Rat.num_intCast, Rat.den_intCast];exact ⟨(ln_le b16_two).2 (show z.natAbs < 281474976710656 by omega), (ln_le b16_two).2 (by decide)⟩
section
variable {w : Nat → Rat} {K : Nat → Int} {n : Nat}
theorem SW_dv {l : List Nat} (hl : ∀ k, k ∈ l → k < n) : Dv (SW (prs w K l)) (DW w n) := by
 induction l with
 | nil => exact (Dv.int 0).more (Nat.one_dvd _)
 | cons x r ih => exact (DW_dv w n x (hl x (List.mem_cons_self ..))).add (ih (fun k hk => hl k (List.mem_cons_of_mem _ hk)))
theorem SW_b {l : List Nat} {M : Rat} (h : ∀ k, k ∈ l → 0 ≤ w k ∧ w k ≤ M) : 0 ≤ SW (prs w K l) ∧ SW (prs w K l) ≤ (l.length : Rat) * M := by
 induction l with
 | nil => exact ⟨Rat.le_refl, by show (0 : Rat) ≤ ((0 : Nat) : Rat) * M; grind⟩
 | cons x r ih =>
  have h1 := ih (fun k hk => h k (List.mem_cons_of_mem _ hk));have h2 := h x (List.mem_cons_self ..)
  have e : (((x :: r).length : Nat) : Rat) = (r.length : Rat) + 1 := by rw [List.length_cons]; norm_cast
  rw [e];show 0 ≤ w x + SW (prs w K r) ∧ w x + SW (prs w K r) ≤ _
  grind
def Szd (n : Nat) (w : Nat → Rat) : Prop := DW w n ≤ b16 ^ 40
theorem szd_ten (hn : n ≤ 10) (hw : ∀ k, k < n → 0 ≤ w k ∧ fl (w k) ≤ 4) : Szd n w := Nat.le_trans (DW_le (n := n) (fun k hk => (hw k hk).2)) (Nat.pow_le_pow_right (by decide) (show 4 * n ≤ 40 by omega))
theorem fl_sw {l : List Nat} (hD : Szd n w) (hw : ∀ k, k < n → 0 ≤ w k ∧ fl (w k) ≤ 4) (hl : ∀ k, k ∈ l → k < n) (hll : l.length ≤ 32) : fl (SW (prs w K l)) ≤ 45 := by
 obtain ⟨h1, h2⟩ := SW_b (K := K) (l := l) (M := ((b16 ^ 4 : Nat) : Rat)) (fun k hk => ⟨(hw k (hl k hk)).1, q_le (hw k (hl k hk)).1 (hw k (hl k hk)).2⟩);have hp : (0 : Rat) ≤ ((b16 ^ 4 : Nat) : Rat) := Rat.natCast_nonneg
 have h3 : ((l.length : Nat) : Rat) ≤ ((32 : Nat) : Rat) := by exact_mod_cast hll
 have h4 := Rat.mul_le_mul_of_nonneg_right h3 hp;have e : (((32 * b16 ^ 4 : Nat)) : Rat) = ((32 : Nat) : Rat) * ((b16 ^ 4 : Nat) : Rat) := Rat.natCast_mul _ _;have hz : (0 : Rat) ≤ ((32 * b16 ^ 4 : Nat) : Rat) := Rat.natCast_nonneg;refine fl_bound (D := DW w n) (M := 32 * b16 ^ 4) (DW_pos w n) (SW_dv hl) (by grind) (by rw [e]; grind) (by decide) ?_;refine (ln_le b16_two).2 (Nat.lt_of_le_of_lt (Nat.mul_le_mul_left _ hD) ?_)
 decide
theorem part_b {t x : Rat} {z : Int} (ht : 0 ≤ t) (hx : 0 ≤ x) (hz : 0 ≤ z) : 0 ≤ part t (x, ((z : Int) : Rat)) ∧ part t (x, ((z : Int) : Rat)) ≤ ((z : Int) : Rat) := by
 have h1 := Rat.mul_nonneg ht hx;have h2 := int_nonneg hz;refine ⟨?_, mn_r _ _⟩;unfold part mn
 split
 · exact h1
 · exact h2
theorem su_dv {g : Nat → Rat} {D : Nat} : ∀ {i : Nat}, (∀ k, k < i → Dv (g k) D) → Dv (su g i) D
 | 0, _ => (Dv.int 0).more (Nat.one_dvd _)
 | i + 1, h => (su_dv (i := i) (fun k hk => h k (by omega))).add (h i (by omega))
theorem su_b {g : Nat → Rat} {M : Rat} : ∀ {i : Nat}, (∀ k, k < i → 0 ≤ g k ∧ g k ≤ M) → 0 ≤ su g i ∧ su g i ≤ (i : Rat) * M
 | 0, _ => ⟨Rat.le_refl, by show (0 : Rat) ≤ ((0 : Nat) : Rat) * M; grind⟩
 | i + 1, h => by
  obtain ⟨h1, h2⟩ := su_b (i := i) (fun k hk => h k (by omega));obtain ⟨h3, h4⟩ := h i (by omega)
  have e : ((i + 1 : Nat) : Rat) = (i : Rat) + 1 := by norm_cast
  rw [e];show 0 ≤ su g i + g i ∧ su g i + g i ≤ _
  grind
end
end
end Go.Proofs.YtjgihmmeimfheaaGreat
