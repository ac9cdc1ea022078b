/-
  Parts.
-/
import Derived.Test.YtclbiihcbfnjmaaGreatK25
import Derived.Test.YtclbiihcbfnjmaaGreatK20
import Derived.Laws.MakeOwn
namespace Go.Proofs.YtclbiihcbfnjmaaGreat
open Go.RowKit

def IntL (g n : Nat) (l : Nat → Int) (W : World) : Prop :=
 ∃ cs : Array Value, Blk 3 g cs W ∧ cs.size = n ∧ (∀ (i : Nat) (v : Value), cs[i]? = some v → noLimb v = true) ∧ ∀ k, k < n → cs[k]? = some (.int .i64 (l k))
def updI (l : Nat → Int) (k : Nat) (z : Int) : Nat → Int := fun j => if j = k then z else l j
section
variable {w w' W : World} {g n : Nat} {l : Nat → Int}
theorem IntL.lt (h : IntL g n l W) : g < W.heap.size := by obtain ⟨cs, hb, _⟩ := h; exact hb.lt
theorem IntL.at_ (h : IntL g n l W) {k : Nat} (hk : k < n) : W.cell? ⟨g, k, none⟩ = some (.int .i64 (l k)) := by
 obtain ⟨cs, hb, _, _, hc⟩ := h;rw [hb.cell];exact hc k hk
theorem IntL.frozen (h : IntL g n l W) (i : Nat) : W.frozen? ⟨g, i, none⟩ = false := by obtain ⟨cs, hb, _⟩ := h; exact hb.frozen i
theorem IntL.stable (g n : Nat) (l : Nat → Int) : Stable (IntL g n l) := fun _ _ hb ⟨cs, h1, h2⟩ => ⟨cs, h1.below hb h1.lt, h2⟩
theorem IntL.rd (h : IntL g n l W) : RdI (some ⟨g, 0, none⟩) n l W := fun k hk => ⟨g, 0, rfl, h.lt, by rw [Nat.zero_add]; exact h.at_ hk⟩
theorem IntL.blk (h : IntL g n l W) : ∃ cs : Array Value, Blk 3 g cs W ∧ cs.toList.all noLimb = true := by
 obtain ⟨cs, hb, _, h5, _⟩ := h;exact ⟨cs, hb, all_noLimb h5⟩
theorem IntL.put (h : IntL g n l W) (k : Nat) (z : Int) : IntL g n (updI l k z) (W.setCell ⟨g, k, none⟩ (.int .i64 z)) ∧ W.grownBy (W.setCell ⟨g, k, none⟩ (.int .i64 z)) (some g) := by
 obtain ⟨cs, hb, hs, hl, hc⟩ := h;refine ⟨⟨_, hb.set_ k _, by rw [Array.size_setIfInBounds, hs], fun i v hv => ?_, fun j hj => ?_⟩, grownBy_setCellI W g k _⟩
 ·
  rw [Array.getElem?_setIfInBounds] at hv
  split at hv
  ·
   split at hv
   · cases hv; rfl
   · cases hv
  · exact hl i v hv
 ·
  rw [Array.getElem?_setIfInBounds];unfold updI
  by_cases e : j = k
  ·
   subst e;rw [if_pos rfl, if_pos (by omega), if_pos rfl]
  ·
   rw [if_neg (by omega), if_neg e];exact hc j hj
theorem IntL.far {k : Nat} {t : TypeId} {ds : Array Value} (h : IntL g n l w) (_ : Blk t k ds w) (hne : g ≠ k) (hg : w.grownBy w' (some k)) : IntL g n l w' := by
 obtain ⟨cs, hb, h2⟩ := h;exact ⟨cs, Blk.grownB hb hg hne, h2⟩
theorem IntL.congr {l2 : Nat → Int} (h : IntL g n l W) (e : ∀ k, k < n → l k = l2 k) : IntL g n l2 W := by
 obtain ⟨cs, hb, hs, hl, hc⟩ := h;exact ⟨cs, hb, hs, hl, fun k hk => by rw [hc k hk, e k hk]⟩
theorem Env.intl {P : World → Prop} (hE : Env w P W) (h : IntL g n l W) : Env w (fun V => P V ∧ IntL g n l V) W := hE.and (IntL.stable _ _ _) h
end
theorem info_in : (Tryz.prog.info? 3).map (fun i => (i.zero, i.size, i.bytes)) = some (some (.int .i64 0), 1, 8) := by kernel_rfl
def izs : Array Value := madeCells #[.int .i64 0] 61
theorem make_ints (w : World) : (Instr.makeSlice 34 (.int .i64 61) (.int .i64 61)).run Tryz.prog w = .ok (.slice (some ⟨w.heap.size, 0, none⟩) 61 61) (w.alloc (.cells izs 3)) := by
 obtain ⟨i, hi, hz, hs, hb⟩ := info_parts info_in;have h := run_make (P := Tryz.prog) w 34 3 i _ Tryz.underlying34 hi hz .i64 .i64 61 61 (by omega) (Int.le_refl _) (by rw [hb]; omega) (by omega);rw [h, hs];rfl
theorem intl_make (w : World) : IntL w.heap.size 61 (fun _ => 0) (w.alloc (.cells izs 3)) := by
 have hget : ∀ j : Nat, (#[Value.int .i64 0] : Array Value)[j % (#[Value.int .i64 0] : Array Value).size]! = .int .i64 0 := fun j => by
  have : j % 1 = 0 := Nat.mod_one j
  simp [this]
 refine ⟨izs, Blk.new w _ _, size_madeCells _ _, fun i v hv => ?_, fun k hk => ?_⟩
 ·
  unfold izs madeCells at hv;rw [Array.getElem?_map] at hv;obtain ⟨j, _, rfl⟩ := Option.map_eq_some_iff.1 hv;rw [hget];rfl
 ·
  unfold izs madeCells;rw [Array.getElem?_map, Array.getElem?_range, if_pos hk];simp only [Option.map_some, hget]
def ones (a b k : Nat) : Int := if a ≤ k ∧ k < b then 1 else 0
theorem ones_put {a j : Nat} (h : a ≤ j) (k : Nat) : updI (ones a j) j 1 k = ones a (j + 1) k := by
 unfold updI ones
 split
 · rw [if_pos (by omega)]
 · split <;> split <;> first | rfl | omega
theorem amt_ones {a b n k : Nat} (hk : k < n) : amt (ones a b) n k = ind a b k := by
 unfold amt ones ind;rw [if_pos hk]
 split <;> rfl
theorem ones_amts (a b : Nat) : Amts 61 (ones a b) := ⟨by decide, fun k _ => by unfold ones; split <;> decide⟩
theorem pay_ind (t k : Nat) : pay t 1 k = ind 0 t k := by
 unfold pay ind
 by_cases h : k < t
 · rw [if_pos h, if_pos ⟨Nat.zero_le _, h⟩]
 · rw [if_neg h, if_neg (fun h2 => h h2.2)]
section
variable {v : Rat} {f : Nat → Rat} {N : Nat} (hN : N ≤ 61)
include hN
theorem kinds_live (a b : Nat) {K : Nat → Rat} (hK : ∀ k, K k = 0) : va v f N (amt (ones a b) 61) K 0 = ps (dd v f) (a : Int) (b : Int) N := by
 rw [← va_live];exact va_congr v f N (fun n hn => amt_ones (by omega)) (fun n _ => hK n) (Nat.zero_le _)
theorem kinds_dead (a b : Nat) {L : Nat → Rat} (hL : ∀ k, L k = 0) : va v f N L (amt (ones a b) 61) 0 = ps (cc v f) (a : Int) (b : Int) N := by
 rw [← va_dead];exact va_congr v f N (fun n _ => hL n) (fun n hn => amt_ones (by omega)) (Nat.zero_le _)
omit hN in
theorem kinds_prem (t : Nat) {K : Nat → Rat} (hK : ∀ k, K k = 0) : va v f N (pay t 1) K 0 = ps (dd v f) ((0 : Nat) : Int) (t : Int) N := by
 rw [← va_live];exact va_congr v f N (fun n _ => pay_ind t n) (fun n _ => hK n) (Nat.zero_le _)
theorem kinds_one (a : Nat) {K : Nat → Rat} (hK : ∀ k, K k = 0) : va v f N (amt (ones a (a + 1)) 61) K 0 = if a < N then dd v f a else 0 := by
 rw [kinds_live hN a (a + 1) hK, ← ps_one];rfl
end
end Go.Proofs.YtclbiihcbfnjmaaGreat
