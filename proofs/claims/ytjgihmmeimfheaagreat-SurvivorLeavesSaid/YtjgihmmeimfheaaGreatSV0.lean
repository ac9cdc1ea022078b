/-
  Rows of structs in memory: read, stored into, appended to, made.
-/
import Derived.Laws.MakeOwn
import Derived.Laws.AppendOwn
import Derived.Deep.MidRow
import Derived.Test.YtjgihmmeimfheaaGreatSVL
namespace Go.Proofs.YtjgihmmeimfheaaGreat
open Go.RowKit

/-- Block g has room for cap elements of m cells; the first n are those of e. -/
def Rw (T : TypeId) (m g n cap : Nat) (e : Nat → List Value) (W : World) : Prop :=
 n ≤ cap ∧ cap ≤ maxLen ∧ ∃ cs : Array Value, Blk T g cs W ∧ cs.size = cap * m ∧ (∀ (i : Nat) (v : Value), cs[i]? = some v → noLimb v = true) ∧
  ∀ k, k < n → ∀ i, i < m → cs[k * m + i]? = (e k)[i]?
/-- The elements, one changed. -/
def updE (e : Nat → List Value) (j : Nat) (x : List Value) : Nat → List Value := fun k => if k = j then x else e k
theorem mul_in {k n m i : Nat} (hk : k < n) (hi : i < m) : k * m + i < n * m :=
 Nat.lt_of_lt_of_le (show k * m + i < (k + 1) * m by rw [Nat.succ_mul]; omega) (Nat.mul_le_mul_right m hk)
theorem mul_apart {k j m i : Nat} (hne : k ≠ j) (hi : i < m) : ¬ (j * m ≤ k * m + i ∧ k * m + i < j * m + m) := fun h => by
 rcases Nat.lt_or_gt_of_ne hne with h1 | h1
 · have := mul_in h1 hi; omega
 ·
  have := Nat.mul_le_mul_right m (show j + 1 ≤ k from h1)
  rw [Nat.succ_mul] at this
  omega
theorem sets_cells {t : TypeId} {g : Nat} : ∀ (vs : List Value) (o : Nat) (cs : Array Value) (U : World), Blk t g cs U → o + vs.length ≤ cs.size →
  ∃ ds, Blk t g ds (U.setCells g o vs) ∧ ds.size = cs.size ∧ ∀ i, ds[i]? = if o ≤ i ∧ i < o + vs.length then vs[i - o]? else cs[i]? := fun vs => by
 induction vs with
 | nil => exact fun o cs U h _ => ⟨cs, h, rfl, fun i => (if_neg (by simp only [List.length_nil]; omega)).symm⟩
 | cons v r ih =>
  intro o cs U h hl
  rw [List.length_cons] at hl
  obtain ⟨ds, h1, h2, h3⟩ := ih (o + 1) (cs.setIfInBounds o v) (U.setCell ⟨g, o, none⟩ v) (h.set_ o v) (by rw [Array.size_setIfInBounds]; omega)
  refine ⟨ds, h1, by rw [h2, Array.size_setIfInBounds], fun i => ?_⟩
  rw [h3 i, Array.getElem?_setIfInBounds, List.length_cons]
  by_cases e : o = i
  ·
   subst e
   rw [if_neg (by omega), if_pos rfl, if_pos (by omega), if_pos (by omega), Nat.sub_self]
   rfl
  ·
   by_cases e2 : o + 1 ≤ i ∧ i < o + 1 + r.length
   ·
    rw [if_pos e2, if_pos (by omega), show i - o = (i - (o + 1)) + 1 by omega]
    rfl
   · rw [if_neg e2, if_neg e, if_neg (by omega)]
section
variable {w w' W : World} {T : TypeId} {m g n cap B : Nat} {e : Nat → List Value}
theorem Rw.lt (h : Rw T m g n cap e W) : g < W.heap.size := by obtain ⟨_, _, cs, hb, _⟩ := h; exact hb.lt
theorem Rw.blk (h : Rw T m g n cap e W) : ∃ cs : Array Value, Blk T g cs W ∧ cs.toList.all noLimb = true ∧ cs.size = cap * m := by
 obtain ⟨_, _, cs, hb, h4, h5, _⟩ := h
 exact ⟨cs, hb, all_noLimb h5, h4⟩
theorem Rw.cell (h : Rw T m g n cap e W) {k i o : Nat} {v : Value} (hk : k < n) (hi : i < m) (ho : o = k * m + i) (hv : (e k)[i]? = some v) : W.cell? ⟨g, o, none⟩ = some v := by
 obtain ⟨_, _, cs, hb, _, _, hc⟩ := h
 subst ho
 rw [hb.cell, hc k hk i hi, hv]
theorem Rw.frozen (h : Rw T m g n cap e W) (i : Nat) : W.frozen? ⟨g, i, none⟩ = false := by obtain ⟨_, _, cs, hb, _⟩ := h; exact hb.frozen i
theorem Rw.stable (T : TypeId) (m g n cap : Nat) (e : Nat → List Value) : Stable (Rw T m g n cap e) := fun _ _ hb ⟨h1, h2, cs, h3, h4⟩ => ⟨h1, h2, cs, h3.below hb h3.lt, h4⟩
theorem Rw.below (h : Rw T m g n cap e w) (hb : Below w.heap.size w w') : Rw T m g n cap e w' := Rw.stable _ _ _ _ _ _ _ _ hb h
theorem Rw.congr {e' : Nat → List Value} (h : Rw T m g n cap e W) (he : ∀ k, k < n → e k = e' k) : Rw T m g n cap e' W := by
 obtain ⟨h1, h2, cs, h3, h4, h5, h6⟩ := h
 exact ⟨h1, h2, cs, h3, h4, h5, fun k hk i hi => by rw [h6 k hk i hi, he k hk]⟩
theorem Rw.grownB {k : Nat} (h : Rw T m g n cap e w) (hg : w.grownBy w' (some k)) (hk : g ≠ k) : Rw T m g n cap e w' := by
 obtain ⟨h1, h2, cs, h3, h4⟩ := h
 exact ⟨h1, h2, cs, h3.grownB hg hk, h4⟩
theorem Rw.ne {t : TypeId} {k : Nat} {ds : Array Value} (h : Rw T m g n cap e W) (hB : Blk t k ds W) (ht : T ≠ t) : g ≠ k := by
 obtain ⟨_, _, cs, hb, _⟩ := h
 exact Blk.ne hb hB ht
theorem Rw.ne2 {t : TypeId} {m2 k n2 cap2 : Nat} {e2 : Nat → List Value} (h : Rw T m g n cap e W) (h2 : Rw t m2 k n2 cap2 e2 W) (ht : T ≠ t) : g ≠ k := by
 obtain ⟨_, _, cs, hb, _⟩ := h2
 exact h.ne hb ht
/-- An element's cells. -/
theorem Rw.range (h : Rw T m g n cap e W) {k : Nat} (hk : k < n) (hl : (e k).length = m) : W.rangeAt g (k * m) (e k) := fun j v hv => by
 have hj : j < m := by have := (List.getElem?_eq_some_iff.1 hv).1; omega
 exact h.cell hk hj rfl hv
theorem Rw.there (h : Rw T m g n cap e W) {k : Nat} (hk : k < n) : W.there g (k * m) m := fun j hj => by
 obtain ⟨h1, _, cs, hb, h4, _, _⟩ := h
 refine ⟨?_, hb.frozen _⟩
 rw [hb.cell, Array.getElem?_eq_getElem (by rw [h4]; exact mul_in (by omega) hj)]
 rfl
/-- An element is stored. -/
theorem Rw.put (h : Rw T m g n cap e W) {j : Nat} (hj : j < n) {x : List Value} (hx : x.length = m) (hn : ∀ v ∈ x, noLimb v = true) : Rw T m g n cap (updE e j x) (W.setCells g (j * m) x) ∧ W.grownBy (W.setCells g (j * m) x) (some g) := by
 obtain ⟨h1, h2, cs, h3, h4, h5, h6⟩ := h
 have hend : j * m + m ≤ cs.size := by
  rw [h4]
  have := Nat.mul_le_mul_right m (show j + 1 ≤ cap by omega)
  rw [Nat.succ_mul] at this
  exact this
 obtain ⟨ds, k1, k2, k3⟩ := sets_cells x (j * m) cs W h3 (by rw [hx]; exact hend)
 refine ⟨⟨h1, h2, ds, k1, by rw [k2, h4], fun i v hv => ?_, fun k hk i hi => ?_⟩, (sets_grown x (j * m) W ⟨cs, h3, rfl⟩).1⟩
 ·
  rw [k3] at hv
  split at hv
  · exact hn v (List.mem_of_getElem? hv)
  · exact h5 i v hv
 ·
  rw [k3]
  unfold updE
  by_cases c : k = j
  ·
   subst c
   rw [if_pos (by rw [hx]; omega), if_pos rfl, Nat.add_sub_cancel_left]
  · rw [if_neg (by rw [hx]; exact mul_apart c hi), if_neg c, h6 k hk i hi]
/-- Since the row's block holds no limb, numbers stay where it is written. -/
theorem Rw.fv {q : Rat} {s u : Bool} {A C : Option Addr} {a b : Nat} (h : Rw T m g n cap e w) (hf : FV w q s A a u C b) (hg : w.grownBy w' (some g)) : FV w' q s A a u C b := by
 obtain ⟨cs, hb, hn, _⟩ := h.blk
 exact hf.grownB hb hn hg
/-- A row that is made. -/
theorem Rw.made (W : World) (T : TypeId) (m n cap : Nat) (z : Array Value) (hz : z.size = m) (hn : ∀ v ∈ z, noLimb v = true) (h1 : n ≤ cap) (h2 : cap ≤ maxLen) (h0 : 0 < m) : Rw T m W.heap.size n cap (fun _ => z.toList) (W.alloc (.cells (madeCells z (cap * m)) T)) :=
 ⟨h1, h2, madeCells z (cap * m), Blk.new W _ _, size_madeCells _ _, fun i v hv => by
  unfold madeCells at hv
  rw [Array.getElem?_map] at hv
  obtain ⟨j, hj, rfl⟩ := Option.map_eq_some_iff.1 hv
  have hlt : j % z.size < z.size := Nat.mod_lt _ (by omega)
  rw [getElem!_pos z _ hlt]
  exact hn _ (Array.getElem_mem hlt), fun k hk i hi => by
  unfold madeCells
  have h3 := mul_in (m := m) (show k < cap by omega) hi
  rw [Array.getElem?_map, Array.getElem?_range, if_pos h3]
  have h4 : (k * m + i) % z.size = i := by rw [hz, Nat.add_comm, Nat.add_mul_mod_self_right, Nat.mod_eq_of_lt hi]
  rw [Option.map_some, h4, getElem!_pos z i (by omega), Array.getElem?_toList, Array.getElem?_eq_getElem (by omega)]⟩
end
/-- The slice v has n elements, in a block from b0 on. -/
def RwV (T : TypeId) (m b0 : Nat) (v : Value) (n : Nat) (e : Nat → List Value) (W : World) : Prop := (v = .slice none 0 0 ∧ n = 0) ∨ ∃ g cap, v = .slice (some ⟨g, 0, none⟩) n cap ∧ b0 ≤ g ∧ Rw T m g n cap e W
section
variable {w w' W : World} {T : TypeId} {m b0 n B : Nat} {v : Value} {e : Nat → List Value}
theorem RwV.stable (T : TypeId) (m b0 : Nat) (v : Value) (n : Nat) (e : Nat → List Value) : Stable (RwV T m b0 v n e) := fun _ _ hb hv => by
 rcases hv with hv | ⟨g, cap, e1, hg, hB⟩
 · exact .inl hv
 · exact .inr ⟨g, cap, e1, hg, Rw.stable _ _ _ _ _ _ _ _ hb hB⟩
theorem RwV.noL (hv : RwV T m b0 v n e W) : noLimb v = true := by
 rcases hv with ⟨rfl, _⟩ | ⟨g, cap, rfl, _⟩ <;> rfl
theorem RwV.far {t : TypeId} {k : Nat} {ds : Array Value} (hv : RwV T m b0 v n e w) (hB : Blk t k ds w) (ht : T ≠ t) (hg : w.grownBy w' (some k)) : RwV T m b0 v n e w' := by
 rcases hv with hv | ⟨g, cap, e1, hb, hR⟩
 · exact .inl hv
 · exact .inr ⟨g, cap, e1, hb, hR.grownB hg (hR.ne hB ht)⟩
/-- What is not of the row's own block stays. -/
theorem Blk.grownR {t : TypeId} {b : Nat} {cs : Array Value} (hb : Blk t b cs w) (hv : RwV T m b0 v n e w) (hg : w.grownBy w' v.ownBlock) (ht : T ≠ t) : Blk t b cs w' := by
 refine (hg.block b hb.lt fun e2 => ?_).trans hb
 rcases hv with ⟨rfl, _⟩ | ⟨g, cap, rfl, _, hB⟩
 · cases e2
 ·
  obtain rfl : b = g := by simpa [Value.ownBlock] using e2
  exact hB.ne hb ht rfl
theorem FV.grownR {q : Rat} {s u : Bool} {A C : Option Addr} {a b : Nat} (hf : FV w q s A a u C b) (hv : RwV T m b0 v n e w) (hg : w.grownBy w' v.ownBlock) : FV w' q s A a u C b := by
 rcases hv with ⟨rfl, _⟩ | ⟨g, cap, rfl, _, hB⟩
 · exact hf.below ⟨hg.os, hg.tape, hg.output, hg.size, fun k hk => hg.block k hk (by simp [Value.ownBlock])⟩
 · exact hB.fv hf hg
theorem Rw.grownR {t : TypeId} {m2 g n2 cap : Nat} {e2 : Nat → List Value} (h : Rw t m2 g n2 cap e2 w) (hv : RwV T m b0 v n e w) (hg : w.grownBy w' v.ownBlock) (hne : g < b0 ∨ t ≠ T) : Rw t m2 g n2 cap e2 w' := by
 obtain ⟨h1, h2, cs, h3, h4⟩ := h
 refine ⟨h1, h2, cs, (hg.block g h3.lt fun e5 => ?_).trans h3, h4⟩
 rcases hv with ⟨rfl, _⟩ | ⟨g', cap', rfl, hb, _, _, cs', h6, _⟩
 · cases e5
 ·
  obtain rfl : g = g' := by simpa [Value.ownBlock] using e5
  rcases hne with hne | hne
  · omega
  · exact Blk.ne h3 h6 hne rfl
theorem Below.grownR {a : World} (hb : Below B a w) (hv : RwV T m b0 v n e w) (hg : w.grownBy w' v.ownBlock) (hB : B ≤ b0) (hs : B ≤ w.heap.size) : Below B a w' := by
 refine hb.grown hg hs fun q e => ?_
 rcases hv with ⟨rfl, _⟩ | ⟨g, cap, rfl, h1, _⟩
 · cases e
 ·
  obtain rfl : g = q := by simpa [Value.ownBlock] using e
  omega
end
theorem row_points {olds x rest : List Value} {m n : Nat} {e : Nat → List Value} (ho : olds.length = n * m) (hx : x.length = m) (hp : ∀ k, k < n → ∀ i, i < m → olds[k * m + i]? = (e k)[i]?) :
  ∀ k, k < n + 1 → ∀ i, i < m → (olds ++ x ++ rest)[k * m + i]? = (updE e n x k)[i]? := fun k hk i hi => by
 unfold updE
 by_cases c : k = n
 ·
  subst c
  rw [if_pos rfl, List.append_assoc, List.getElem?_append_right (by omega), List.getElem?_append_left (by omega), ho, Nat.add_sub_cancel_left]
 ·
  have := mul_in (show k < n by omega) hi
  rw [if_neg c, List.append_assoc, List.getElem?_append_left (by omega)]
  exact hp k (by omega) i hi
theorem no_limbs {olds x rest : List Value} (h1 : ∀ v, v ∈ olds → noLimb v = true) (hx : ∀ v, v ∈ x → noLimb v = true) (h2 : ∀ v, v ∈ rest → noLimb v = true) {cs : Array Value} (e : cs.toList = olds ++ x ++ rest) : ∀ (i : Nat) (v : Value), cs[i]? = some v → noLimb v = true := fun i v hv => by
 have hm : v ∈ cs.toList := by rw [Array.mem_toList_iff]; exact Array.mem_of_getElem? hv
 rw [e, List.append_assoc] at hm
 rcases List.mem_append.1 hm with hm | hm
 · exact h1 v hm
 ·
  rcases List.mem_append.1 hm with hm | hm
  · exact hx v hm
  · exact h2 v hm
theorem zeros_noL {z : Array Value} (hz : ∀ v ∈ z, noLimb v = true) (h0 : 0 < z.size) {k : Nat} : ∀ v, v ∈ (Builtin.zeroCells z k).toList → noLimb v = true := fun v hv => by
 unfold Builtin.zeroCells at hv
 rw [Array.mem_toList_iff, Array.mem_map] at hv
 obtain ⟨a, _, rfl⟩ := hv
 have hlt : a % z.size < z.size := Nat.mod_lt _ h0
 rw [getElem!_pos z _ hlt]
 exact hz _ (Array.getElem_mem hlt)
/-- What is asked of a type whose values are appended. -/
structure Elem (tS T : TypeId) (m : Nat) where
 und : Tryz.prog.underlying tS = some (.slice T)
 z : Value
 bytes : Nat
 info : (Tryz.prog.info? T).map (fun i => (i.zero, i.size, i.bytes)) = some (some z, m, bytes)
 size : z.cells.size = m
 pos : 0 < m
 noL : ∀ v ∈ z.cells, noLimb v = true
 few : bytes ≤ 4096
theorem append_rw {w : World} {tS T : TypeId} {m : Nat} (E : Elem tS T m) (ty : TypeId) {b0 n : Nat} {v : Value} {e : Nat → List Value} (hv : RwV T m b0 v n e w) (hb0 : b0 ≤ w.heap.size) (a : Addr) (c : Nat) (x : List Value) (hxl : x.length = m) (hxn : ∀ u ∈ x, noLimb u = true) (hx1 : ∀ u ∈ x, u.oneCell' = true) (hx : ∀ j u, x[j]? = some u → w.cell? (a.add j) = some u) (hn : n ≤ 1000) :
  ∃ g cap w', (Builtin.append_ #[tS, tS] ty #[v, .slice (some a) 1 c]).run Tryz.prog w = .ok (.slice (some ⟨g, 0, none⟩) (n + 1) cap) w' ∧ b0 ≤ g ∧
   Rw T m g (n + 1) cap (updE e n x) w' ∧ w.grownBy w' v.ownBlock := by
 obtain ⟨i, hi, hz, hs, hby⟩ := info_parts E.info
 have hund := E.und
 have hl : x.length = 1 * i.size := by rw [hxl, hs, Nat.one_mul]
 have hge := fun old => grownCap_ge w (n + 1) old T
 have hcm := fun old => grownCap_le_maxLen w (n + 1) old T (show n + 1 ≤ maxLen by unfold maxLen; omega)
 have hzs := E.size
 have hfew := E.few
 have hz0 : ∀ k, ∀ v, v ∈ (Builtin.zeroCells E.z.cells k).toList → noLimb v = true := fun k => zeros_noL E.noL (by rw [hzs]; exact E.pos)
 rcases hv with ⟨rfl, rfl⟩ | ⟨g, cap, rfl, hg, h1, h2, cs, h3, h4, h5, h6⟩
 ·
  have hr := run_append_nil (P := Tryz.prog) w tS ty T i E.z hund hi hz a 1 c x hl hx (by decide) (by decide) (by rw [hby]; omega)
  refine ⟨_, _, _, hr, hb0, ⟨hge 0, hcm 0, _, heap_alloc_new w.drew _, ?_, ?_, ?_⟩, ⟨rfl, rfl, rfl, by simp, fun k hk _ => heap_alloc_old w.drew _ hk⟩⟩
  ·
   have h0 := hge 0
   rw [Nat.zero_add] at h0
   simp only [Array.size_append, List.size_toArray, size_zeroCells, hzs, hxl]
   obtain ⟨d, hd⟩ : ∃ d, grownCap w 1 0 T = d + 1 := ⟨_, (Nat.sub_add_cancel h0).symm⟩
   rw [hd, Nat.add_sub_cancel, Nat.succ_mul, Nat.add_comm]
  · exact no_limbs (olds := []) (fun v hv => absurd hv (by simp)) hxn (hz0 (grownCap w 1 0 T - 1)) (by simp)
  ·
   intro k hk i hi
   have := row_points (olds := []) (rest := (Builtin.zeroCells E.z.cells (grownCap w 1 0 T - 1)).toList) (n := 0) (e := e) (by simp) hxl (fun k hk => absurd hk (by omega)) k hk i hi
   rw [← this, ← Array.getElem?_toList]
   simp
 ·
  have hnm : n * m ≤ cap * m := Nat.mul_le_mul_right m h1
  have hlt : (cs.toList.take (n * m)).length = n * m := by rw [List.length_take, Array.length_toList, h4]; omega
  have hp : ∀ k, k < n → ∀ i, i < m → (cs.toList.take (n * m))[k * m + i]? = (e k)[i]? := fun k hk i hi => by
   rw [List.getElem?_take_of_lt (mul_in hk hi), Array.getElem?_toList]
   exact h6 k hk i hi
  have hno : ∀ v, v ∈ cs.toList → noLimb v = true := fun v hv => by
   obtain ⟨i, hi⟩ := List.getElem?_of_mem hv
   exact h5 i v (by simpa using hi)
  by_cases hroom : n + 1 ≤ cap
  ·
   have hnm2 : n * m + m ≤ cap * m := by have := Nat.mul_le_mul_right m hroom; rwa [Nat.succ_mul] at this
   have hr := run_append_room (P := Tryz.prog) w tS ty T i hund hi g n cap cs h3 a 1 c x hl hx hx1 hroom (by rw [hs, hxl, h4]; exact hnm2)
   rw [hs, hxl] at hr
   refine ⟨_, _, _, hr, hg, ⟨hroom, h2, _, setRow_heap w g cs _ _ _ h3, ?_, ?_, ?_⟩, ⟨rfl, rfl, rfl, by simp, fun k _ hk => setRow_other w g k _ (fun e => hk (by simp [Value.ownBlock, e]))⟩⟩
   ·
    simp only [List.size_toArray, List.length_append, hlt, hxl, List.length_drop, Array.length_toList, h4]
    omega
   · exact no_limbs (fun v hv => hno v (List.mem_of_mem_take hv)) hxn (fun v hv => hno v (List.mem_of_mem_drop hv)) rfl
   ·
    intro k hk i hi
    rw [List.getElem?_toArray]
    exact row_points hlt hxl hp k hk i hi
  ·
   have hr := run_append_grow (P := Tryz.prog) w tS ty T i E.z hund hi hz ⟨g, 0, none⟩ n cap (cs.toList.take (n * m)) (by rw [hlt, hs]) (fun j u hu => by
     have hj : j < n * m := by
      have := (List.getElem?_eq_some_iff.1 hu).1
      omega
     rw [Addr.add_mid, Nat.zero_add, h3.cell]
     rw [List.getElem?_take_of_lt hj, Array.getElem?_toList] at hu
     exact hu) a 1 c x hl hx (by omega) (by omega) (growslice_fits (by omega) (by
      rw [hby]
      exact Nat.le_trans (Nat.mul_le_mul (show n + 1 ≤ 1001 by omega) hfew) (by decide)))
   refine ⟨_, _, _, hr, hb0, ⟨hge cap, hcm cap, _, heap_alloc_new w.drew _, ?_, ?_, ?_⟩, ⟨rfl, rfl, rfl, by simp, fun k hk _ => heap_alloc_old w.drew _ hk⟩⟩
   ·
    have := hge cap
    simp only [Array.size_append, List.size_toArray, size_zeroCells, hzs, hxl, hlt]
    obtain ⟨d, hd⟩ : ∃ d, grownCap w (n + 1) cap T = (n + 1) + d := ⟨_, (Nat.add_sub_cancel' this).symm⟩
    rw [hd, Nat.add_sub_cancel_left, Nat.add_mul, Nat.succ_mul]
   · exact no_limbs (olds := cs.toList.take (n * m)) (fun v hv => hno v (List.mem_of_mem_take hv)) hxn (hz0 (grownCap w (n + 1) cap T - (n + 1))) (by simp)
   ·
    intro k hk i hi
    have := row_points (rest := (Builtin.zeroCells E.z.cells (grownCap w (n + 1) cap T - (n + 1))).toList) hlt hxl hp k hk i hi
    rw [← this, ← Array.getElem?_toList]
    simp
theorem Env.rwr {w W : World} {P : World → Prop} {T : TypeId} {m g n cap : Nat} {e : Nat → List Value} (hE : Env w P W) (h : Rw T m g n cap e W) : Env w (fun V => P V ∧ Rw T m g n cap e V) W := hE.and (Rw.stable _ _ _ _ _ _) h
theorem Env.rwv {w W : World} {P : World → Prop} {T : TypeId} {m b0 n : Nat} {v : Value} {e : Nat → List Value} (hE : Env w P W) (h : RwV T m b0 v n e W) : Env w (fun V => P V ∧ RwV T m b0 v n e V) W := hE.and (RwV.stable _ _ _ _ _ _) h
end Go.Proofs.YtjgihmmeimfheaaGreat
