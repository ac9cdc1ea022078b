/-
  Parts.
-/
import Derived.Laws.MakeOwn
import Derived.Laws.AppendOwn
import Derived.Deep.MidRow
import Derived.Test.YtclbiihcbfnjmaaGreatK21
import Derived.Test.YtclbiihcbfnjmaaGreatK19
namespace Go.Proofs.YtclbiihcbfnjmaaGreat
open Go.RowKit

def Rw (T : TypeId) (m g n cap : Nat) (e : Nat → List Value) (W : World) : Prop :=
 n ≤ cap ∧ cap ≤ maxLen ∧ ∃ cs : Array Value, Blk T g cs W ∧ cs.size = cap * m ∧ (∀ (i : Nat) (v : Value), cs[i]? = some v → noLimb v = true) ∧
  ∀ k, k < n → ∀ i, i < m → cs[k * m + i]? = (e k)[i]?
def updE (e : Nat → List Value) (j : Nat) (x : List Value) : Nat → List Value := fun k => if k = j then x else e k
theorem mul_in {k n m i : Nat} (hk : k < n) (hi : i < m) : k * m + i < n * m :=
 Nat.lt_of_lt_of_le (show k * m + i < (k + 1) * m by rw [Nat.succ_mul]; omega) (Nat.mul_le_mul_right m hk)
section
variable {w w' W : World} {T : TypeId} {m g n cap B : Nat} {e : Nat → List Value}
theorem Rw.lt (h : Rw T m g n cap e W) : g < W.heap.size := by obtain ⟨_, _, cs, hb, _⟩ := h; exact hb.lt
theorem Rw.cell (h : Rw T m g n cap e W) {k i o : Nat} {v : Value} (hk : k < n) (hi : i < m) (ho : o = k * m + i) (hv : (e k)[i]? = some v) : W.cell? ⟨g, o, none⟩ = some v := by
 obtain ⟨_, _, cs, hb, _, _, hc⟩ := h;subst ho;rw [hb.cell, hc k hk i hi, hv]
theorem Rw.stable (T : TypeId) (m g n cap : Nat) (e : Nat → List Value) : Stable (Rw T m g n cap e) := fun _ _ hb ⟨h1, h2, cs, h3, h4⟩ => ⟨h1, h2, cs, h3.below hb h3.lt, h4⟩
theorem Rw.congr {e' : Nat → List Value} (h : Rw T m g n cap e W) (he : ∀ k, k < n → e k = e' k) : Rw T m g n cap e' W := by
 obtain ⟨h1, h2, cs, h3, h4, h5, h6⟩ := h;exact ⟨h1, h2, cs, h3, h4, h5, fun k hk i hi => by rw [h6 k hk i hi, he k hk]⟩
theorem Rw.grownB {k : Nat} (h : Rw T m g n cap e w) (hg : w.grownBy w' (some k)) (hk : g ≠ k) : Rw T m g n cap e w' := by
 obtain ⟨h1, h2, cs, h3, h4⟩ := h;exact ⟨h1, h2, cs, h3.grownB hg hk, h4⟩
theorem Rw.ne {t : TypeId} {k : Nat} {ds : Array Value} (h : Rw T m g n cap e W) (hB : Blk t k ds W) (ht : T ≠ t) : g ≠ k := by
 obtain ⟨_, _, cs, hb, _⟩ := h;exact Blk.ne hb hB ht
end
def RwV (T : TypeId) (m b0 : Nat) (v : Value) (n : Nat) (e : Nat → List Value) (W : World) : Prop := (v = .slice none 0 0 ∧ n = 0) ∨ ∃ g cap, v = .slice (some ⟨g, 0, none⟩) n cap ∧ b0 ≤ g ∧ Rw T m g n cap e W
section
variable {w w' W : World} {T : TypeId} {m b0 n B : Nat} {v : Value} {e : Nat → List Value}
theorem RwV.stable (T : TypeId) (m b0 : Nat) (v : Value) (n : Nat) (e : Nat → List Value) : Stable (RwV T m b0 v n e) := fun _ _ hb hv => by
 rcases hv with hv | ⟨g, cap, e1, hg, hB⟩
 · exact .inl hv
 · exact .inr ⟨g, cap, e1, hg, Rw.stable _ _ _ _ _ _ _ _ hb hB⟩
theorem RwV.far {t : TypeId} {k : Nat} {ds : Array Value} (hv : RwV T m b0 v n e w) (hB : Blk t k ds w) (ht : T ≠ t) (hg : w.grownBy w' (some k)) : RwV T m b0 v n e w' := by
 rcases hv with hv | ⟨g, cap, e1, hb, hR⟩
 · exact .inl hv
 · exact .inr ⟨g, cap, e1, hb, hR.grownB hg (hR.ne hB ht)⟩
theorem Blk.grownR {t : TypeId} {b : Nat} {cs : Array Value} (hb : Blk t b cs w) (hv : RwV T m b0 v n e w) (hg : w.grownBy w' v.ownBlock) (ht : T ≠ t) : Blk t b cs w' := by
 refine (hg.block b hb.lt fun e2 => ?_).trans hb
 rcases hv with ⟨rfl, _⟩ | ⟨g, cap, rfl, _, hB⟩
 · cases e2
 ·
  obtain rfl : b = g := by simpa [Value.ownBlock] using e2
  exact hB.ne hb ht rfl
theorem Rw.grownR {t : TypeId} {m2 g n2 cap : Nat} {e2 : Nat → List Value} (h : Rw t m2 g n2 cap e2 w) (hv : RwV T m b0 v n e w) (hg : w.grownBy w' v.ownBlock) (hne : g < b0 ∨ t ≠ T) : Rw t m2 g n2 cap e2 w' := by
 obtain ⟨h1, h2, cs, h3, h4⟩ := h;refine ⟨h1, h2, cs, (hg.block g h3.lt fun e5 => ?_).trans h3, h4⟩
 rcases hv with ⟨rfl, _⟩ | ⟨g', cap', rfl, hb, _, _, cs', h6, _⟩
 · cases e5
 ·
  obtain rfl : g = g' := by simpa [Value.ownBlock] using e5
  rcases hne with hne | hne
  · omega
  · exact Blk.ne h3 h6 hne rfl
theorem Below.grownR {a : World} (hb : Below B a w) (hv : RwV T m b0 v n e w) (hg : w.grownBy w' v.ownBlock) (hB : B ≤ b0) (hs : B ≤ w.heap.size) : Below B a w' := by
 refine hb.grown hg hs fun q e => ?_
 rcases hv with ⟨rfl, _⟩ | ⟨g, cap, rfl, h1, _⟩
 · cases e
 ·
  obtain rfl : g = q := by simpa [Value.ownBlock] using e
  omega
end
theorem row_points {olds x rest : List Value} {m n : Nat} {e : Nat → List Value} (ho : olds.length = n * m) (hx : x.length = m) (hp : ∀ k, k < n → ∀ i, i < m → olds[k * m + i]? = (e k)[i]?) :
  ∀ k, k < n + 1 → ∀ i, i < m → (olds ++ x ++ rest)[k * m + i]? = (updE e n x k)[i]? := fun k hk i hi => by
 unfold updE
 by_cases c : k = n
 ·
  subst c;rw [if_pos rfl, List.append_assoc, List.getElem?_append_right (by omega), List.getElem?_append_left (by omega), ho, Nat.add_sub_cancel_left]
 ·
  have := mul_in (show k < n by omega) hi;rw [if_neg c, List.append_assoc, List.getElem?_append_left (by omega)];exact hp k (by omega) i hi
theorem no_limbs {olds x rest : List Value} (h1 : ∀ v, v ∈ olds → noLimb v = true) (hx : ∀ v, v ∈ x → noLimb v = true) (h2 : ∀ v, v ∈ rest → noLimb v = true) {cs : Array Value} (e : cs.toList = olds ++ x ++ rest) : ∀ (i : Nat) (v : Value), cs[i]? = some v → noLimb v = true := fun i v hv => by
 have hm : v ∈ cs.toList := by rw [Array.mem_toList_iff]; exact Array.mem_of_getElem? hv
 rw [e, List.append_assoc] at hm
 rcases List.mem_append.1 hm with hm | hm
 · exact h1 v hm
 ·
  rcases List.mem_append.1 hm with hm | hm
  · exact hx v hm
  · exact h2 v hm
theorem zeros_noL {z : Array Value} (hz : ∀ v ∈ z, noLimb v = true) (h0 : 0 < z.size) {k : Nat} : ∀ v, v ∈ (Builtin.zeroCells z k).toList → noLimb v = true := fun v hv => by
 unfold Builtin.zeroCells at hv;rw [Array.mem_toList_iff, Array.mem_map] at hv;obtain ⟨a, _, rfl⟩ := hv;have hlt : a % z.size < z.size := Nat.mod_lt _ h0;rw [getElem!_pos z _ hlt];exact hz _ (Array.getElem_mem hlt)
structure Elem (tS T : TypeId) (m : Nat) where
 und : Tryz.prog.underlying tS = some (.slice T)
 z : Value
 bytes : Nat
 info : (Tryz.prog.info? T).map (fun i => (i.zero, i.size, i.bytes)) = some (some z, m, bytes)
 size : z.cells.size = m
 pos : 0 < m
 noL : ∀ v ∈ z.cells, noLimb v = true
 few : bytes ≤ 4096
theorem append_rw {w : World} {tS T : TypeId} {m : Nat} (E : Elem tS T m) (ty : TypeId) {b0 n : Nat} {v : Value} {e : Nat → List Value} (hv : RwV T m b0 v n e w) (hb0 : b0 ≤ w.heap.size) (a : Addr) (c : Nat) (x : List Value) (hxl : x.length = m) (hxn : ∀ u ∈ x, noLimb u = true) (hx1 : ∀ u ∈ x, u.oneCell' = true) (hx : ∀ j u, x[j]? = some u → w.cell? (a.add j) = some u) (hn : n ≤ 1000) :
  ∃ g cap w', (Builtin.append_ #[tS, tS] ty #[v, .slice (some a) 1 c]).run Tryz.prog w = .ok (.slice (some ⟨g, 0, none⟩) (n + 1) cap) w' ∧ b0 ≤ g ∧
   Rw T m g (n + 1) cap (updE e n x) w' ∧ w.grownBy w' v.ownBlock := by
 obtain ⟨i, hi, hz, hs, hby⟩ := info_parts E.info;have hund := E.und
 have hl : x.length = 1 * i.size := by rw [hxl, hs, Nat.one_mul]
 have hge := fun old => grownCap_ge w (n + 1) old T
 have hcm := fun old => grownCap_le_maxLen w (n + 1) old T (show n + 1 ≤ maxLen by unfold maxLen; omega)
 have hzs := E.size;have hfew := E.few
 have hz0 : ∀ k, ∀ v, v ∈ (Builtin.zeroCells E.z.cells k).toList → noLimb v = true := fun k => zeros_noL E.noL (by rw [hzs]; exact E.pos)
 rcases hv with ⟨rfl, rfl⟩ | ⟨g, cap, rfl, hg, h1, h2, cs, h3, h4, h5, h6⟩
 ·
  have hr := run_append_nil (P := Tryz.prog) w tS ty T i E.z hund hi hz a 1 c x hl hx (by decide) (by decide) (by rw [hby]; omega);refine ⟨_, _, _, hr, hb0, ⟨hge 0, hcm 0, _, heap_alloc_new w.drew _, ?_, ?_, ?_⟩, ⟨rfl, rfl, rfl, by simp, fun k hk _ => heap_alloc_old w.drew _ hk⟩⟩
  ·
   have h0 := hge 0;rw [Nat.zero_add] at h0;simp only [Array.size_append, List.size_toArray, size_zeroCells, hzs, hxl]
   obtain ⟨d, hd⟩ : ∃ d, grownCap w 1 0 T = d + 1 := ⟨_, (Nat.sub_add_cancel h0).symm⟩
   rw [hd, Nat.add_sub_cancel, Nat.succ_mul, Nat.add_comm]
  · exact no_limbs (olds := []) (fun v hv => absurd hv (by simp)) hxn (hz0 (grownCap w 1 0 T - 1)) (by simp)
  ·
   intro k hk i hi;have := row_points (olds := []) (rest := (Builtin.zeroCells E.z.cells (grownCap w 1 0 T - 1)).toList) (n := 0) (e := e) (by simp) hxl (fun k hk => absurd hk (by omega)) k hk i hi;rw [← this, ← Array.getElem?_toList]
   simp
 ·
  have hnm : n * m ≤ cap * m := Nat.mul_le_mul_right m h1
  have hlt : (cs.toList.take (n * m)).length = n * m := by rw [List.length_take, Array.length_toList, h4]; omega
  have hp : ∀ k, k < n → ∀ i, i < m → (cs.toList.take (n * m))[k * m + i]? = (e k)[i]? := fun k hk i hi => by
   rw [List.getElem?_take_of_lt (mul_in hk hi), Array.getElem?_toList];exact h6 k hk i hi
  have hno : ∀ v, v ∈ cs.toList → noLimb v = true := fun v hv => by
   obtain ⟨i, hi⟩ := List.getElem?_of_mem hv;exact h5 i v (by simpa using hi)
  by_cases hroom : n + 1 ≤ cap
  ·
   have hnm2 : n * m + m ≤ cap * m := by have := Nat.mul_le_mul_right m hroom; rwa [Nat.succ_mul] at this
   have hr := run_append_room (P := Tryz.prog) w tS ty T i hund hi g n cap cs h3 a 1 c x hl hx hx1 hroom (by rw [hs, hxl, h4]; exact hnm2);rw [hs, hxl] at hr;refine ⟨_, _, _, hr, hg, ⟨hroom, h2, _, setRow_heap w g cs _ _ _ h3, ?_, ?_, ?_⟩, ⟨rfl, rfl, rfl, by simp, fun k _ hk => setRow_other w g k _ (fun e => hk (by simp [Value.ownBlock, e]))⟩⟩
   ·
    simp only [List.size_toArray, List.length_append, hlt, hxl, List.length_drop, Array.length_toList, h4];omega
   · exact no_limbs (fun v hv => hno v (List.mem_of_mem_take hv)) hxn (fun v hv => hno v (List.mem_of_mem_drop hv)) rfl
   ·
    intro k hk i hi;rw [List.getElem?_toArray];exact row_points hlt hxl hp k hk i hi
  ·
   have hr := run_append_grow (P := Tryz.prog) w tS ty T i E.z hund hi hz ⟨g, 0, none⟩ n cap (cs.toList.take (n * m)) (by rw [hlt, hs]) (fun j u hu => by
     have hj : j < n * m := by
      have := (List.getElem?_eq_some_iff.1 hu).1;omega
     rw [Addr.add_mid, Nat.zero_add, h3.cell];rw [List.getElem?_take_of_lt hj, Array.getElem?_toList] at hu
     exact hu) a 1 c x hl hx (by omega) (by omega) (growslice_fits (by omega) (by
      rw [hby]
      exact Nat.le_trans (Nat.mul_le_mul (show n + 1 ≤ 1001 by omega) hfew) (by decide)))
   refine ⟨_, _, _, hr, hb0, ⟨hge cap, hcm cap, _, heap_alloc_new w.drew _, ?_, ?_, ?_⟩, ⟨rfl, rfl, rfl, by simp, fun k hk _ => heap_alloc_old w.drew _ hk⟩⟩
   ·
    have := hge cap;simp only [Array.size_append, List.size_toArray, size_zeroCells, hzs, hxl, hlt]
    obtain ⟨d, hd⟩ : ∃ d, grownCap w (n + 1) cap T = (n + 1) + d := ⟨_, (Nat.add_sub_cancel' this).symm⟩
    rw [hd, Nat.add_sub_cancel_left, Nat.add_mul, Nat.succ_mul]
   · exact no_limbs (olds := cs.toList.take (n * m)) (fun v hv => hno v (List.mem_of_mem_take hv)) hxn (hz0 (grownCap w (n + 1) cap T - (n + 1))) (by simp)
   ·
    intro k hk i hi;have := row_points (rest := (Builtin.zeroCells E.z.cells (grownCap w (n + 1) cap T - (n + 1))).toList) hlt hxl hp k hk i hi;rw [← this, ← Array.getElem?_toList]
    simp
theorem Env.rwv {w W : World} {P : World → Prop} {T : TypeId} {m b0 n : Nat} {v : Value} {e : Nat → List Value} (hE : Env w P W) (h : RwV T m b0 v n e W) : Env w (fun V => P V ∧ RwV T m b0 v n e V) W := hE.and (RwV.stable _ _ _ _ _ _) h
section
variable {T : TypeId} {m b0 n : Nat} {v : Value} {e : Nat → List Value} {w w' : World}
end
def intElem : Elem 34 3 1 := ⟨Tryz.underlying34, .int .i64 0, 8, by kernel_rfl, rfl, by decide, fun v hv => by
 simp only [Value.cells, List.mem_toArray, List.mem_cons, List.not_mem_nil, or_false] at hv
 subst hv; rfl, by decide⟩
def intR (z : Nat → Int) (k : Nat) : List Value := [.int .i64 (z k)]
theorem intR_push (z : Nat → Int) (n k : Nat) : updE (intR z) n [.int .i64 (z n)] k = intR z k := by
 unfold updE intR
 by_cases e : k = n
 · subst e; rw [if_pos rfl]
 · rw [if_neg e]
theorem push_int (ty : TypeId) {b0 n k : Nat} {v : Value} {z : Nat → Int} {x : Int} {W : World} (hv : RwV 3 1 b0 v n (intR z) W) (hb0 : b0 ≤ W.heap.size) (hx : x = z n) (hB : Blk 3 k #[.int .i64 x] W) (hn : n ≤ 1000) :
  ∃ v' W', (Builtin.append_ #[34, 34] ty #[v, .slice (some ⟨k, 0, none⟩) 1 1]).run Tryz.prog W = .ok v' W' ∧ RwV 3 1 b0 v' (n + 1) (intR z) W' ∧ W.grownBy W' v.ownBlock := by
 subst hx;obtain ⟨g, cap, w8, hr, hg0, hR, hgr⟩ := append_rw intElem ty hv hb0 ⟨k, 0, none⟩ 1 [.int .i64 (z n)] rfl (fun u hu => by simp only [List.mem_cons, List.not_mem_nil, or_false] at hu; subst hu; rfl) (fun u hu => by simp only [List.mem_cons, List.not_mem_nil, or_false] at hu; subst hu; rfl) (fun j u hu => by rw [Addr.add_mid, Nat.zero_add, hB.cell, List.getElem?_toArray]; exact hu) hn;exact ⟨_, w8, hr, .inr ⟨g, cap, rfl, hg0, hR.congr (fun j _ => intR_push z n j)⟩, hgr⟩
theorem RwV.rdI {b0 n : Nat} {v : Value} {z : Nat → Int} {W : World} (hv : RwV 3 1 b0 v n (intR z) W) : ∃ A c, v = .slice A n c ∧ RdI A n z W := by
 rcases hv with ⟨rfl, rfl⟩ | ⟨g, cap, rfl, -, hR⟩
 · exact ⟨none, 0, rfl, RdI.nil none⟩
 · exact ⟨some ⟨g, 0, none⟩, cap, rfl, fun k hk => ⟨g, 0, rfl, hR.lt, hR.cell hk (i := 0) (by decide) (by omega) rfl⟩⟩
def RwU (T : TypeId) (m B : Nat) (A : Option Addr) (n : Nat) (e : Nat → List Value) (W : World) : Prop := 0 < n → ∃ g cap, A = some ⟨g, 0, none⟩ ∧ g < B ∧ Rw T m g n cap e W
theorem RwU.stable (T : TypeId) (m B : Nat) (A : Option Addr) (n : Nat) (e : Nat → List Value) : Stable (RwU T m B A n e) := fun _ _ hb h h0 => by
 obtain ⟨g, cap, e1, hg, hR⟩ := h h0;exact ⟨g, cap, e1, hg, Rw.stable _ _ _ _ _ _ _ _ hb hR⟩
theorem Env.rwu {w W : World} {P : World → Prop} {T : TypeId} {m B n : Nat} {A : Option Addr} {e : Nat → List Value} (hE : Env w P W) (h : RwU T m B A n e W) : Env w (fun V => P V ∧ RwU T m B A n e V) W := hE.and (RwU.stable _ _ _ _ _ _) h
section
variable {w w' : World} {t T : TypeId} {m m2 b0 B n n2 : Nat} {A : Option Addr} {u v : Value} {e e2 : Nat → List Value}
theorem RwU.grownR (h : RwU t m2 B A n2 e2 w) (hv : RwV T m b0 v n e w) (hg : w.grownBy w' v.ownBlock) (hB : B ≤ b0) : RwU t m2 B A n2 e2 w' := fun h0 => by
 obtain ⟨g, cap, e1, hgB, hR⟩ := h h0;exact ⟨g, cap, e1, hgB, hR.grownR hv hg (.inl (by omega))⟩
end
theorem RwU.far {t T : TypeId} {m B n k : Nat} {A : Option Addr} {e : Nat → List Value} {ds : Array Value} {w w' : World} (h : RwU T m B A n e w) (hB : Blk t k ds w) (ht : T ≠ t) (hg : w.grownBy w' (some k)) : RwU T m B A n e w' := fun h0 => by
 obtain ⟨g, cap, e1, hgB, hR⟩ := h h0;exact ⟨g, cap, e1, hgB, hR.grownB hg (hR.ne hB ht)⟩
theorem RwU.rdI {B n : Nat} {A : Option Addr} {z : Nat → Int} {W : World} (h : RwU 3 1 B A n (intR z) W) : RdI A n z W := fun k hk => by
 obtain ⟨g, cap, e1, _, hR⟩ := h (by omega);exact ⟨g, 0, e1, hR.lt, hR.cell hk (i := 0) (by decide) (by omega) rfl⟩
theorem Env.szb {w W : World} {P : World → Prop} {B : Nat} (hE : Env w P W) (h : B ≤ W.heap.size) : Env w (fun V => P V ∧ B ≤ V.heap.size) W := hE.and (fun _ _ hb h => Nat.le_trans h hb.size) h
theorem Env.rdi {w W : World} {P : World → Prop} {A : Option Addr} {n : Nat} {l : Nat → Int} (hE : Env w P W) (h : RdI A n l W) : Env w (fun V => P V ∧ RdI A n l V) W := hE.and (RdI.stable A n l) h
theorem RwV.rdS {b0 n c : Nat} {A : Option Addr} {z : Nat → Int} {W : World} (hv : RwV 3 1 b0 (.slice A n c) n (intR z) W) : RdI A n z W := by
 obtain ⟨A', c', e, h⟩ := hv.rdI
 cases e
 exact h
theorem Env.ctr {w W : World} {P : World → Prop} {x : Ct} (hE : Env w P W) (h : x.rd W) : Env w (fun V => P V ∧ x.rd V) W := hE.and (fun _ _ hb h => Ct.rd_below h hb) h
end Go.Proofs.YtclbiihcbfnjmaaGreat
