/-
  The columns of a life in memory: six fractions each; how they are changed and appended to.
-/
import Derived.Laws.AppendOwn
import Derived.Test.YtmjlankpihnicaaGreatK7
namespace Go.Proofs.YtmjlankpihnicaaGreat
open Go.RowKit

theorem add_none0 (b j : Nat) : (⟨b, 0, none⟩ : Addr).add j = ⟨b, j, none⟩ := by
  unfold Addr.add
  simp
  exact fun h => h.symm
/-- A fraction's four cells. -/
structure Q8 where
  s : Bool
  A : Option Addr
  n : Nat
  c : Nat
  t : Bool
  B : Option Addr
  m : Nat
  d : Nat
def Q8.cell (x : Q8) : Nat → Value
  | 0 => .bool x.s
  | 1 => .slice x.A x.n x.c
  | 2 => .bool x.t
  | _ => .slice x.B x.m x.d
def Q8.fv (x : Q8) (W : World) (q : Rat) : Prop := FV W q x.s x.A x.n x.t x.B x.m
def Q8.z : Q8 := ⟨false, none, 0, 0, false, none, 0, 0⟩
theorem Q8.noL (x : Q8) (i : Nat) : noLimb (x.cell i) = true := by unfold Q8.cell; split <;> rfl
/-- The cells of a column. -/
def cols1 (x : Nat → Q8) : List Value := (List.range 24).map (fun i => (x (i / 4)).cell (i % 4))
theorem cols1_len (x : Nat → Q8) : (cols1 x).length = 24 := by simp [cols1]
theorem cols1_at (x : Nat → Q8) {i : Nat} (h : i < 24) : (cols1 x)[i]? = some ((x (i / 4)).cell (i % 4)) := by
  unfold cols1
  rw [List.getElem?_map, List.getElem?_range h]
  rfl
theorem cols1_in {x : Nat → Q8} {u : Value} (h : u ∈ cols1 x) : ∃ y : Q8, ∃ i, u = y.cell i := by
  unfold cols1 at h
  obtain ⟨i, _, rfl⟩ := List.mem_map.1 h
  exact ⟨_, _, rfl⟩
/-- Block g has n columns; their cells by P. -/
def ColP (g n cap : Nat) (P : Nat → Nat → Nat → Value) (W : World) : Prop :=
  n ≤ cap ∧ cap ≤ maxLen ∧ ∃ cs : Array Value, Blk 53 g cs W ∧ cs.size = cap * 24 ∧ (∀ (i : Nat) (v : Value), cs[i]? = some v → noLimb v = true) ∧
    ∀ k, k < n → ∀ j, j < 6 → ∀ i, i < 4 → cs[k * 24 + (j * 4 + i)]? = some (P k j i)
/-- Block g has n columns. -/
def ColB (g n cap : Nat) (h : Nat → Nat → Q8) : World → Prop := ColP g n cap (fun k j i => (h k j).cell i)
section
variable {w w' W : World} {g n cap B : Nat} {P : Nat → Nat → Nat → Value} {h : Nat → Nat → Q8}
theorem all_noLimb {cs : Array Value} (h : ∀ (i : Nat) (v : Value), cs[i]? = some v → noLimb v = true) : cs.toList.all noLimb = true :=
  List.all_eq_true.2 fun v hv => by
    obtain ⟨i, hi⟩ := List.getElem?_of_mem hv
    exact h i v (by simpa using hi)
theorem ColP.lt (h : ColP g n cap P W) : g < W.heap.size := by obtain ⟨_, _, cs, hb, _⟩ := h; exact hb.lt
theorem ColP.at_ (h : ColP g n cap P W) {k j i : Nat} (hk : k < n) (hj : j < 6) (hi : i < 4) : W.cell? ⟨g, k * 24 + (j * 4 + i), none⟩ = some (P k j i) := by
  obtain ⟨_, _, cs, hb, _, _, hc⟩ := h
  rw [hb.cell]
  exact hc k hk j hj i hi
theorem ColP.frozen (h : ColP g n cap P W) (i : Nat) : W.frozen? ⟨g, i, none⟩ = false := by obtain ⟨_, _, cs, hb, _⟩ := h; exact hb.frozen i
theorem ColP.stable (g n cap : Nat) (P : Nat → Nat → Nat → Value) : Stable (ColP g n cap P) := fun _ _ hb ⟨h1, h2, cs, h3, h4⟩ => ⟨h1, h2, cs, h3.below hb h3.lt, h4⟩
theorem ColP.below (h : ColP g n cap P w) (hb : Below w.heap.size w w') : ColP g n cap P w' := ColP.stable _ _ _ _ _ _ hb h
theorem ColP.congr {P' : Nat → Nat → Nat → Value} (h : ColP g n cap P W) (e : ∀ k, k < n → ∀ j, j < 6 → ∀ i, i < 4 → P k j i = P' k j i) : ColP g n cap P' W := by
  obtain ⟨h1, h2, cs, h3, h4, h5, h6⟩ := h
  exact ⟨h1, h2, cs, h3, h4, h5, fun k hk j hj i hi => by rw [h6 k hk j hj i hi, e k hk j hj i hi]⟩
theorem ColP.set (h : ColP g n cap P W) {k j i : Nat} (hk : k < n) (hj : j < 6) (hi : i < 4) {u : Value} (hu : noLimb u = true) :
    ColP g n cap (fun k' j' i' => if k' = k ∧ j' = j ∧ i' = i then u else P k' j' i') (W.setCell ⟨g, k * 24 + (j * 4 + i), none⟩ u) := by
  obtain ⟨h1, h2, cs, h3, h4, h5, h6⟩ := h
  refine ⟨h1, h2, _, h3.set_ _ u, by rw [Array.size_setIfInBounds, h4], fun a v hv => ?_, fun k' hk' j' hj' i' hi' => ?_⟩
  · rw [Array.getElem?_setIfInBounds] at hv
    split at hv
    · split at hv
      · cases hv; exact hu
      · cases hv
    · exact h5 a v hv
  · rw [Array.getElem?_setIfInBounds]
    by_cases e : k' = k ∧ j' = j ∧ i' = i
    · obtain ⟨rfl, rfl, rfl⟩ := e
      rw [if_pos rfl, if_pos (by omega)]
      dsimp only
      rw [if_pos ⟨rfl, rfl, rfl⟩]
    · dsimp only
      rw [if_neg (by omega), if_neg e, h6 k' hk' j' hj' i' hi']
theorem FV.sepP {q : Rat} {s t : Bool} {A C : Option Addr} {a b : Nat} (hf : FV W q s A a t C b) (h : ColP g n cap P W) (i : Nat) (u : Value) : FV (W.setCell ⟨g, i, none⟩ u) q s A a t C b := by
  obtain ⟨_, _, cs, h3, _, h5, _⟩ := h
  exact hf.sep h3 (all_noLimb h5) u
/-- One fraction of the columns, changed. -/
def upd (h : Nat → Nat → Q8) (k j : Nat) (x : Q8) : Nat → Nat → Q8 := fun k' j' => if k' = k ∧ j' = j then x else h k' j'
def set4 (W : World) (g o : Nat) (x : Q8) : World := (((W.setCell ⟨g, o, none⟩ (.bool x.s)).setCell ⟨g, o + 1, none⟩ (.slice x.A x.n x.c)).setCell ⟨g, o + 2, none⟩ (.bool x.t)).setCell ⟨g, o + 3, none⟩ (.slice x.B x.m x.d)
theorem ColB.set (hB : ColB g n cap h W) {k j : Nat} (hk : k < n) (hj : j < 6) (x : Q8) : ColB g n cap (upd h k j x) (set4 W g (k * 24 + j * 4) x) := by
  have h0 := ColP.set hB hk hj (show 0 < 4 by decide) (Q8.noL x 0)
  have h1 := ColP.set h0 hk hj (show 1 < 4 by decide) (Q8.noL x 1)
  have h2 := ColP.set h1 hk hj (show 2 < 4 by decide) (Q8.noL x 2)
  have h3 := ColP.set h2 hk hj (show 3 < 4 by decide) (Q8.noL x 3)
  refine ColP.congr h3 fun k' _ j' _ i' hi' => ?_
  unfold upd
  by_cases e : k' = k ∧ j' = j
  · obtain ⟨rfl, rfl⟩ := e
    obtain rfl | rfl | rfl | rfl : i' = 0 ∨ i' = 1 ∨ i' = 2 ∨ i' = 3 := by omega
    all_goals simp
  · have hh : ∀ a, ¬ (k' = k ∧ j' = j ∧ i' = a) := fun a ha => e ⟨ha.1, ha.2.1⟩
    simp only [if_neg (hh _), if_neg e]
theorem FV.set4 {q : Rat} {s t : Bool} {A C : Option Addr} {a b : Nat} (hf : FV W q s A a t C b) (hB : ColB g n cap h W) {k j : Nat} (hk : k < n) (hj : j < 6) (x : Q8) : FV (Go.Proofs.YtmjlankpihnicaaGreat.set4 W g (k * 24 + j * 4) x) q s A a t C b := by
  have h0 := ColP.set hB hk hj (show 0 < 4 by decide) (Q8.noL x 0)
  have h1 := ColP.set h0 hk hj (show 1 < 4 by decide) (Q8.noL x 1)
  have h2 := ColP.set h1 hk hj (show 2 < 4 by decide) (Q8.noL x 2)
  exact (((hf.sepP hB _ _).sepP h0 _ _).sepP h1 _ _).sepP h2 _ _
theorem Blk.set4 {t : TypeId} {b : Nat} {cs : Array Value} (hb : Blk t b cs W) (hne : b ≠ g) (o : Nat) (x : Q8) : Blk t b cs (Go.Proofs.YtmjlankpihnicaaGreat.set4 W g o x) :=
  (((hb.far (p := ⟨g, _, none⟩) hne _).far (p := ⟨g, _, none⟩) hne _).far (p := ⟨g, _, none⟩) hne _).far (p := ⟨g, _, none⟩) hne _
theorem Blk.ne_col {t : TypeId} {b : Nat} {cs : Array Value} (hb : Blk t b cs W) (hB : ColP g n cap P W) (ht : t ≠ 53) : b ≠ g := fun e => by
  obtain ⟨_, _, cs', h3, _⟩ := hB
  subst e
  have := Option.some.inj (hb.symm.trans h3)
  injection this with _ e2 _
  exact ht e2
theorem Below.set4 {w : World} (hb : Below B w W) (hg : B ≤ g) (o : Nat) (x : Q8) : Below B w (Go.Proofs.YtmjlankpihnicaaGreat.set4 W g o x) :=
  (((hb.setCell (p := ⟨g, _, none⟩) hg _).setCell (p := ⟨g, _, none⟩) hg _).setCell (p := ⟨g, _, none⟩) hg _).setCell (p := ⟨g, _, none⟩) hg _
end
/-- The slice v has n columns, in a block from b0 on. -/
def ColV (b0 : Nat) (v : Value) (n : Nat) (h : Nat → Nat → Q8) (W : World) : Prop := (v = .slice none 0 0 ∧ n = 0) ∨ ∃ g cap, v = .slice (some ⟨g, 0, none⟩) n cap ∧ b0 ≤ g ∧ ColB g n cap h W
section
variable {w w' W : World} {b0 n B : Nat} {v : Value} {h : Nat → Nat → Q8}
theorem ColV.stable (b0 : Nat) (v : Value) (n : Nat) (h : Nat → Nat → Q8) : Stable (ColV b0 v n h) := fun _ _ hb hv => by
  rcases hv with hv | ⟨g, cap, e, hg, hB⟩
  · exact .inl hv
  · exact .inr ⟨g, cap, e, hg, ColP.stable _ _ _ _ _ _ hb hB⟩
theorem cell_same {b o : Nat} (e : w'.heap[b]? = w.heap[b]?) : w'.cell? ⟨b, o, none⟩ = w.cell? ⟨b, o, none⟩ := by simp only [World.cell?, e]
theorem Rd.grownV {A : Option Addr} {m : Nat} {f : Nat → Nat} (hr : Rd w.heap.size .u16 w A m f) (hv : ColV b0 v n h w) (hg : w.grownBy w' v.ownBlock) : Rd w'.heap.size .u16 w' A m f := fun h0 => by
  obtain ⟨b, o, e, hb, hc⟩ := hr h0
  refine ⟨b, o, e, Nat.lt_of_lt_of_le hb hg.size, fun i hi => ?_⟩
  have h1 := hc i hi
  rw [cell_same (hg.block b hb fun e2 => ?_)]
  · exact h1
  · rcases hv with ⟨rfl, _⟩ | ⟨g, cap, rfl, _, hB⟩
    · cases e2
    · obtain rfl : b = g := by simpa [Value.ownBlock] using e2
      obtain ⟨_, _, cs, h3, _, h5, _⟩ := hB
      rw [h3.cell] at h1
      exact absurd (h5 _ _ h1) (by simp [noLimb])
theorem WV.grownV {z : Int} {s : Bool} {A : Option Addr} {m : Nat} (hw : WV w z s A m) (hv : ColV b0 v n h w) (hg : w.grownBy w' v.ownBlock) : WV w' z s A m := ⟨hw.1, hw.2.1, Rd.grownV hw.2.2 hv hg⟩
theorem FV.grownV {q : Rat} {s t : Bool} {A C : Option Addr} {a b : Nat} (hf : FV w q s A a t C b) (hv : ColV b0 v n h w) (hg : w.grownBy w' v.ownBlock) : FV w' q s A a t C b := ⟨hf.1.grownV hv hg, hf.2.grownV hv hg⟩
theorem Blk.grownV {t : TypeId} {b : Nat} {cs : Array Value} (hb : Blk t b cs w) (hv : ColV b0 v n h w) (hg : w.grownBy w' v.ownBlock) (ht : t ≠ 53) : Blk t b cs w' := by
  refine (hg.block b hb.lt fun e2 => ?_).trans hb
  rcases hv with ⟨rfl, _⟩ | ⟨g, cap, rfl, _, hB⟩
  · cases e2
  · obtain rfl : b = g := by simpa [Value.ownBlock] using e2
    exact Blk.ne_col hb hB ht rfl
theorem Below.grownV (hb : Below B w W) (hv : ColV b0 v n h W) (hg : W.grownBy w' v.ownBlock) (hB : B ≤ b0) (hs : B ≤ W.heap.size) : Below B w w' := by
  refine hb.grown hg hs fun q e => ?_
  rcases hv with ⟨rfl, _⟩ | ⟨g, cap, rfl, h1, _⟩
  · cases e
  · obtain rfl : g = q := by simpa [Value.ownBlock] using e
    omega
end
def zcol : Value := .agg #[.bool false, .slice none 0 0, .bool false, .slice none 0 0, .bool false, .slice none 0 0, .bool false, .slice none 0 0, .bool false, .slice none 0 0, .bool false, .slice none 0 0, .bool false, .slice none 0 0, .bool false, .slice none 0 0, .bool false, .slice none 0 0, .bool false, .slice none 0 0, .bool false, .slice none 0 0, .bool false, .slice none 0 0]
theorem info_col : (Tryz.prog.info? 53).map (fun i => (i.zero, i.size, i.bytes)) = some (some zcol, 24, 384) := by kernel_rfl
theorem col_points {olds rest : List Value} {n : Nat} {h : Nat → Nat → Q8} {x : Nat → Q8} (ho : olds.length = n * 24) (hp : ∀ k, k < n → ∀ j, j < 6 → ∀ i, i < 4 → olds[k * 24 + (j * 4 + i)]? = some ((h k j).cell i)) :
    ∀ k, k < n + 1 → ∀ j, j < 6 → ∀ i, i < 4 → (olds ++ cols1 x ++ rest)[k * 24 + (j * 4 + i)]? = some (((if k = n then x else h k) j).cell i) := fun k hk j hj i hi => by
  have hl := cols1_len x
  by_cases e : k = n
  · subst e
    rw [if_pos rfl, List.append_assoc, List.getElem?_append_right (by omega), List.getElem?_append_left (by omega), cols1_at x (by omega)]
    rw [show (k * 24 + (j * 4 + i) - olds.length) / 4 = j by omega, show (k * 24 + (j * 4 + i) - olds.length) % 4 = i by omega]
  · rw [if_neg e, List.append_assoc, List.getElem?_append_left (by omega)]
    exact hp k (by omega) j hj i hi
theorem no_limb3 {olds rest : List Value} {x : Nat → Q8} (h1 : ∀ v, v ∈ olds → noLimb v = true) (h2 : ∀ v, v ∈ rest → noLimb v = true) {cs : Array Value} (e : cs.toList = olds ++ cols1 x ++ rest) : ∀ (i : Nat) (v : Value), cs[i]? = some v → noLimb v = true := fun i v hv => by
  have hm : v ∈ cs.toList := by rw [Array.mem_toList_iff]; exact Array.mem_of_getElem? hv
  rw [e, List.append_assoc] at hm
  rcases List.mem_append.1 hm with hm | hm
  · exact h1 v hm
  · rcases List.mem_append.1 hm with hm | hm
    · obtain ⟨y, a, rfl⟩ := cols1_in hm
      exact y.noL a
    · exact h2 v hm
theorem zero_noL {m : Nat} : ∀ v, v ∈ (Builtin.zeroCells zcol.cells m).toList → noLimb v = true := fun v hv => by
  unfold Builtin.zeroCells at hv
  simp [zcol, Value.cells] at hv
  obtain ⟨a, _, rfl⟩ := hv
  have hb : a % 24 < 24 := Nat.mod_lt _ (by decide)
  generalize a % 24 = b at hb
  rcases b with _ | _ | _ | _ | _ | _ | _ | _ | _ | _ | _ | _ | _ | _ | _ | _ | _ | _ | _ | _ | _ | _ | _ | _ | b
  all_goals first | rfl | omega
theorem append_col {w : World} (ty : TypeId) {b0 n : Nat} {v : Value} {h : Nat → Nat → Q8} (hv : ColV b0 v n h w) (hb0 : b0 ≤ w.heap.size) (a : Addr) (c : Nat) (x : Nat → Q8) (hx : ∀ j u, (cols1 x)[j]? = some u → w.cell? (a.add j) = some u) (hn : n ≤ 1000) :
    ∃ g cap w', (Builtin.append_ #[43, 43] ty #[v, .slice (some a) 1 c]).run Tryz.prog w = .ok (.slice (some ⟨g, 0, none⟩) (n + 1) cap) w' ∧ b0 ≤ g ∧
      ColB g (n + 1) cap (fun k => if k = n then x else h k) w' ∧ w.grownBy w' v.ownBlock := by
  obtain ⟨i, hi, hz, hs, hby⟩ := info_parts info_col
  have hund : Tryz.prog.underlying 43 = some (.slice 53) := Tryz.underlying43
  have hl : (cols1 x).length = 1 * i.size := by rw [cols1_len, hs]
  have hge := fun old => grownCap_ge w (n + 1) old 53
  have hcm := fun old => grownCap_le_maxLen w (n + 1) old 53 (show n + 1 ≤ maxLen by unfold maxLen; omega)
  have hzs : zcol.cells.size = 24 := rfl
  rcases hv with ⟨rfl, rfl⟩ | ⟨g, cap, rfl, hg, h1, h2, cs, h3, h4, h5, h6⟩
  · have hr := run_append_nil (P := Tryz.prog) w 43 ty 53 i zcol hund hi hz a 1 c (cols1 x) hl hx (by decide) (by decide) (by rw [hby]; decide)
    refine ⟨_, _, _, hr, hb0, ⟨hge 0, hcm 0, _, heap_alloc_new w.drew _, ?_, ?_, ?_⟩, ⟨rfl, rfl, rfl, by simp, fun k hk _ => heap_alloc_old w.drew _ hk⟩⟩
    · have h0 := hge 0
      rw [Nat.zero_add] at h0
      simp only [Array.size_append, List.size_toArray, size_zeroCells, hzs, cols1_len]
      omega
    · exact no_limb3 (olds := []) (fun v hv => absurd hv (by simp)) (zero_noL (m := grownCap w 1 0 53 - 1)) (x := x) (by simp)
    · intro k hk j hj i hi
      have := col_points (olds := []) (rest := (Builtin.zeroCells zcol.cells (grownCap w 1 0 53 - 1)).toList) (n := 0) (h := h) (x := x) rfl (fun k hk => absurd hk (by omega)) k hk j hj i hi
      rw [← this, ← Array.getElem?_toList]
      simp
  · have hlt : (cs.toList.take (n * 24)).length = n * 24 := by rw [List.length_take, Array.length_toList, h4]; omega
    have hp : ∀ k, k < n → ∀ j, j < 6 → ∀ i, i < 4 → (cs.toList.take (n * 24))[k * 24 + (j * 4 + i)]? = some ((h k j).cell i) := fun k hk j hj i hi => by
      rw [List.getElem?_take_of_lt (by omega), Array.getElem?_toList]
      exact h6 k hk j hj i hi
    have hno : ∀ v, v ∈ cs.toList → noLimb v = true := fun v hv => by
      obtain ⟨i, hi⟩ := List.getElem?_of_mem hv
      exact h5 i v (by simpa using hi)
    by_cases hroom : n + 1 ≤ cap
    · have hr := run_append_room (P := Tryz.prog) w 43 ty 53 i hund hi g n cap cs h3 a 1 c (cols1 x) hl hx (fun u hu => by obtain ⟨y, b, rfl⟩ := cols1_in hu; unfold Q8.cell; split <;> rfl) hroom (by rw [hs, cols1_len, h4]; omega)
      rw [hs, cols1_len] at hr
      refine ⟨_, _, _, hr, hg, ⟨hroom, h2, _, setRow_heap w g cs _ _ _ h3, ?_, ?_, ?_⟩, ⟨rfl, rfl, rfl, by simp, fun k _ hk => setRow_other w g k _ (fun e => hk (by simp [Value.ownBlock, e]))⟩⟩
      · simp only [List.size_toArray, List.length_append, hlt, cols1_len, List.length_drop, Array.length_toList, h4]
        omega
      · exact no_limb3 (fun v hv => hno v (List.mem_of_mem_take hv)) (fun v hv => hno v (List.mem_of_mem_drop hv)) rfl
      · intro k hk j hj i hi
        rw [List.getElem?_toArray]
        exact col_points hlt hp k hk j hj i hi
    · have hr := run_append_grow (P := Tryz.prog) w 43 ty 53 i zcol hund hi hz ⟨g, 0, none⟩ n cap (cs.toList.take (n * 24)) (by rw [hlt, hs]) (fun j u hu => by
          rw [add_none0, h3.cell]
          have hj : j < n * 24 := by
            have := (List.getElem?_eq_some_iff.1 hu).1
            omega
          rw [List.getElem?_take_of_lt hj, Array.getElem?_toList] at hu
          exact hu) a 1 c (cols1 x) hl hx (by omega) (by omega) (growslice_fits (by omega) (by rw [hby]; omega))
      refine ⟨_, _, _, hr, hb0, ⟨hge cap, hcm cap, _, heap_alloc_new w.drew _, ?_, ?_, ?_⟩, ⟨rfl, rfl, rfl, by simp, fun k hk _ => heap_alloc_old w.drew _ hk⟩⟩
      · have := hge cap
        simp only [Array.size_append, List.size_toArray, size_zeroCells, hzs, cols1_len, hlt]
        omega
      · exact no_limb3 (olds := cs.toList.take (n * 24)) (fun v hv => hno v (List.mem_of_mem_take hv)) (zero_noL (m := grownCap w (n + 1) cap 53 - (n + 1))) (x := x) (by simp)
      · intro k hk j hj i hi
        have := col_points (rest := (Builtin.zeroCells zcol.cells (grownCap w (n + 1) cap 53 - (n + 1))).toList) (x := x) hlt hp k hk j hj i hi
        rw [← this, ← Array.getElem?_toList]
        simp
/-- The fractions of n columns, those of J, are the numbers q. -/
def ColQ (h : Nat → Nat → Q8) (n : Nat) (J : Nat → Nat → Prop) (q : Nat → Nat → Rat) (W : World) : Prop := ∀ k, k < n → ∀ j, j < 6 → J k j → (h k j).fv W (q k j)
section
variable {w w' W : World} {g n cap b0 : Nat} {v : Value} {P : Nat → Nat → Nat → Value} {h : Nat → Nat → Q8} {J : Nat → Nat → Prop} {q : Nat → Nat → Rat}
theorem ColQ.stable (h : Nat → Nat → Q8) (n : Nat) (J : Nat → Nat → Prop) (q : Nat → Nat → Rat) : Stable (ColQ h n J q) := fun _ _ hb hq k hk j hj hJ => FV.below (hq k hk j hj hJ) hb
theorem ColQ.to (hq : ColQ h n J q W) (hf : ∀ {q : Rat} {s t : Bool} {A C : Option Addr} {a b : Nat}, FV W q s A a t C b → FV w' q s A a t C b) : ColQ h n J q w' := fun k hk j hj hJ => hf (hq k hk j hj hJ)
theorem ColQ.sub {J' : Nat → Nat → Prop} (hq : ColQ h n J q W) (e : ∀ k, k < n → ∀ j, j < 6 → J' k j → J k j) : ColQ h n J' q W := fun k hk j hj hJ => hq k hk j hj (e k hk j hj hJ)
/-- One fraction more is known. -/
theorem ColQ.set {x : Q8} {k j : Nat} {J' : Nat → Nat → Prop} (hq : ColQ h n J q W) (hx : x.fv W (q k j)) (e : ∀ k', k' < n → ∀ j', j' < 6 → J' k' j' → (k' = k ∧ j' = j) ∨ J k' j') : ColQ (upd h k j x) n J' q W := fun k' hk' j' hj' hJ => by
  unfold upd
  by_cases c : k' = k ∧ j' = j
  · obtain ⟨rfl, rfl⟩ := c
    rw [if_pos ⟨rfl, rfl⟩]; exact hx
  · rw [if_neg c]
    rcases e k' hk' j' hj' hJ with c2 | c2
    · exact absurd c2 c
    · exact hq k' hk' j' hj' c2
/-- One column more. -/
theorem ColQ.snoc {x : Nat → Q8} {J' : Nat → Nat → Prop} (hq : ColQ h n J q W) (hx : ∀ j, j < 6 → J' n j → (x j).fv W (q n j)) (e : ∀ k, k < n → ∀ j, j < 6 → J' k j → J k j) : ColQ (fun k => if k = n then x else h k) (n + 1) J' q W := fun k hk j hj hJ => by
  by_cases c : k = n
  · subst c
    simp only [if_pos]
    exact hx j hj hJ
  · simp only [if_neg c]
    exact hq k (by omega) j hj (e k (by omega) j hj hJ)
theorem ColP.far (hc : ColP g n cap P W) {p : Addr} (hp : g ≠ p.block) (u : Value) : ColP g n cap P (W.setCell p u) := by
  obtain ⟨h1, h2, cs, h3, h4⟩ := hc
  exact ⟨h1, h2, cs, h3.far hp u, h4⟩
theorem ColV.far (hv : ColV b0 v n h W) {R : Nat} {t : TypeId} {cs : Array Value} (hR : Blk t R cs W) (ht : t ≠ 53) (i : Nat) (u : Value) : ColV b0 v n h (W.setCell ⟨R, i, none⟩ u) := by
  rcases hv with hv | ⟨g, cap, e, hg, hB⟩
  · exact .inl hv
  · exact .inr ⟨g, cap, e, hg, ColP.far hB (p := ⟨R, i, none⟩) (Ne.symm (Blk.ne_col hR hB ht)) u⟩
theorem ColV.far4 (hv : ColV b0 v n h W) {R : Nat} {t : TypeId} {x y z u : Value} (hR : Blk t R #[x, y, z, u] W) (ht : t ≠ 53) (a b c d : Value) : ColV b0 v n h ((((W.setCell ⟨R, 0, none⟩ a).setCell ⟨R, 1, none⟩ b).setCell ⟨R, 2, none⟩ c).setCell ⟨R, 3, none⟩ d) :=
  (((hv.far hR ht 0 a).far (hR.set_ 0 a) ht 1 b).far ((hR.set_ 0 a).set_ 1 b) ht 2 c).far (((hR.set_ 0 a).set_ 1 b).set_ 2 c) ht 3 d
theorem ColQ.sep4 (hq : ColQ h n J q W) {R : Nat} {t : TypeId} {x y z u : Value} (hR : Blk t R #[x, y, z, u] W) (hn : [x, y, z, u].all noLimb = true) (a b c d : Value) (ha : noLimb a = true) (hb : noLimb b = true) (hc : noLimb c = true) :
    ColQ h n J q ((((W.setCell ⟨R, 0, none⟩ a).setCell ⟨R, 1, none⟩ b).setCell ⟨R, 2, none⟩ c).setCell ⟨R, 3, none⟩ d) := hq.to fun hf => hf.sep4 hR hn a b c d ha hb hc
theorem Env.colv {P : World → Prop} (hE : Env w P W) (hv : ColV b0 v n h W) : Env w (fun V => P V ∧ ColV b0 v n h V) W := hE.and (ColV.stable _ _ _ _) hv
theorem Env.colp {P' : World → Prop} (hE : Env w P' W) (hv : ColP g n cap P W) : Env w (fun V => P' V ∧ ColP g n cap P V) W := hE.and (ColP.stable _ _ _ _) hv
theorem Env.colq {P : World → Prop} (hE : Env w P W) (hv : ColQ h n J q W) : Env w (fun V => P V ∧ ColQ h n J q V) W := hE.and (ColQ.stable _ _ _ _) hv
end
end Go.Proofs.YtmjlankpihnicaaGreat
