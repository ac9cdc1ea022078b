/-
  Lemmas on memory that the walks of survivor lean on.
-/
import Derived.Laws.MakeOwn
import Derived.Laws.AppendOwn
import Derived.Deep.MidRow
import Derived.Test.YtjgihmmeimfheaaGreatK27
namespace Go.Proofs.YtjgihmmeimfheaaGreat
open Go.RowKit

/-- The rational number of a valid fraction's limbs. -/
def qOf (s : Bool) (n : Nat) (f : Nat → Nat) (m : Nat) (g : Nat → Nat) : Rat := Rat.divInt (toI s (vs b16 f n)) (vs b16 g m)
/-- A valid fraction is a rational number. -/
theorem okF_q {w : World} {s t : Bool} {A B : Option Addr} {n m : Nat} {f g : Nat → Nat} (hr : FRd w A n f B m g) (h : okF s n f t m g = true) : FV w (qOf s n f m g) s A n t B m ∧ n ≤ 256 ∧ m ≤ 256 ∧ fl (qOf s n f m g) ≤ 256 := by
 unfold qOf
 unfold okF at h
 simp only [Bool.and_eq_true, Bool.not_eq_true', Bool.or_eq_false_iff, decide_eq_false_iff_not, beq_iff_eq] at h
 obtain ⟨⟨h1, h2⟩, h3, h4, h5, h6, h7⟩ := h
 subst h5
 have w1 := okW_wv hr.1 hr.2.2.1 h3
 have w2 := okW_wv hr.2.1 hr.2.2.2 h4
 have hd : 0 < vs b16 g m := by
  have := w2.len
  rw [toI_abs] at this
  exact (ln_pos b16_two).1 (by omega)
 have hm := mk_low (n := toI s (vs b16 f n)) (d := vs b16 g m) hd (by rw [toI_abs]; exact h7)
 refine ⟨⟨by rw [hm.1]; exact w1, by rw [hm.2]; exact w2⟩, by omega, by omega, ?_⟩
 rw [fl_le, hm.1, hm.2]
 have l1 := w1.len
 have l2 := w2.len
 rw [toI_abs] at l1 l2
 rw [toI_abs]
 omega
theorem fl_one : fl 1 ≤ 256 := by rw [fl_le]; exact ⟨by decide, by decide⟩
/-- A fraction as it lies in memory: signs, slices of limbs, and the limbs. -/
structure FH where
 s : Bool
 A : Option Addr
 n : Nat
 c : Nat
 f : Nat → Nat
 t : Bool
 B : Option Addr
 m : Nat
 d : Nat
 g : Nat → Nat
def FH.q (h : FH) : Rat := qOf h.s h.n h.f h.m h.g
def FH.cells (h : FH) (w : World) (b o : Nat) : Prop := w.cell? ⟨b, o, none⟩ = some (.bool h.s) ∧ w.cell? ⟨b, o + 1, none⟩ = some (.slice h.A h.n h.c) ∧ w.cell? ⟨b, o + 2, none⟩ = some (.bool h.t) ∧ w.cell? ⟨b, o + 3, none⟩ = some (.slice h.B h.m h.d)
def FH.rd (h : FH) (w : World) : Prop := FRd w h.A h.n h.f h.B h.m h.g
theorem FH.cells_below {h : FH} {w w' : World} {b o : Nat} (hc : h.cells w b o) (hb : Below w.heap.size w w') (hlt : b < w.heap.size) : h.cells w' b o :=
 ⟨(hb.cell (p := ⟨b, o, none⟩) hlt).trans hc.1, (hb.cell (p := ⟨b, o + 1, none⟩) hlt).trans hc.2.1, (hb.cell (p := ⟨b, o + 2, none⟩) hlt).trans hc.2.2.1, (hb.cell (p := ⟨b, o + 3, none⟩) hlt).trans hc.2.2.2⟩
/-- The call said whether P holds. -/
def BoolIff (P : Prop) (w : World) (e : Ending) (w' : World) : Prop := ∃ v, e = .returned (.bool v) ∧ (v = true ↔ P) ∧ Below w.heap.size w w'
theorem no_iff {P : Prop} (h : ¬ P) : (false = true ↔ P) := ⟨fun e => (Bool.false_ne_true e).elim, fun p => absurd p h⟩
theorem yes_iff {P : Prop} (h : P) : (true = true ↔ P) := ⟨fun _ => h, fun _ => rfl⟩
section
variable {w w' W : World} {g n cap B : Nat}
theorem all_noLimb {cs : Array Value} (h : ∀ (i : Nat) (v : Value), cs[i]? = some v → noLimb v = true) : cs.toList.all noLimb = true :=
 List.all_eq_true.2 fun v hv => by
  obtain ⟨i, hi⟩ := List.getElem?_of_mem hv
  exact h i v (by simpa using hi)
end
theorem add_none0 (b j : Nat) : (⟨b, 0, none⟩ : Addr).add j = ⟨b, j, none⟩ := by
 unfold Addr.add
 simp
 exact fun h => h.symm
section
variable {w w' : World}
theorem cell_same {b o : Nat} (e : w'.heap[b]? = w.heap[b]?) : w'.cell? ⟨b, o, none⟩ = w.cell? ⟨b, o, none⟩ := by simp only [World.cell?, e]
end
theorem grown_of_below {W W' : World} (hb : Below W.heap.size W W') : W.grownBy W' none := ⟨hb.os, hb.tape, hb.output, hb.size, fun k hk _ => hb.block k hk⟩
theorem grownBy_setCellI (W : World) (g i : Nat) (u : Value) : W.grownBy (W.setCell ⟨g, i, none⟩ u) (some g) :=
 ⟨rfl, rfl, rfl, by rw [World.size_setCell]; exact Nat.le_refl _, fun k _ hne => Below.heap_setCell W ⟨g, i, none⟩ u k (fun e => hne (congrArg some e))⟩
theorem KpB.grown {n₀ Bs : Nat} {W W' : World} {row : Option Nat} (hn : n₀ ≤ W.heap.size) (hs : Bs < W.heap.size) (hg : W.grownBy W' row) (hr : ∀ q, row = some q → n₀ ≤ q ∧ q ≠ Bs) : KpB n₀ Bs W W' :=
 ⟨(Below.refl _ W).grown hg hn fun q e => (hr q e).1, hg.block Bs hs fun e => (hr Bs e.symm).2 rfl⟩
theorem Blk.c1 {w : World} {g : Nat} {t : TypeId} {a : Value} (h : Blk t g #[a] w) : w.cell? ⟨g, 0, none⟩ = some a := h.cell 0
theorem KpB.blk {n₀ Bs : Nat} {t : TypeId} {cs : Array Value} {W W' : World} (h : KpB n₀ Bs W W') (hb : Blk t Bs cs W) : Blk t Bs cs W' := h.2.trans hb
/-- Since the world u only block R was changed. -/
def Kept (u : World) (R : Nat) (V : World) : Prop := u.grownBy V (some R)
section
variable {u V V' : World} {R g : Nat}
theorem Kept.refl (u : World) (R : Nat) : Kept u R u := ⟨rfl, rfl, rfl, Nat.le_refl _, fun _ _ _ => rfl⟩
theorem Kept.grown (h : Kept u R V) {row : Option Nat} (hg : V.grownBy V' row) (hr : ∀ q, row = some q → u.heap.size ≤ q ∨ q = R) : Kept u R V' :=
 ⟨hg.os.trans h.os, hg.tape.trans h.tape, hg.output.trans h.output, Nat.le_trans h.size hg.size, fun k hk hne => (hg.block k (Nat.lt_of_lt_of_le hk h.size) (fun e => by
  rcases hr k e.symm with h1 | h1
  · omega
  · subst h1; exact hne rfl)).trans (h.block k hk hne)⟩
theorem Kept.stable (u : World) (R : Nat) : Stable (Kept u R) := fun _ _ hb h => h.grown (grown_of_below hb) (fun _ e => by cases e)
theorem Kept.set (h : Kept u R V) (hg : u.heap.size ≤ g ∨ g = R) (i : Nat) (a : Value) : Kept u R (V.setCell ⟨g, i, none⟩ a) := h.grown (grownBy_setCellI V g i a) (fun _ e => by cases e; exact hg)
end
theorem Env.kept {w W u : World} {R : Nat} {P : World → Prop} (hE : Env w P W) (hk : Kept u R W) : Env w (fun V => P V ∧ Kept u R V) W := hE.and (Kept.stable _ _) hk
/-- An append whose run is known, in a region. -/
theorem app_step {P : Program} {o : Oper} {a : Act} {K : Act → World → Prop} {Q : Exit → Act → World → Prop} {w w' : World} {s x : Operand} {t : TypeId} {v1 v2 v' : Value} (ho : o.op = .call { callee := .builtin .append, args := #[s, x], argTypes := #[t, t] })
  (hs : a.eval s = v1) (hx : a.eval x = v2) (hr : (Builtin.append_ #[t, t] o.type #[v1, v2]).run P w = .ok v' w') (h : K (a.put o.dst v') w') : o.wp P a w K Q := by
 unfold Oper.wp execOp
 simp only [ho, resolve, invoke, builtin, Sem.run_bind, Sem.run_pure, Result.andThen_ok, List.map_toArray, List.map_cons, List.map_nil, hs, hx, hr]
 exact h
theorem FV.nz {W : World} {q : Rat} {s t : Bool} {A B : Option Addr} {n m : Nat} (h : FV W q s A n t B m) : n = 0 ↔ q = 0 := by
 have hl := h.1.len
 have hp : 0 < Go.Proofs.YtjgihmmeimfheaaGreat.ln b16 q.num.natAbs ↔ 0 < q.num.natAbs := ln_pos b16_two
 rw [← Rat.num_eq_zero]
 omega
theorem ld_exec {P : Program} {w : World} {o : Oper} {ev : Operand → Value} {ty : TypeId} {x : Operand} {p v : Value} (hr : (Instr.loadAt ty p).run P w = .ok v w) (ho : o.op = .load ty x) (hx : ev x = p) : (execOp ev o).run P w = .ok (.value v) w := by
 simp [execOp, ho, hx, hr, Result.andThen]
theorem At.of_blk {t : TypeId} {g : Nat} {cs : Array Value} {w : World} {v : Value} (h : Blk t g cs w) (i : Nat) (hv : cs[i]? = some v) : At g i v w := ⟨h.lt, (h.cell i).trans hv⟩
theorem Blk.ne {t u : TypeId} {g k : Nat} {cs ds : Array Value} {W : World} (h : Blk t g cs W) (h2 : Blk u k ds W) (ht : t ≠ u) : g ≠ k := fun e => by
 subst e
 have := Option.some.inj (h.symm.trans h2)
 injection this with _ e2 _
 exact ht e2
theorem two_new (W : World) (t : TypeId) (cs : Array Value) (u : TypeId) (ds : Array Value) : Below W.heap.size W ((W.alloc (.cells cs t)).alloc (.cells ds u)) ∧ Blk t W.heap.size cs ((W.alloc (.cells cs t)).alloc (.cells ds u)) ∧ Blk u (W.heap.size + 1) ds ((W.alloc (.cells cs t)).alloc (.cells ds u)) := by
 have h1 := Blk.new W t cs
 have h2 := Blk.new (W.alloc (.cells cs t)) u ds
 rw [World.size_alloc] at h2
 have hb := belAlloc (W.alloc (.cells cs t)) (.cells ds u)
 exact ⟨(belAlloc W _).trans (hb.mono (by rw [World.size_alloc]; omega)), Blk.stable _ _ _ _ _ hb h1, h2⟩
theorem sets_grown {t : TypeId} {g n : Nat} : ∀ (vs : List Value) (o : Nat) (U : World), (∃ cs, Blk t g cs U ∧ cs.size = n) → U.grownBy (U.setCells g o vs) (some g) ∧ ∃ cs, Blk t g cs (U.setCells g o vs) ∧ cs.size = n := fun vs => by
 induction vs with
 | nil => exact fun o U hU => ⟨⟨rfl, rfl, rfl, Nat.le_refl _, fun _ _ _ => rfl⟩, hU⟩
 | cons v vs ih =>
  intro o U ⟨cs, h3, h4⟩
  obtain ⟨h5, h6⟩ := ih (o + 1) (U.setCell ⟨g, o, none⟩ v) ⟨_, h3.set_ o v, by rw [Array.size_setIfInBounds, h4]⟩
  exact ⟨(Kept.set (Kept.refl U g) (.inr rfl) o v).grown h5 (fun q e => by cases e; exact .inr rfl), h6⟩
theorem there_of {t : TypeId} {g : Nat} {cs : Array Value} {W : World} (hB : Blk t g cs W) {n : Nat} (hl : n ≤ cs.size) : W.there g 0 n := fun j hj => by
 rw [Nat.zero_add]
 refine ⟨?_, hB.frozen j⟩
 rw [hB.cell, Array.getElem?_eq_getElem (by omega)]
 rfl
/-- All cells of a block, stored. -/
theorem sets_all {t : TypeId} {g : Nat} {cs : Array Value} {W : World} (hB : Blk t g cs W) (vs : List Value) (hl : cs.size = vs.length) : W.grownBy (W.setCells g 0 vs) (some g) ∧ Blk t g vs.toArray (W.setCells g 0 vs) := by
 obtain ⟨h1, ds, h2, h3⟩ := sets_grown (t := t) (g := g) (n := cs.size) vs 0 W ⟨cs, hB, rfl⟩
 have hr := World.rangeAt_setCells_same W g 0 vs (there_of hB (by omega))
 have e : ds = vs.toArray := by
  apply Array.ext_getElem?
  intro i
  have h7 := h2.cell i
  rcases Nat.lt_or_ge i vs.length with hi | hi
  ·
   have h8 := hr i _ (List.getElem?_eq_getElem hi)
   rw [Nat.zero_add] at h8
   rw [← h7, h8, List.getElem?_toArray, List.getElem?_eq_getElem hi]
  · rw [Array.getElem?_eq_none (by omega), Array.getElem?_eq_none (by rw [List.size_toArray]; omega)]
 subst e
 exact ⟨h1, h2⟩
section
variable {w w' : World} {t : TypeId} {g : Nat} {cs : Array Value}
theorem Rd.grownB {A : Option Addr} {m : Nat} {f : Nat → Nat} (hr : Rd w.heap.size .u16 w A m f) (hB : Blk t g cs w) (hn : cs.toList.all noLimb = true) (hg : w.grownBy w' (some g)) : Rd w'.heap.size .u16 w' A m f := fun h0 => by
 obtain ⟨b, o, e, hb, hc⟩ := hr h0
 refine ⟨b, o, e, Nat.lt_of_lt_of_le hb hg.size, fun i hi => ?_⟩
 have h1 := hc i hi
 rw [cell_same (hg.block b hb fun e2 => ?_)]
 · exact h1
 ·
  obtain rfl : b = g := by simpa using e2
  rw [hB.cell] at h1
  have h2 := List.all_eq_true.1 hn _ (by
   have := Array.mem_of_getElem? h1
   simpa using this)
  simp [noLimb] at h2
theorem WV.grownB {z : Int} {s : Bool} {A : Option Addr} {m : Nat} (hw : WV w z s A m) (hB : Blk t g cs w) (hn : cs.toList.all noLimb = true) (hg : w.grownBy w' (some g)) : WV w' z s A m := ⟨hw.1, hw.2.1, Rd.grownB hw.2.2 hB hn hg⟩
theorem FV.grownB {q : Rat} {s u : Bool} {A C : Option Addr} {a b : Nat} (hf : FV w q s A a u C b) (hB : Blk t g cs w) (hn : cs.toList.all noLimb = true) (hg : w.grownBy w' (some g)) : FV w' q s A a u C b := ⟨hf.1.grownB hB hn hg, hf.2.grownB hB hn hg⟩
theorem Blk.grownB {u : TypeId} {k : Nat} {ds : Array Value} (h : Blk u k ds w) (hg : w.grownBy w' (some g)) (hk : k ≠ g) : Blk u k ds w' := (hg.block k h.lt (fun e => hk (by simpa using e))).trans h
theorem At.grownB {b o : Nat} {v : Value} (h : At b o v w) (hg : w.grownBy w' (some g)) (hb : b ≠ g) : At b o v w' := ⟨Nat.lt_of_lt_of_le h.1 hg.size, (cell_same (hg.block b h.1 (fun e => hb (by simpa using e)))).trans h.2⟩
theorem Below.grownB {B : Nat} {a : World} (h : Below B a w) (hg : w.grownBy w' (some g)) (hB : B ≤ w.heap.size) (hgB : B ≤ g) : Below B a w' := h.grown hg hB (fun k e => by cases e; exact hgB)
end
theorem wpList_stP {P : Program} {w w' : World} {ops : Array Oper} {rest : List Oper} {o : Oper} {a : Act} {Q : Exit → Act → World → Prop} {ty : TypeId} {x y : Operand} {p v : Value} (hr : (Instr.storeAt ty p v).run P w = .ok () w') (hg : o.guard = none) (ho : o.op = .store ty x y) (hx : a.eval x = p) (hy : a.eval y = v)
  (h : wpList P ops Q rest (a.put o.dst undef) w') : wpList P ops Q (o :: rest) a w :=
 wpList_plain hg fun _ hK => by
  unfold Oper.wp execOp
  simp only [ho, hx, hy, Sem.run_bind, Sem.run_pure, Result.andThen_ok, hr]
  exact hK _ _ h
/-- A whole block is stored. -/
theorem store_all (T : TypeId) {t : TypeId} {g : Nat} {cs : Array Value} {W : World} (hB : Blk t g cs W) (vs : List Value) (hl : cs.size = vs.length) (hs : (Tryz.prog.info? T).map (·.size) = some vs.length) (h1 : ∀ v ∈ vs, v.oneCell' = true) :
  (Instr.storeAt T (.pointer (some ⟨g, 0, none⟩)) (.agg vs.toArray)).run Tryz.prog W = .ok () (W.setCells g 0 vs) :=
 run_storeAt_mid (P := Tryz.prog) W g 0 T vs.toArray (by rw [List.size_toArray]; exact there_of hB (by omega)) (by rw [List.size_toArray]; exact hs) (all_oneCell_toArray h1)
theorem two_keep {t : TypeId} {g : Nat} {cs : Array Value} {U : World} (h : Blk t g cs U) (t1 : TypeId) (A : Array Value) (t2 : TypeId) (B : Array Value) : Blk t g cs ((U.alloc (.cells A t1)).alloc (.cells B t2)) :=
 Blk.stable _ _ _ _ _ (belAlloc _ _) (Blk.stable _ _ _ _ _ (belAlloc _ _) h)
end Go.Proofs.YtjgihmmeimfheaaGreat
