/-
  Parts.
-/
import Derived.Test.YtclbiihcbfnjmaaGreatK15
import Derived.Test.YtclbiihcbfnjmaaGreatK14
import Derived.Test.YtclbiihcbfnjmaaGreatK2
import Derived.Test.YtclbiihcbfnjmaaGreatK8
namespace Go.Proofs.YtclbiihcbfnjmaaGreat
section
open Go.RowKit

def Grown (B : Nat) (P : World → Prop) : Prop := ∀ (W W' : World) (row : Option Nat), P W → W.grownBy W' row → (∀ q, row = some q → B ≤ q ∧ ∃ o : Obj, W.heap[q]? = some o ∧ o.isCells = false) → P W'
theorem Grown.tt (B : Nat) : Grown B (fun _ => True) := fun _ _ _ _ _ _ => trivial
theorem Grown.pure (B : Nat) (p : Prop) : Grown B (fun _ => p) := fun _ _ _ h _ _ => h
theorem Grown.and {B : Nat} {P Q : World → Prop} (hP : Grown B P) (hQ : Grown B Q) : Grown B (fun W => P W ∧ Q W) := fun _ _ _ h hg hr => ⟨hP _ _ _ h.1 hg hr, hQ _ _ _ h.2 hg hr⟩
theorem Grown.ex {B : Nat} {α : Type} {P : α → World → Prop} (hP : ∀ x, Grown B (P x)) : Grown B (fun W => ∃ x, P x W) := fun _ _ _ ⟨x, h⟩ hg hr => ⟨x, hP x _ _ _ h hg hr⟩
theorem Grown.blk (B : Nat) (t : TypeId) (g : Nat) (cs : Array Value) : Grown B (Blk t g cs) := fun W W' row h hg hr =>
 (hg.block g h.lt fun e => by
  obtain ⟨_, o, ho, hc⟩ := hr g e.symm;have h2 : W.heap[g]? = some (.cells cs t (0, 0)) := h;rw [h2] at ho
  cases ho
  cases hc).trans h
theorem Grown.rd (B : Nat) (k : IntKind) (A : Option Addr) (n : Nat) (f : Nat → Nat) : Grown B (fun W => Rd W.heap.size k W A n f) := fun _ _ _ h hg hr h0 => by
 obtain ⟨b, o, e, hb, hc⟩ := h h0;exact ⟨b, o, e, Nat.lt_of_lt_of_le hb hg.size, fun i hi => cell_kept (hc i hi) hg fun q e => (hr q e).2⟩
theorem Grown.wv (B : Nat) (z : Int) (s : Bool) (A : Option Addr) (n : Nat) : Grown B (fun W => WV W z s A n) := fun W W' row h hg hr => ⟨h.1, h.2.1, Grown.rd B .u16 A _ _ W W' row h.2.2 hg hr⟩
theorem Grown.fv (B : Nat) (q : Rat) (s : Bool) (A : Option Addr) (n : Nat) (t : Bool) (C : Option Addr) (m : Nat) : Grown B (fun W => FV W q s A n t C m) := (Grown.wv B _ _ _ _).and (Grown.wv B _ _ _ _)
theorem Grown.bel {B : Nat} {w : World} (hB : w.heap.size ≤ B) : Grown B (Below w.heap.size w) := fun _ _ _ h hg hr => h.grown hg h.size fun q e => Nat.le_trans hB (hr q e).1
theorem Grown.env {B : Nat} {w : World} {P : World → Prop} (hB : w.heap.size ≤ B) (hP : Grown B P) : Grown B (Env w P) := fun W W' row h hg hr => ⟨Grown.bel hB W W' row h.bel hg hr, h.st, hP W W' row h.here hg hr⟩
theorem Grown.size (B j : Nat) : Grown B (fun W => j < W.heap.size) := fun _ _ _ h hg _ => Nat.lt_of_lt_of_le h hg.size
end
section
open Go.RowKit

theorem grown_of_below {W W' : World} (hb : Below W.heap.size W W') : W.grownBy W' none := ⟨hb.os, hb.tape, hb.output, hb.size, fun k hk _ => hb.block k hk⟩
theorem grownBy_setCellI (W : World) (g i : Nat) (u : Value) : W.grownBy (W.setCell ⟨g, i, none⟩ u) (some g) :=
 ⟨rfl, rfl, rfl, by rw [World.size_setCell]; exact Nat.le_refl _, fun k _ hne => Below.heap_setCell W ⟨g, i, none⟩ u k (fun e => hne (congrArg some e))⟩
theorem KpB.grown {n₀ Bs : Nat} {W W' : World} {row : Option Nat} (hn : n₀ ≤ W.heap.size) (hs : Bs < W.heap.size) (hg : W.grownBy W' row) (hr : ∀ q, row = some q → n₀ ≤ q ∧ q ≠ Bs) : KpB n₀ Bs W W' :=
 ⟨(Below.refl _ W).grown hg hn fun q e => (hr q e).1, hg.block Bs hs fun e => (hr Bs e.symm).2 rfl⟩
structure Trail (B n₀ Bs : Nat) (W0 V : World) : Prop where
 keeps : KeepsFrom B W0 V
 kp : KpB n₀ Bs W0 V
 hs : Bs < V.heap.size
 hn : n₀ ≤ V.heap.size
section
variable {B n₀ Bs : Nat} {W0 V V' : World}
theorem Trail.refl (W0 : World) (hs : Bs < W0.heap.size) (hn : n₀ ≤ W0.heap.size) : Trail B n₀ Bs W0 W0 := ⟨KeepsFrom.refl _ _, ⟨Below.refl _ _, rfl⟩, hs, hn⟩
theorem Trail.grown (h : Trail B n₀ Bs W0 V) {row : Option Nat} (hg : V.grownBy V' row) (hr : ∀ q, row = some q → n₀ ≤ q ∧ q ≠ Bs ∧ q < B) : Trail B n₀ Bs W0 V' :=
 ⟨h.keeps.trans (KeepsFrom.of_grownBy hg fun q e => (hr q e).2.2), h.kp.t (KpB.grown h.hn h.hs hg fun q e => ⟨(hr q e).1, (hr q e).2.1⟩), Nat.lt_of_lt_of_le h.hs hg.size, Nat.le_trans h.hn hg.size⟩
theorem Trail.step (h : Trail B n₀ Bs W0 V) (hb : Below V.heap.size V V') : Trail B n₀ Bs W0 V' := h.grown (grown_of_below hb) (fun _ e => by cases e)
theorem Trail.stable (B n₀ Bs : Nat) (W0 : World) : Stable (Trail B n₀ Bs W0) := fun _ _ hb h => h.step hb
theorem Trail.set (h : Trail B n₀ Bs W0 V) {P : Nat} (hp : n₀ ≤ P ∧ P ≠ Bs ∧ P < B) (i : Nat) (u : Value) : Trail B n₀ Bs W0 (V.setCell ⟨P, i, none⟩ u) := h.grown (grownBy_setCellI V P i u) (fun q e => by cases e; exact hp)
theorem Trail.set4 (h : Trail B n₀ Bs W0 V) {P : Nat} (hp : n₀ ≤ P ∧ P ≠ Bs ∧ P < B) (a b c d : Value) : Trail B n₀ Bs W0 ((((V.setCell ⟨P, 0, none⟩ a).setCell ⟨P, 1, none⟩ b).setCell ⟨P, 2, none⟩ c).setCell ⟨P, 3, none⟩ d) :=
 (((h.set hp 0 a).set hp 1 b).set hp 2 c).set hp 3 d
end
theorem Env.trail {w W W0 : World} {P : World → Prop} {B n₀ Bs : Nat} (h : Env w P W) (ht : Trail B n₀ Bs W0 W) : Env w (fun V => P V ∧ Trail B n₀ Bs W0 V) W := h.and (Trail.stable _ _ _ _) ht
theorem last_year {F S E Y : Int} {n : Nat} {r : Nat → RH} (hR : RightP F S n r E Y) : ∃ M : Nat, M ≤ 111 ∧ (∀ k : Nat, k < M → E + Y + (k : Int) ≤ F + (n : Int) - 1) ∧ F + (n : Int) - 1 < E + Y + (M : Int) ∧ rt F S n r E Y (M : Int) = 1 := by
 obtain ⟨ht, r1, r2, r3, r4⟩ := hR;obtain ⟨n1, n2⟩ : 1 ≤ n ∧ n ≤ 111 := ⟨ht.2.1.1, ht.2.1.2⟩;refine ⟨(F + n - (E + Y)).toNat, by omega, fun k hk => by omega, by omega, ?_⟩;unfold rt;rw [if_pos (by omega)]
theorem Blk.c1 {w : World} {g : Nat} {t : TypeId} {a : Value} (h : Blk t g #[a] w) : w.cell? ⟨g, 0, none⟩ = some a := h.cell 0
theorem heap_set4 {W : World} {R D : Nat} (h : D ≠ R) (a b c d : Value) : ((((W.setCell ⟨R, 0, none⟩ a).setCell ⟨R, 1, none⟩ b).setCell ⟨R, 2, none⟩ c).setCell ⟨R, 3, none⟩ d).heap[D]? = W.heap[D]? :=
 (((Below.heap_setCell _ ⟨R, 3, none⟩ d D h).trans (Below.heap_setCell _ ⟨R, 2, none⟩ c D h)).trans (Below.heap_setCell _ ⟨R, 1, none⟩ b D h)).trans (Below.heap_setCell _ ⟨R, 0, none⟩ a D h)
def Dfr (D : Nat) (W : World) : Prop := W.heap[D]? = some (.deferred (some []))
theorem Dfr.stable (D : Nat) : Stable (Dfr D) := fun _ _ hb h => (hb.block D (Array.getElem?_eq_some_iff.1 h).1).trans h
theorem Env.def_ {w W : World} {P : World → Prop} {D : Nat} (h : Env w P W) (hD : W.heap[D]? = some (.deferred (some []))) : Env w (fun V => P V ∧ Dfr D V) W := h.and (Dfr.stable D) hD
theorem leave_frac {w V : World} {R D : Nat} {T : TypeId} {q : Rat} {s t : Bool} {A C : Option Addr} {n c m d : Nat} (hB : Blk T R (qf4 s A n c t C m d) V) (hV : FV V q s A n t C m) (hb : Below w.heap.size w V) (hD : w.heap.size ≤ D) (hne : D ≠ R) (hK : V.heap[D]? = some (.deferred (some []))) (o' : Obj) :
  Blk T R (qf4 s A n c t C m d) (V.putObj D o') ∧ FV (V.putObj D o') q s A n t C m ∧ Below w.heap.size w (V.putObj D o') :=
 ⟨(World.putObj_heap_other (Ne.symm hne)).trans hB, Grown.fv 0 _ _ _ _ _ _ _ V _ (some D) hV (grownBy_putObj' V D o') (fun q e => by cases e; exact ⟨Nat.zero_le _, _, hK, rfl⟩), hb.trans (belowK_b (w := w) (Nat.le_refl _) V D _ _ hD hK rfl rfl)⟩
end
section
open Go.RowKit Go.Shelf
attribute [local go_sem] Oper.semAt_some

end
section
open Go.RowKit Go.Shelf
attribute [local go_sem] Oper.semAt_some

end
section

end
end Go.Proofs.YtclbiihcbfnjmaaGreat
