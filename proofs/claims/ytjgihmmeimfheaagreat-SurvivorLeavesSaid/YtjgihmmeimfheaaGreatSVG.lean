/-
  What stays where blocks that are no cells are turned.
-/
import Derived.Test.YtjgihmmeimfheaaGreatSV0
import Derived.RangeFuncWrites
namespace Go.Proofs.YtjgihmmeimfheaaGreat
open Go.RowKit

/-- P stays where a block that is no cells and lies from B on is turned. -/
def Grown (B : Nat) (P : World → Prop) : Prop := ∀ (W W' : World) (row : Option Nat), P W → W.grownBy W' row → (∀ q, row = some q → B ≤ q ∧ ∃ o : Obj, W.heap[q]? = some o ∧ o.isCells = false) → P W'
theorem Grown.tt (B : Nat) : Grown B (fun _ => True) := fun _ _ _ _ _ _ => trivial
theorem Grown.pure (B : Nat) (p : Prop) : Grown B (fun _ => p) := fun _ _ _ h _ _ => h
theorem Grown.and {B : Nat} {P Q : World → Prop} (hP : Grown B P) (hQ : Grown B Q) : Grown B (fun W => P W ∧ Q W) := fun _ _ _ h hg hr => ⟨hP _ _ _ h.1 hg hr, hQ _ _ _ h.2 hg hr⟩
theorem Grown.blk (B : Nat) (t : TypeId) (g : Nat) (cs : Array Value) : Grown B (Blk t g cs) := fun W W' row h hg hr =>
 (hg.block g h.lt fun e => by
  obtain ⟨_, o, ho, hc⟩ := hr g e.symm
  have h2 : W.heap[g]? = some (.cells cs t (0, 0)) := h
  rw [h2] at ho
  cases ho
  cases hc).trans h
theorem Grown.bel {B : Nat} {w : World} (hB : w.heap.size ≤ B) : Grown B (Below w.heap.size w) := fun _ _ _ h hg hr => h.grown hg h.size fun q e => Nat.le_trans hB (hr q e).1
theorem Grown.env {B : Nat} {w : World} {P : World → Prop} (hB : w.heap.size ≤ B) (hP : Grown B P) : Grown B (Env w P) := fun W W' row h hg hr => ⟨Grown.bel hB W W' row h.bel hg hr, h.st, hP W W' row h.here hg hr⟩
theorem Grown.size (B j : Nat) : Grown B (fun W => j < W.heap.size) := fun _ _ _ h hg _ => Nat.lt_of_lt_of_le h hg.size
/-- A block of deferred calls. -/
def Dfr (D : Nat) (W : World) : Prop := W.heap[D]? = some (.deferred (some []))
theorem Dfr.stable (D : Nat) : Stable (Dfr D) := fun _ _ hb h => (hb.block D (Array.getElem?_eq_some_iff.1 h).1).trans h
theorem Env.def_ {w W : World} {P : World → Prop} {D : Nat} (h : Env w P W) (hD : W.heap[D]? = some (.deferred (some []))) : Env w (fun V => P V ∧ Dfr D V) W := h.and (Dfr.stable D) hD
theorem Grown.rw_ (B : Nat) (T : TypeId) (m g n cap : Nat) (e : Nat → List Value) : Grown B (Rw T m g n cap e) := fun W W' row ⟨h1, h2, cs, h3, h4⟩ hg hr => ⟨h1, h2, cs, Grown.blk B _ _ _ W W' row h3 hg hr, h4⟩
theorem Rw.putObj {T : TypeId} {m g n cap D : Nat} {e : Nat → List Value} {V : World} (h : Rw T m g n cap e V) (hK : V.heap[D]? = some (.deferred (some []))) (o' : Obj) : Rw T m g n cap e (V.putObj D o') :=
 Grown.rw_ 0 T m g n cap e V _ (some D) h (grownBy_putObj' V D o') (fun q e => by cases e; exact ⟨Nat.zero_le _, _, hK, rfl⟩)
theorem Below.putObjD {w V : World} {D : Nat} (hb : Below w.heap.size w V) (hD : w.heap.size ≤ D) (o' : Obj) : Below w.heap.size w (V.putObj D o') :=
 hb.grown (grownBy_putObj' V D o') hb.size (fun q e => by cases e; exact hD)
end Go.Proofs.YtjgihmmeimfheaaGreat
