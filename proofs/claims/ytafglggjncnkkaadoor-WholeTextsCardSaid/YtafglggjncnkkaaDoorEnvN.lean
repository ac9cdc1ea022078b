/-
  Blocks that are made ahead of the calls that give their values; the boxes of numbers.
-/
import Derived.Test.YtafglggjncnkkaaDoorV
import Derived.Deep.RegionHeld3
import Derived.Deep.CutRange
namespace Go.Proofs.YtafglggjncnkkaaDoor
open Go.RowKit

theorem same_r {a b : Int} {r : Bool} {s t : Bool} {A B : Option Addr} {n m c d : Nat} {w : World} (ha : WV w a s A n) (hb : WV w b t B m) (la : n ≤ 1024) (lb : m ≤ 1024) (h : decide (a = b) = r) :
    Calls Tryd.prog 37 #[.agg #[.bool s, .slice A n c], .agg #[.bool t, .slice B m d]] w fun e w' => e = .returned (.bool r) ∧ Below w.heap.size w w' := by
  subst h
  exact same_v ha hb (by omega) (by omega)
/-- A new variable that is given a number. -/
theorem Env.var {w W : World} {P : World → Prop} {z : Int} {s : Bool} {A : Option Addr} {n : Nat} (h : Env w P W) (hv : WV W z s A n) (c : Nat) :
    Env w (fun V => P V ∧ Bx W.heap.size z s A n c V) (((W.alloc (.cells #[.bool false, .slice none 0 0] 24)).setCell ⟨W.heap.size, 0, none⟩ (.bool s)).setCell ⟨W.heap.size, 1, none⟩ (.slice A n c)) := by
  obtain ⟨hW, hb⟩ := store_whole (WholeAt.new W false (.slice none 0 0)) ((Below.refl _ W).alloc (Nat.le_refl _) _) (Nat.le_refl _) s (.slice A n c)
  exact (h.step hb).and (Bx.stable _ _ _ _ _ _) ⟨hW, hv.below hb⟩
theorem WV.abs {w : World} {z : Int} {s : Bool} {A : Option Addr} {n : Nat} (h : WV w z s A n) : WV w ((z.natAbs : Nat) : Int) false A n :=
  ⟨(decide_eq_false (by omega)).symm, h.2.1, h.2.2⟩
theorem Env.tri {g : Nat} {a b c : Int} {s1 s2 s3 : Bool} {A1 A2 A3 : Option Addr} {n1 n2 n3 c1 c2 c3 : Nat} {w W : World} {P : World → Prop} (h : Env w P W) (ht : Tri g a b c s1 s2 s3 A1 A2 A3 n1 n2 n3 c1 c2 c3 W) : W.cell? ⟨g, 0, none⟩ = some (.bool s1) ∧ W.cell? ⟨g, 1, none⟩ = some (.slice A1 n1 c1) ∧ W.cell? ⟨g + 1, 0, none⟩ = some (.bool s2) ∧ W.cell? ⟨g + 1, 1, none⟩ = some (.slice A2 n2 c2) ∧
    W.cell? ⟨g + 1 + 1, 0, none⟩ = some (.bool s3) ∧ W.cell? ⟨g + 1 + 1, 1, none⟩ = some (.slice A3 n3 c3) ∧ Env w P W :=
  ⟨ht.1.1.cells.1, ht.1.1.cells.2, ht.2.1.1.cells.1, ht.2.1.1.cells.2, ht.2.2.1.cells.1, ht.2.2.1.cells.2, h⟩
/-- A variable made ahead of the calls that give its value. -/
structure New (W0 W : World) (G : Nat) : Prop where
  box : WholeAt W G false (.slice none 0 0)
  bel : Below G W0 W
  eq : W0.heap.size = G
theorem New.start (W : World) : New W (W.alloc (.cells #[.bool false, .slice none 0 0] 24)) W.heap.size := ⟨WholeAt.new W _ _, (Below.refl _ W).alloc (Nat.le_refl _) _, rfl⟩
theorem New.below {W0 W W' : World} {G : Nat} (h : New W0 W G) (hb : Below W.heap.size W W') : New W0 W' G := ⟨h.box.below hb h.box.lt, h.bel.trans (hb.mono (Nat.le_of_lt h.box.lt)), h.eq⟩
theorem New.stored {w W0 W : World} {P : World → Prop} {G : Nat} (h0 : Env w P W0) (h : New W0 W G) (s : Bool) (v : Value) : Env w P ((W.setCell ⟨G, 0, none⟩ (.bool s)).setCell ⟨G, 1, none⟩ v) :=
  h0.step (by rw [h.eq]; exact (store_whole h.box h.bel (Nat.le_refl _) s v).2)
theorem New.done {w W0 W : World} {P : World → Prop} {G B : Nat} {z : Int} {s : Bool} {A : Option Addr} {n c : Nat} (h0 : Env w P W0) (h : New W0 W G) (ho : WO B W z s A n c) (hB : G < B) :
    Env w (fun V => P V ∧ Bx G z s A n c V) ((W.setCell ⟨G, 0, none⟩ (.bool s)).setCell ⟨G, 1, none⟩ (.slice A n c)) :=
  (New.stored h0 h s _).and (Bx.stable _ _ _ _ _ _) ⟨(store_whole h.box h.bel (Nat.le_refl _) s _).1, (ho.store hB s _).v⟩
theorem Env.fresh {w W : World} {P : World → Prop} {z : Int} {s : Bool} {A : Option Addr} {n : Nat} (h : Env w P W) (hv : WV W z s A n) (c : Nat) :
    Env w (fun V => P V ∧ Bx W.heap.size z s A n c V) (W.alloc (.cells #[.bool s, .slice A n c] 24)) :=
  (h.alloc _).and (Bx.stable _ _ _ _ _ _) (Bx.new hv)
theorem belAlloc (W : World) (o : Obj) : Below W.heap.size W (W.alloc o) := (Below.refl _ W).alloc (Nat.le_refl _) o
theorem newStart {w W : World} {P : World → Prop} (_ : Env w P W) : New W (W.alloc (.cells #[.bool false, .slice none 0 0] 24)) W.heap.size := New.start W
theorem cel {g : Nat} {a b c : Int} {s1 s2 s3 : Bool} {A1 A2 A3 : Option Addr} {n1 n2 n3 c1 c2 c3 : Nat} {w W : World} {P : World → Prop} (_ : Env w P W) (ht : Tri g a b c s1 s2 s3 A1 A2 A3 n1 n2 n3 c1 c2 c3 W) : W.cell? ⟨g, 0, none⟩ = some (.bool s1) ∧ W.cell? ⟨g, 1, none⟩ = some (.slice A1 n1 c1) ∧ W.cell? ⟨g + 1, 0, none⟩ = some (.bool s2) ∧ W.cell? ⟨g + 1, 1, none⟩ = some (.slice A2 n2 c2) ∧
    W.cell? ⟨g + 1 + 1, 0, none⟩ = some (.bool s3) ∧ W.cell? ⟨g + 1 + 1, 1, none⟩ = some (.slice A3 n3 c3) :=
  ⟨ht.1.1.cells.1, ht.1.1.cells.2, ht.2.1.1.cells.1, ht.2.1.1.cells.2, ht.2.2.1.cells.1, ht.2.2.1.cells.2⟩
end Go.Proofs.YtafglggjncnkkaaDoor
