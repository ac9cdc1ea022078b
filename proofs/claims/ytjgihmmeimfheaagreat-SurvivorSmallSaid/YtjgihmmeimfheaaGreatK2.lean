/-
  Several texts in one: A range over a function where each value that is yielded is known to fit the world at hand.
-/
import Derived.RangeFuncNested
import Derived.RangeFuncBound
namespace Go.Proofs.YtjgihmmeimfheaaGreat
open Go.RowKit

def SeqV {α : Type} (F : Fence) (n : Nat) (P : Program) (g : Nat) (lb : Array Value) (encs : α → Array Value) (Kp : World → World → Prop) (V : List α → α → World → Prop) (S Sp : List α → Prop) (N : Nat) (w : World) : Prop :=
 ∀ (l : Nat) (J Jx : List α → World → Prop) (W : World), Below w.heap.size w W → AbidesFrom W.heap.size J → AbidesFrom W.heap.size Jx →
  (∀ pre x W1, J pre W1 → V pre x W1 → pre.length < N → YieldAt F (n - 1) P l (encs x) W1 fun e W' =>
   (e = .returned (.bool true) ∧ J (pre ++ [x]) W' ∧ Kp W1 W') ∨ (e = .returned (.bool false) ∧ Jx (pre ++ [x]) W')) →
  J [] W →
  CallsIn F n P g (#[.func (.yield l) #[] #[]] ++ lb) W fun e W' => (∃ v, e = .returned v) ∧ ((∃ xs, S xs ∧ J xs W') ∨ (∃ pre, Sp pre ∧ Jx pre W'))

structure Books (D : Nat) (r : Loop) (W : World) : Prop where
 dfr : W.heap[D]? = some (.deferred (some []))
 lp : W.heap[D + 1]? = some (.loop r)
section
variable {D : Nat} {r r' : Loop} {W W' : World}
theorem Books.lt (h : Books D r W) : D + 1 < W.heap.size := (Array.getElem?_eq_some_iff.1 h.lp).1
theorem Books.keeps (h : Books D r W) (hk : KeepsFrom D W W') : Books D r W' := ⟨hk.same _ _ (Nat.le_refl _) h.dfr rfl, hk.same _ _ (by omega) h.lp rfl⟩
theorem Books.turn (h : Books D r W) (r' : Loop) : Books D r' (W.putObj (D + 1) (.loop r')) := ⟨(World.putObj_heap_other (by omega)).trans h.dfr, World.putObj_heap_same h.lt⟩
theorem Books.abides (h : Books D r W) {row : Option Nat} (hg : W.grownBy W' row) (hr : ∀ q, row = some q → ∃ o : Obj, W.heap[q]? = some o ∧ o.isWalk = true) : Books D r W' :=
 ⟨(grownBy_keeps hg hr h.dfr rfl).trans h.dfr, (grownBy_keeps hg hr h.lp rfl).trans h.lp⟩
theorem Books.start (w : World) (r : Loop) : Books w.heap.size r ((w.alloc (.deferred (some []))).alloc (.loop r)) := by
 have h := World.alloc_heap_new (w.alloc (.deferred (some []))) (.loop r);rw [World.size_alloc] at h;exact ⟨(Below.heap_alloc _ _ _ (by simp)).trans (World.alloc_heap_new w _), h⟩
end

theorem rangeV {F : Fence} {n : Nat} {P : Program} {α : Type} {g : Operand} {ps : Array Tmp} {assign body : Code} {Q : Exit → Act → World → Prop} {a : Act} {w : World}
  (hro : F.round = none) (h1 : 1 ≤ n) {gf : Nat} {lb : Array Value} (hg : a.eval g = .func (.func gf) #[] lb) (hFg : F.fn gf) (eg : ∀ args w, (callFunc gf args).run P w = .ok (.enter gf args) w)
  {encs : α → Array Value} {Kp : World → World → Prop} {V : List α → α → World → Prop} {S Sp : List α → Prop} {N : Nat} {w0 : World} (hseq : SeqV F (n - 1) P gf lb encs Kp V S Sp N w0)
  (hKt : ∀ {A B C : World}, Kp A B → Kp B C → Kp A C) (hKb : ∀ (W : World) (l : Nat) (o o' : Obj), w.heap.size ≤ l → W.heap[l]? = some o → o.isCells = false → o.isWalk = false → Kp W (W.putObj l o'))
  (hb0 : Below w0.heap.size w0 w) (hps : ∀ x, (encs x).size = ps.size)
  (I : List α → World → Prop) (Ix : Code → List α → World → Prop) (hI : OwnFrom w.heap.size I) (hIx : ∀ c, OwnFrom w.heap.size (Ix c)) (h0 : I [] w)
  (Ax : List α → α → Act → World → Prop) (hAx : ∀ pre x a', OwnFrom w.heap.size (fun (_ : Unit) W => Ax pre x a' W))
  (hassign : ∀ (l : Nat) (pre : List α) (x : α) (W : World) (K : Act → World → Prop), I pre W → V pre x W → (∀ a' W', KeepsFrom w.heap.size W W' → Kp W W' → I pre W' → Ax pre x a' W' → K a' W') →
   assign.wpIn (F.inRound l) (n - 1 - 1) P (Exit.then K (fun _ _ _ => False)) { tmps := (ps.zip (encs x)).foldl (fun t (p, v) => t.setIfInBounds p v) a.tmps, defers := [] } W)
  (hbody : ∀ (l : Nat) (pre : List α) (x : α) (a' : Act) (W : World), I pre W → Ax pre x a' W → pre.length < N → body.wpIn (F.inRound l) (n - 1 - 1) P (ownPostG w.heap.size Kp I Ix (pre ++ [x]) W) a' W)
  (hdone : ∀ (D : Nat) (xs : List α) (W : World), w.heap.size ≤ D → S xs → I xs W → W.heap[D]? = some (.deferred (some [])) → Q .normal { a with defers := { target := .collected D, args := #[] } :: a.defers } W)
  (hstop : ∀ (D : Nat) (c : Code) (pre : List α) (W : World), w.heap.size ≤ D → Sp pre → Ix c pre W → W.heap[D]? = some (.deferred (some [])) → c.wpIn F n P Q { a with defers := { target := .collected D, args := #[] } :: a.defers } W) :
  (Code.rangeFunc g ps assign body).wpIn F n P Q a w := by
 refine wpIn_rangeFunc fun fn hfn => ?_
 rw [hro]
 obtain ⟨bk, hbk⟩ : ∃ bk : LoopState → Option Code → Loop, bk = fun st pe => { state := st, pending := pe, fn, tmps := a.tmps, params := ps, assign, body, defers := w.heap.size } := ⟨_, rfl⟩
 have hB1 := Books.start w (bk .ready none);have hI1 : I [] ((w.alloc (.deferred (some []))).alloc (.loop (bk .ready none))) := hI.alloc _ (hI.alloc _ h0);have hb1 : Below w0.heap.size w0 ((w.alloc (.deferred (some []))).alloc (.loop (bk .ready none))) := hb0.trans ((((Below.refl _ w).alloc (Nat.le_refl _) _).alloc (by simp) _).mono hb0.size)
 have hz : ((w.alloc (.deferred (some []))).alloc (.loop (bk .ready none))).heap.size = w.heap.size + 1 + 1 := by simp
 have hent := run_enterLoop_outer (P := P) (w := w) fn a.tmps ps assign body
 have hent2 : (Instr.enterLoop fn a.tmps ps assign body none).run P w = .ok (w.heap.size + 1, [{ target := .collected w.heap.size, args := #[] }]) ((w.alloc (.deferred (some []))).alloc (.loop (bk .ready none))) := by rw [hbk]; exact hent
 clear hent
 generalize (w.alloc (.deferred (some []))).alloc (.loop (bk .ready none)) = W1 at *
 refine ⟨w.heap.size + 1, [{ target := .collected w.heap.size, args := #[] }], W1, { target := .fn (.func gf) lb, args := #[.func (.yield (w.heap.size + 1)) #[] #[]] }, W1, gf,
  #[.func (.yield (w.heap.size + 1)) #[] #[]] ++ lb, W1, hent2, ?_, ?_, ?_, fun _ => h1, ?_⟩
 ·
  simp only [resolve, hg]
  simp [go_sem]
 ·
  intro f' hf'
  simp [Target.leads] at hf'
  subst hf';exact hFg
 · simp [invoke, go_sem, eg]
 ·
  have far : ∀ {A : World} {row : Option Nat}, (∀ q, row = some q → W1.heap.size ≤ q ∧ ∃ o : Obj, A.heap[q]? = some o ∧ o.isWalk = true) → ∀ q, row = some q → w.heap.size ≤ q ∧ ∃ o : Obj, A.heap[q]? = some o ∧ o.isCells = false :=
   fun hr q e => by
    obtain ⟨hq, o, ho, hw⟩ := hr q e;exact ⟨by omega, o, ho, Obj.not_cells_of_walk hw⟩
  refine (hseq (w.heap.size + 1) (fun pre W => I pre W ∧ Books w.heap.size (bk .ready none) W) (fun pre W => ∃ c, Ix c pre W ∧ Books w.heap.size (bk .done (some c)) W) W1 hb1
   (fun s A B row hs hg' hr => ⟨hI s A B row hs.1 hg' (far hr), hs.2.abides hg' fun q e => (hr q e).2⟩)
   (fun s A B row hs hg' hr => by
    obtain ⟨c, hc, hB⟩ := hs
    exact ⟨c, hIx c s A B row hc hg' (far hr), hB.abides hg' fun q e => (hr q e).2⟩) ?_ ⟨hI1, hB1⟩).mono ?_
  ·
   rintro pre x W ⟨hi, hB⟩ hv hlen
   have hy := run_yield (P := P) (args := encs x) hB.lp (by rw [hbk]; exact hps x);rw [hbk] at hy;refine ⟨fn, _, assign, body, hy, roundIn_of_wpIn hfn (hassign _ pre x W _ hi hv ?_)⟩;clear hy;intro a' X hkf hkp hix hax;have hBX := hB.keeps hkf;refine ⟨_, run_beginRound hBX.lp (by rw [hbk]), ?_⟩;have hturn := hBX.turn { bk .ready none with state := .busy };have hfw := hBX.lp;refine wpIn_mono (hbody _ pre x a' _ (hI.putObj _ hix (by omega) hfw rfl) ((hAx pre x a').putObj (s := ()) _ hax (by omega) hfw rfl) hlen) ?_;have hkq : Kp W (X.putObj (w.heap.size + 1) (.loop { bk .ready none with state := .busy })) := hKt hkp (hKb _ _ _ _ (by omega) hfw rfl rfl)
   generalize X.putObj (w.heap.size + 1) (.loop { bk .ready none with state := .busy }) = Y at *
   have fin : ∀ (jump : Option Code) (Z : World), KeepsFrom w.heap.size Y Z →
     (Instr.endRound (w.heap.size + 1) jump).run P Z = .ok (.bool jump.isNone) (Z.putObj (w.heap.size + 1) (.loop (bk (if jump.isNone then .ready else .done) jump))) ∧
     Z.heap[w.heap.size + 1]? = some (.loop { bk .ready none with state := .busy }) ∧ Books w.heap.size (bk (if jump.isNone then .ready else .done) jump) (Z.putObj (w.heap.size + 1) (.loop (bk (if jump.isNone then .ready else .done) jump))) := fun jump Z hk => by
    have hBZ := hturn.keeps hk;have h := run_endRound (P := P) jump hBZ.lp;have ht := hBZ.turn (bk (if jump.isNone then .ready else .done) jump);refine ⟨?_, hBZ.lp, ht⟩;rw [hbk] at h ⊢;exact h
   have leave : ∀ (c : Code) (Z : World), KeepsFrom w.heap.size Y Z ∧ Ix c (pre ++ [x]) Z → ∃ v Z', (Instr.endRound (w.heap.size + 1) (some c)).run P Z = .ok v Z' ∧ v = .bool false ∧ ∃ c', Ix c' (pre ++ [x]) Z' ∧ Books w.heap.size (bk .done (some c')) Z' := fun c Z ⟨hk, hx⟩ => by
    obtain ⟨hr, hl, hBZ⟩ := fin (some c) Z hk;exact ⟨_, _, hr, rfl, c, (hIx c).putObj _ hx (by omega) hl rfl, hBZ⟩
   rintro e a3 Z hp
   cases e with
   | normal =>
    obtain ⟨hk, hkp3, hi3⟩ := hp;obtain ⟨hr, hl, hBZ⟩ := fin none Z hk;exact ⟨_, _, hr, .inl ⟨rfl, ⟨hI.putObj _ hi3 (by omega) hl rfl, hBZ⟩, hKt (hKt hkq hkp3) (hKb _ _ _ _ (by omega) hl rfl rfl)⟩⟩
   | ret =>
    obtain ⟨v, Z', hr, rfl, hc⟩ := leave .ret Z hp;exact ⟨_, _, hr, .inr ⟨rfl, hc⟩⟩
   | exit id =>
    obtain ⟨v, Z', hr, rfl, hc⟩ := leave (.exit id) Z hp;exact ⟨_, _, hr, .inr ⟨rfl, hc⟩⟩
   | goto t =>
    obtain ⟨v, Z', hr, rfl, hc⟩ := leave (.goto t) Z hp;exact ⟨_, _, hr, .inr ⟨rfl, hc⟩⟩
   | panic ch => exact hp.elim
   | outgrown => exact hp.elim
  ·
   rintro e Z ⟨⟨v, rfl⟩, (⟨xs, hS, hi, hB⟩ | ⟨pre, hSp, c, hi, hB⟩)⟩
   ·
    have h := run_endLoop (P := P) hB.lp (by rw [hbk]; simp);exact ⟨none, _, by rw [hbk] at h; exact h, hdone _ xs _ (Nat.le_refl _) hS (hI.putObj _ hi (by omega) hB.lp rfl) ((World.putObj_heap_other (by omega)).trans hB.dfr)⟩
   ·
    have h := run_endLoop (P := P) hB.lp (by rw [hbk]; simp);exact ⟨some c, _, by rw [hbk] at h; exact h, hstop _ c pre _ (Nat.le_refl _) hSp ((hIx c).putObj _ hi (by omega) hB.lp rfl) ((World.putObj_heap_other (by omega)).trans hB.dfr)⟩
end Go.Proofs.YtjgihmmeimfheaaGreat
