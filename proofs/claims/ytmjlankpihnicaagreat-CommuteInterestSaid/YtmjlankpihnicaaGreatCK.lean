/-
  Helpers of the walks of commute's passes.
-/
import Derived.Test.YtmjlankpihnicaaGreatC1
import Derived.Test.YtmjlankpihnicaaGreatColM
namespace Go.Proofs.YtmjlankpihnicaaGreat
open Go.RowKit

/-- Since the world u only block R was changed. -/
def Kept (u : World) (R : Nat) (V : World) : Prop := u.grownBy V (some R)
section
variable {u V V' : World} {R g : Nat}
theorem ColV.noL {b0 n : Nat} {v : Value} {h : Nat → Nat → Q8} {W : World} (hv : ColV b0 v n h W) : noLimb v = true := by
  rcases hv with ⟨rfl, _⟩ | ⟨g, cap, rfl, _⟩ <;> rfl
theorem Kept.refl (u : World) (R : Nat) : Kept u R u := ⟨rfl, rfl, rfl, Nat.le_refl _, fun _ _ _ => rfl⟩
theorem Kept.grown (h : Kept u R V) {row : Option Nat} (hg : V.grownBy V' row) (hr : ∀ q, row = some q → u.heap.size ≤ q ∨ q = R) : Kept u R V' :=
  ⟨hg.os.trans h.os, hg.tape.trans h.tape, hg.output.trans h.output, Nat.le_trans h.size hg.size, fun k hk hne => (hg.block k (Nat.lt_of_lt_of_le hk h.size) (fun e => by
    rcases hr k e.symm with h1 | h1
    · omega
    · subst h1; exact hne rfl)).trans (h.block k hk hne)⟩
theorem Kept.stable (u : World) (R : Nat) : Stable (Kept u R) := fun _ _ hb h => h.grown (grown_of_below hb) (fun _ e => by cases e)
theorem Kept.set (h : Kept u R V) (hg : u.heap.size ≤ g ∨ g = R) (i : Nat) (a : Value) : Kept u R (V.setCell ⟨g, i, none⟩ a) := h.grown (grownBy_setCellI V g i a) (fun _ e => by cases e; exact hg)
theorem Kept.set1 (h : Kept u R V) (hg : u.heap.size ≤ g ∨ g = R) (i : Nat) (a : Value) : Kept u R (V.setCell ⟨g, i, none⟩ a) := h.set hg i a
theorem Kept.set4 (h : Kept u R V) (hg : u.heap.size ≤ g ∨ g = R) (a b c d : Value) : Kept u R ((((V.setCell ⟨g, 0, none⟩ a).setCell ⟨g, 1, none⟩ b).setCell ⟨g, 2, none⟩ c).setCell ⟨g, 3, none⟩ d) := (((h.set hg 0 a).set hg 1 b).set hg 2 c).set hg 3 d
theorem Kept.grownV {n : Nat} {v : Value} {hh : Nat → Nat → Q8} (h : Kept u R V) (hv : ColV u.heap.size v n hh V) (hg : V.grownBy V' v.ownBlock) : Kept u R V' := h.grown hg fun q e => by
  rcases hv with ⟨rfl, _⟩ | ⟨g, cap, rfl, h1, _⟩
  · cases e
  · obtain rfl : g = q := by simpa [Value.ownBlock] using e
    exact .inl h1
end
theorem Env.kept {w W u : World} {R : Nat} {P : World → Prop} (hE : Env w P W) (hk : Kept u R W) : Env w (fun V => P V ∧ Kept u R V) W := hE.and (Kept.stable _ _) hk
theorem ColQ.sep1 {W : World} {n R : Nat} {h : Nat → Nat → Q8} {J : Nat → Nat → Prop} {q : Nat → Nat → Rat} (hq : ColQ h n J q W) {t : TypeId} {cs : Array Value} (hR : Blk t R cs W) (hn : cs.toList.all noLimb = true) (i : Nat) (a : Value) : ColQ h n J q (W.setCell ⟨R, i, none⟩ a) := hq.to fun hf => hf.sep hR hn a
/-- The year in a box of a life. -/
def yearAt (p : Value) (W : World) : Int := match p with
  | .pointer (some ⟨b, _, _⟩) => intOf ((W.cell? ⟨b, 1, none⟩).getD (.int .i64 0))
  | _ => 0
theorem yearAt_of {W : World} {g : Nat} {t : TypeId} {E y : Int} (h : Blk t g #[.int .i64 E, .int .i64 y] W) : yearAt (.pointer (some ⟨g, 0, none⟩)) W = y := by
  unfold yearAt
  simp only [h.cell]
  rfl
/-- A column with D and C alone. -/
def colx (d c : Q8) : Nat → Q8 := fun j => if j = 0 then d else if j = 3 then c else Q8.z
theorem col_hx {W : World} {g : Nat} {d c : Q8} (hb : Blk 53 g #[.bool d.s, .slice d.A d.n d.c, .bool d.t, .slice d.B d.m d.d, .bool false, .slice none 0 0, .bool false, .slice none 0 0, .bool false, .slice none 0 0, .bool false, .slice none 0 0, .bool c.s, .slice c.A c.n c.c, .bool c.t, .slice c.B c.m c.d, .bool false, .slice none 0 0, .bool false, .slice none 0 0, .bool false, .slice none 0 0, .bool false, .slice none 0 0] W) :
    ∀ j u, (cols1 (colx d c))[j]? = some u → W.cell? ((⟨g, 0, none⟩ : Addr).add j) = some u := fun j u h => by
  have e : cols1 (colx d c) = [.bool d.s, .slice d.A d.n d.c, .bool d.t, .slice d.B d.m d.d, .bool false, .slice none 0 0, .bool false, .slice none 0 0, .bool false, .slice none 0 0, .bool false, .slice none 0 0, .bool c.s, .slice c.A c.n c.c, .bool c.t, .slice c.B c.m c.d, .bool false, .slice none 0 0, .bool false, .slice none 0 0, .bool false, .slice none 0 0, .bool false, .slice none 0 0] := rfl
  rw [add_none0, hb.cell, List.getElem?_toArray, ← e]
  exact h
/-- The columns' numbers. -/
def colq (v : Rat) (f : Nat → Rat) (N : Nat) (k j : Nat) : Rat :=
  if j = 0 then dd v f k else if j = 1 then sf (dd v f) N k else if j = 2 then sf (sf (dd v f) N) N k else if j = 3 then cc v f k else if j = 4 then sf (cc v f) N k else sf (sf (cc v f) N) N k
/-- An append whose run is known, in a region. -/
theorem app_step {P : Program} {o : Oper} {a : Act} {K : Act → World → Prop} {Q : Exit → Act → World → Prop} {w w' : World} {s x : Operand} {t : TypeId} {v1 v2 v' : Value} (ho : o.op = .call { callee := .builtin .append, args := #[s, x], argTypes := #[t, t] })
    (hs : a.eval s = v1) (hx : a.eval x = v2) (hr : (Builtin.append_ #[t, t] o.type #[v1, v2]).run P w = .ok v' w') (h : K (a.put o.dst v') w') : o.wp P a w K Q := by
  unfold Oper.wp execOp
  simp only [ho, resolve, invoke, builtin, Sem.run_bind, Sem.run_pure, Result.andThen_ok, List.map_toArray, List.map_cons, List.map_nil, hs, hx, hr]
  exact h
theorem Env.atI {w W : World} {P : World → Prop} {b o : Nat} {v : Value} (h : Env w P W) (ha : At b o v W) : Env w (fun V => P V ∧ At b o v V) W := h.and (At.stable b o v) ha
theorem right_at {F S E Y yr : Int} {n k : Nat} {r : Nat → RH} (hR : RightP F S n r E Y) (hy : yr = Y + (k : Int)) (h3 : yr ≤ 300) : RightP F S n r E yr := by
  obtain ⟨ht, r1, r2, r3, r4⟩ := hR
  exact ⟨ht, r1, r2, by omega, h3⟩
theorem right_not {F S E yr : Int} {n : Nat} {r : Nat → RH} (h3 : ¬ yr ≤ 300) : ¬ RightP F S n r E yr := fun h => h3 h.2.2.2.2
theorem fr_at {F S E Y yr : Int} {n k : Nat} {r : Nat → RH} (hy : yr = Y + (k : Int)) : fr F S n r E yr 0 = fr F S n r E Y k := by
  rw [hy, fr_move]
  rfl
theorem fr_past {F S E Y yr : Int} {n k : Nat} {r : Nat → RH} (hR : RightP F S n r E Y) (hy : yr = Y + (k : Int)) (h3 : ¬ yr ≤ 300) : ((1 : Int) : Rat) = fr F S n r E Y k := by
  show _ = rt F S n r E Y (k : Int)
  unfold rt
  obtain ⟨ht, r1, r2, r3, r4⟩ := hR
  have n2 := ht.2.1.2
  have n3 := ht.1.1.2
  rw [if_pos (by omega)]
  rfl
theorem yr_wrap {F S E Y yr : Int} {n k : Nat} {r : Nat → RH} (hR : RightP F S n r E Y) (hy : yr = Y + (k : Int)) (hk : k ≤ 1000) : IntKind.i64.wrap (yr + 1) = yr + 1 := by
  obtain ⟨_, _, _, _, _⟩ := hR
  rw [IntKind.wrap_i64]
  omega
theorem FV.nz {W : World} {q : Rat} {s t : Bool} {A B : Option Addr} {n m : Nat} (h : FV W q s A n t B m) : n = 0 ↔ q = 0 := by
  have hl := h.1.len
  have hp : 0 < Go.Proofs.YtmjlankpihnicaaGreat.ln b16 q.num.natAbs ↔ 0 < q.num.natAbs := ln_pos b16_two
  rw [← Rat.num_eq_zero]
  omega
end Go.Proofs.YtmjlankpihnicaaGreat
