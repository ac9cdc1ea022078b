/-
  Several texts in one: The order of upwards; what frac.Round asks. Lemmas on memory that the walks of survivor lean on. Claims in memory; the walks of survivor.Valid and zero. What an argument of the type []survivor.Claim is: claims in memory. Rows of structs in memory: read, stored into, appended to, made. The plain laws of survivor's parts: whole units. What stays where blocks that are no cells are turned. The reference's FromInt and Zero; fractions as they lie in memory. The examples of layer 23, in plain words. What the laws of layer 23 ask of the parts, in plain words. Scaled weights: the same parts and a level in proportion.
-/
import Derived.Test.YtjgihmmeimfheaaGreatK12
import Derived.Deep.CutRange
import Derived.Laws.MakeOwn
import Derived.Laws.AppendOwn
import Derived.Deep.MidRow
import Derived.Test.YtjgihmmeimfheaaGreatK3
import Derived.Test.YtjgihmmeimfheaaGreatK8
import Derived.ProofKit
import Derived.OpenShut
import Derived.Carry
import Derived.Deep.DeepHandedRow
import Derived.Deep.Slices
import Derived.Lib.LaidTab
import Derived.Lib.SmallJoins
import Derived.Test.YtjgihmmeimfheaaGreatK6
import Derived.RangeFuncWrites
set_option linter.unusedSimpArgs false
set_option maxRecDepth 100000
set_option maxHeartbeats 4000000
namespace Go.Proofs.YtjgihmmeimfheaaGreat
section
open Go.RowKit

def botQ (a b : Rat) : Int := (a.den : Int) * b.num
def topQ (a b : Rat) : Int := a.num * (b.den : Int)
def kQ (a b : Rat) : Int := (topQ a b).fdiv (botQ a b)
def rQ (a b : Rat) : Int := (topQ a b).fmod (botQ a b)
def oddQ (a b : Rat) : Bool := (kQ a b).natAbs % 2 == 1
def upQ (m : Nat) (a b : Rat) : Bool := upB m (decide (a.num < 0)) (oddQ a b) (cmpZ (rQ a b + rQ a b) (botQ a b))
def roundZ (m : Nat) (a b : Rat) : Int := if rQ a b = 0 then kQ a b else if upQ m a b then kQ a b + 1 else kQ a b
theorem fmod_len {a b : Int} {k : Nat} (hb : ln b16 b.natAbs ≤ k) (h0 : 0 < b) : ln b16 (a.fmod b).natAbs ≤ k := by
 refine Nat.le_trans (ln_mono b16_two ?_) hb;have h1 := Int.fmod_nonneg_of_pos a h0;have h2 := Int.fmod_lt_of_pos a h0;omega
theorem fdiv_len2 {a b : Int} {k : Nat} (ha : ln b16 a.natAbs ≤ k) (hk : 1 ≤ k) : ln b16 (a.fdiv b).natAbs ≤ k + 1 := by
 refine Nat.le_trans (ln_mono b16_two (show (a.fdiv b).natAbs ≤ a.natAbs + 1 from ?_)) (ln_add b16_two (m := k) ha ((ln_le b16_two).2 (Nat.lt_of_lt_of_le (by decide) (Nat.pow_le_pow_right (by decide) hk))));have h1 := Int.natAbs_ediv_le_natAbs a b;rw [Int.fdiv_eq_ediv]
 split <;> omega
theorem limb_zero {w : World} {z : Int} {s : Bool} {A : Option Addr} {n : Nat} (h : WV w z s A n) (h0 : 0 < n) : ∃ b o d, A = some ⟨b, o, none⟩ ∧ b < w.heap.size ∧ w.cell? ⟨b, o, none⟩ = some (.int .u16 ((d : Nat) : Int)) ∧ d % 2 = z.natAbs % 2 := by
 obtain ⟨hs, hl, hr⟩ := h;obtain ⟨b, o, e, hb, hc⟩ := hr (by omega);have c1 := hc 0 (by omega);rw [Nat.add_zero] at c1;refine ⟨b, o, dgt b16 z.natAbs 0, e, hb, c1, ?_⟩;unfold dgt;rw [Nat.pow_zero, Nat.div_one];exact Nat.mod_mod_of_dvd _ (by decide)
theorem ftneg_v {q : Rat} {s t : Bool} {A B : Option Addr} {n m c d : Nat} {w : World} (ha : FV w q s A n t B m) :
  Calls Tryz.prog 75 #[.agg #[.bool s, .slice A n c, .bool t, .slice B m d]] w (fun e w' => e = .returned (.bool s) ∧ Below w.heap.size w w') := by
 have hE := ((Env.start w).fv ha).blk 85 #[.bool s, .slice A n c, .bool t, .slice B m d] (g := w.heap.size) rfl
 obtain ⟨W0, hW0⟩ : ∃ W0, W0 = (w.alloc (.cells #[.bool s, .slice A n c, .bool t, .slice B m d] 85)) := ⟨_, rfl⟩
 rw [← hW0] at hE;have HW0 := Lib.hid hW0;clear hW0
 go_enter Tryz.func75, Tryz.ntmps75
 go_upto_region 1 with (fail)
 rw [← HW0.out];obtain ⟨k1, k2, k3, k4⟩ := (hE.here.2).c4;go_wp2_with fail
 go_ret
 exact ⟨rfl, hE.bel⟩
theorem run_store_fn {P : Program} {w : World} {a : Addr} {m : Mode} (f : Fn) (x y : Array Value) : (store a (.func f x y) m).run P w = stored P w a (.func f x y) m := run_store P w a _ m rfl
attribute [local go_sem] run_store_fn
theorem upwards_v (w : World) : Calls Tryz.prog 76 #[] w fun e w' => e = .returned (.agg #[.func (.func 112) #[] #[], .func (.func 113) #[] #[], .func (.func 114) #[] #[], .func (.func 115) #[] #[], .func (.func 116) #[] #[], .func (.func 117) #[] #[]]) ∧ Below w.heap.size w w' := by
 have hB := Blk.new w 108 #[.nilFunc, .nilFunc, .nilFunc, .nilFunc, .nilFunc, .nilFunc];have hb : Below w.heap.size w (w.alloc (.cells #[.nilFunc, .nilFunc, .nilFunc, .nilFunc, .nilFunc, .nilFunc] 108)) := (Below.refl _ w).alloc (Nat.le_refl _) _
 obtain ⟨W0, hW0⟩ : ∃ W0, W0 = w.alloc (.cells #[.nilFunc, .nilFunc, .nilFunc, .nilFunc, .nilFunc, .nilFunc] 108) := ⟨_, rfl⟩
 rw [← hW0] at hB hb;have HW0 := Lib.hid hW0;clear hW0
 go_enter Tryz.func76, Tryz.ntmps76
 go_upto_region 1 with (fail)
 rw [← HW0.out];have k0 := hB.cell 0;have z0 := hB.frozen 0;have k1 := hB.cell 1;have z1 := hB.frozen 1;have k2 := hB.cell 2;have z2 := hB.frozen 2;have k3 := hB.cell 3;have z3 := hB.frozen 3;have k4 := hB.cell 4;have z4 := hB.frozen 4;have k5 := hB.cell 5;have z5 := hB.frozen 5;go_wp2_with fail
 have hB2 := ((((((hB.set_ 0 (.func (.func 112) #[] #[])).set_ 1 (.func (.func 113) #[] #[])).set_ 2 (.func (.func 114) #[] #[])).set_ 3 (.func (.func 115) #[] #[])).set_ 4 (.func (.func 116) #[] #[])).set_ 5 (.func (.func 117) #[] #[]));clear k0 z0 k1 z1 k2 z2 k3 z3 k4 z4 k5 z5;have y0 := hB2.cell 0;have y1 := hB2.cell 1;have y2 := hB2.cell 2;have y3 := hB2.cell 3;have y4 := hB2.cell 4;have y5 := hB2.cell 5
 simp at y0 y1 y2 y3 y4 y5
 refine bodyPost_ret (v := .agg #[.func (.func 112) #[] #[], .func (.func 113) #[] #[], .func (.func 114) #[] #[], .func (.func 115) #[] #[], .func (.func 116) #[] #[], .func (.func 117) #[] #[]]) (by simp [results, Tryz.results76, go_sem, y0, y1, y2, y3, y4, y5]) rfl ?_;exact ⟨rfl, ((((((hb.setCell (p := ⟨w.heap.size, 0, none⟩) (Nat.le_refl _) (.func (.func 112) #[] #[])).setCell (p := ⟨w.heap.size, 1, none⟩) (Nat.le_refl _) (.func (.func 113) #[] #[])).setCell (p := ⟨w.heap.size, 2, none⟩) (Nat.le_refl _) (.func (.func 114) #[] #[])).setCell (p := ⟨w.heap.size, 3, none⟩) (Nat.le_refl _) (.func (.func 115) #[] #[])).setCell (p := ⟨w.heap.size, 4, none⟩) (Nat.le_refl _) (.func (.func 116) #[] #[])).setCell (p := ⟨w.heap.size, 5, none⟩) (Nat.le_refl _) (.func (.func 117) #[] #[]))⟩
theorem Blk.s3 {w : World} {t : TypeId} {g : Nat} {a b c : Value} (h : Blk t g #[a, b, c] w) (a' b' c' : Value) : Blk t g #[a', b', c'] (((w.setCell ⟨g, 0, none⟩ a').setCell ⟨g, 1, none⟩ b').setCell ⟨g, 2, none⟩ c') := by
 have := ((h.set_ 0 a').set_ 1 b').set_ 2 c'
 simpa using this
theorem At.off {w : World} {b o : Nat} {v : Value} (h : At b o v w) {p : Addr} (hp : b ≠ p.block) (u : Value) : At b o v (w.setCell p u) := by
 refine ⟨?_, ?_⟩
 · rw [World.size_setCell]; exact h.1
 · rw [World.cell?_setCell_other w _ _ u (fun e => hp (congrArg Addr.block e).symm)]; exact h.2
theorem At.far2 {w : World} {b o R : Nat} {v : Value} (h : At b o v w) (hp : b ≠ R) (a c : Value) : At b o v ((w.setCell ⟨R, 0, none⟩ a).setCell ⟨R, 1, none⟩ c) := (h.off (p := ⟨R, 0, none⟩) hp a).off (p := ⟨R, 1, none⟩) hp c
theorem At.far3 {w : World} {b o R : Nat} {v : Value} (h : At b o v w) (hp : b ≠ R) (a c d : Value) : At b o v (((w.setCell ⟨R, 0, none⟩ a).setCell ⟨R, 1, none⟩ c).setCell ⟨R, 2, none⟩ d) := (h.far2 hp a c).off (p := ⟨R, 2, none⟩) hp d
theorem At.apart {w : World} {b o g : Nat} {T : TypeId} {cs : Array Value} {d : Int} (h : At b o (.int .u16 d) w) (hW : Blk T g cs w) (hn : cs.toList.all noLimb = true) : b ≠ g := fun e => by
 subst e;have h1 := h.2;rw [hW.cell] at h1;have h2 := List.all_eq_true.1 hn _ (Array.mem_toList_iff.2 (Array.mem_of_getElem? h1))
 cases h2
theorem Env.atI {w W : World} {P : World → Prop} {b o : Nat} {v : Value} (h : Env w P W) (ha : At b o v W) : Env w (fun V => P V ∧ At b o v V) W := h.and (At.stable b o v) ha
theorem Blk.far3 {w : World} {t : TypeId} {g R : Nat} {cs : Array Value} (h : Blk t g cs w) (hp : g ≠ R) (a b c : Value) : Blk t g cs (((w.setCell ⟨R, 0, none⟩ a).setCell ⟨R, 1, none⟩ b).setCell ⟨R, 2, none⟩ c) := (h.far2 hp a b).far (p := ⟨R, 2, none⟩) hp c
theorem WV.sep3 {w : World} {z : Int} {s : Bool} {A : Option Addr} {n g : Nat} {T : TypeId} {x y u : Value} (h : WV w z s A n) (hW : Blk T g #[x, y, u] w) (hn : [x, y, u].all noLimb = true) (a b c : Value) (ha : noLimb a = true) (hb : noLimb b = true) :
  WV (((w.setCell ⟨g, 0, none⟩ a).setCell ⟨g, 1, none⟩ b).setCell ⟨g, 2, none⟩ c) z s A n := by
 simp only [List.all_cons, List.all_nil, Bool.and_true, Bool.and_eq_true] at hn;refine ((h.sep hW ?_ a).sep (hW.set_ 0 a) ?_ b).sep ((hW.set_ 0 a).set_ 1 b) ?_ c
 ·
  show (noLimb x && (noLimb y && (noLimb u && true))) = true;rw [hn.1, hn.2.1, hn.2.2]; rfl
 ·
  show (noLimb a && (noLimb y && (noLimb u && true))) = true;rw [ha, hn.2.1, hn.2.2]; rfl
 ·
  show (noLimb a && (noLimb b && (noLimb u && true))) = true;rw [ha, hb, hn.2.2]; rfl
theorem FV.sep3 {w : World} {q : Rat} {s t : Bool} {A B : Option Addr} {n m g : Nat} {T : TypeId} {x y u : Value} (h : FV w q s A n t B m) (hW : Blk T g #[x, y, u] w) (hn : [x, y, u].all noLimb = true) (a b c : Value) (ha : noLimb a = true) (hb : noLimb b = true) :
  FV (((w.setCell ⟨g, 0, none⟩ a).setCell ⟨g, 1, none⟩ b).setCell ⟨g, 2, none⟩ c) q s A n t B m := ⟨h.1.sep3 hW hn a b c ha hb, h.2.sep3 hW hn a b c ha hb⟩
theorem bel3 {w W : World} {g : Nat} (h : Below w.heap.size w W) (hg : w.heap.size ≤ g) (a b c : Value) : Below w.heap.size w (((W.setCell ⟨g, 0, none⟩ a).setCell ⟨g, 1, none⟩ b).setCell ⟨g, 2, none⟩ c) := (bel2 h hg a b).setCell (p := ⟨g, 2, none⟩) hg _
end
section
open Go.RowKit

def qOf (s : Bool) (n : Nat) (f : Nat → Nat) (m : Nat) (g : Nat → Nat) : Rat := Rat.divInt (toI s (vs b16 f n)) (vs b16 g m)
theorem okF_q {w : World} {s t : Bool} {A B : Option Addr} {n m : Nat} {f g : Nat → Nat} (hr : FRd w A n f B m g) (h : okF s n f t m g = true) : FV w (qOf s n f m g) s A n t B m ∧ n ≤ 256 ∧ m ≤ 256 ∧ fl (qOf s n f m g) ≤ 256 := by
 unfold qOf;unfold okF at h;simp only [Bool.and_eq_true, Bool.not_eq_true', Bool.or_eq_false_iff, decide_eq_false_iff_not, beq_iff_eq] at h;obtain ⟨⟨h1, h2⟩, h3, h4, h5, h6, h7⟩ := h;subst h5;have w1 := okW_wv hr.1 hr.2.2.1 h3;have w2 := okW_wv hr.2.1 hr.2.2.2 h4
 have hd : 0 < vs b16 g m := by
  have := w2.len;rw [toI_abs] at this;exact (ln_pos b16_two).1 (by omega)
 have hm := mk_low (n := toI s (vs b16 f n)) (d := vs b16 g m) hd (by rw [toI_abs]; exact h7);refine ⟨⟨by rw [hm.1]; exact w1, by rw [hm.2]; exact w2⟩, by omega, by omega, ?_⟩;rw [fl_le, hm.1, hm.2];have l1 := w1.len;have l2 := w2.len;rw [toI_abs] at l1 l2;rw [toI_abs];omega
structure FH where
 s : Bool
 A : Option Addr
 n : Nat
 c : Nat
 f : Nat → Nat
 t : Bool
 B : Option Addr
 m : Nat
 d : Nat
 g : Nat → Nat
def FH.q (h : FH) : Rat := qOf h.s h.n h.f h.m h.g
def FH.rd (h : FH) (w : World) : Prop := FRd w h.A h.n h.f h.B h.m h.g
def BoolIff (P : Prop) (w : World) (e : Ending) (w' : World) : Prop := ∃ v, e = .returned (.bool v) ∧ (v = true ↔ P) ∧ Below w.heap.size w w'
theorem no_iff {P : Prop} (h : ¬ P) : (false = true ↔ P) := ⟨fun e => (Bool.false_ne_true e).elim, fun p => absurd p h⟩
theorem yes_iff {P : Prop} (h : P) : (true = true ↔ P) := ⟨fun _ => h, fun _ => rfl⟩
section
variable {w w' W : World} {g n cap B : Nat}
theorem all_noLimb {cs : Array Value} (h : ∀ (i : Nat) (v : Value), cs[i]? = some v → noLimb v = true) : cs.toList.all noLimb = true :=
 List.all_eq_true.2 fun v hv => by
  obtain ⟨i, hi⟩ := List.getElem?_of_mem hv;exact h i v (by simpa using hi)
end
section
variable {w w' : World}
theorem cell_same {b o : Nat} (e : w'.heap[b]? = w.heap[b]?) : w'.cell? ⟨b, o, none⟩ = w.cell? ⟨b, o, none⟩ := by simp only [World.cell?, e]
end
theorem grown_of_below {W W' : World} (hb : Below W.heap.size W W') : W.grownBy W' none := ⟨hb.os, hb.tape, hb.output, hb.size, fun k hk _ => hb.block k hk⟩
theorem grownBy_setCellI (W : World) (g i : Nat) (u : Value) : W.grownBy (W.setCell ⟨g, i, none⟩ u) (some g) :=
 ⟨rfl, rfl, rfl, by rw [World.size_setCell]; exact Nat.le_refl _, fun k _ hne => Below.heap_setCell W ⟨g, i, none⟩ u k (fun e => hne (congrArg some e))⟩
theorem Blk.c1 {w : World} {g : Nat} {t : TypeId} {a : Value} (h : Blk t g #[a] w) : w.cell? ⟨g, 0, none⟩ = some a := h.cell 0
def Kept (u : World) (R : Nat) (V : World) : Prop := u.grownBy V (some R)
section
variable {u V V' : World} {R g : Nat}
theorem Kept.refl (u : World) (R : Nat) : Kept u R u := ⟨rfl, rfl, rfl, Nat.le_refl _, fun _ _ _ => rfl⟩
theorem Kept.grown (h : Kept u R V) {row : Option Nat} (hg : V.grownBy V' row) (hr : ∀ q, row = some q → u.heap.size ≤ q ∨ q = R) : Kept u R V' :=
 ⟨hg.os.trans h.os, hg.tape.trans h.tape, hg.output.trans h.output, Nat.le_trans h.size hg.size, fun k hk hne => (hg.block k (Nat.lt_of_lt_of_le hk h.size) (fun e => by
  rcases hr k e.symm with h1 | h1
  · omega
  · subst h1; exact hne rfl)).trans (h.block k hk hne)⟩
theorem Kept.stable (u : World) (R : Nat) : Stable (Kept u R) := fun _ _ hb h => h.grown (grown_of_below hb) (fun _ e => by cases e)
theorem Kept.set (h : Kept u R V) (hg : u.heap.size ≤ g ∨ g = R) (i : Nat) (a : Value) : Kept u R (V.setCell ⟨g, i, none⟩ a) := h.grown (grownBy_setCellI V g i a) (fun _ e => by cases e; exact hg)
end
theorem Env.kept {w W u : World} {R : Nat} {P : World → Prop} (hE : Env w P W) (hk : Kept u R W) : Env w (fun V => P V ∧ Kept u R V) W := hE.and (Kept.stable _ _) hk
theorem app_step {P : Program} {o : Oper} {a : Act} {K : Act → World → Prop} {Q : Exit → Act → World → Prop} {w w' : World} {s x : Operand} {t : TypeId} {v1 v2 v' : Value} (ho : o.op = .call { callee := .builtin .append, args := #[s, x], argTypes := #[t, t] })
  (hs : a.eval s = v1) (hx : a.eval x = v2) (hr : (Builtin.append_ #[t, t] o.type #[v1, v2]).run P w = .ok v' w') (h : K (a.put o.dst v') w') : o.wp P a w K Q := by
 unfold Oper.wp execOp;simp only [ho, resolve, invoke, builtin, Sem.run_bind, Sem.run_pure, Result.andThen_ok, List.map_toArray, List.map_cons, List.map_nil, hs, hx, hr];exact h
theorem ld_exec {P : Program} {w : World} {o : Oper} {ev : Operand → Value} {ty : TypeId} {x : Operand} {p v : Value} (hr : (Instr.loadAt ty p).run P w = .ok v w) (ho : o.op = .load ty x) (hx : ev x = p) : (execOp ev o).run P w = .ok (.value v) w := by
 simp [execOp, ho, hx, hr, Result.andThen]
theorem Blk.ne {t u : TypeId} {g k : Nat} {cs ds : Array Value} {W : World} (h : Blk t g cs W) (h2 : Blk u k ds W) (ht : t ≠ u) : g ≠ k := fun e => by
 subst e;have := Option.some.inj (h.symm.trans h2)
 injection this with _ e2 _
 exact ht e2
theorem sets_grown {t : TypeId} {g n : Nat} : ∀ (vs : List Value) (o : Nat) (U : World), (∃ cs, Blk t g cs U ∧ cs.size = n) → U.grownBy (U.setCells g o vs) (some g) ∧ ∃ cs, Blk t g cs (U.setCells g o vs) ∧ cs.size = n := fun vs => by
 induction vs with
 | nil => exact fun o U hU => ⟨⟨rfl, rfl, rfl, Nat.le_refl _, fun _ _ _ => rfl⟩, hU⟩
 | cons v vs ih =>
  intro o U ⟨cs, h3, h4⟩;obtain ⟨h5, h6⟩ := ih (o + 1) (U.setCell ⟨g, o, none⟩ v) ⟨_, h3.set_ o v, by rw [Array.size_setIfInBounds, h4]⟩;exact ⟨(Kept.set (Kept.refl U g) (.inr rfl) o v).grown h5 (fun q e => by cases e; exact .inr rfl), h6⟩
section
variable {w w' : World} {t : TypeId} {g : Nat} {cs : Array Value}
theorem Rd.grownB {A : Option Addr} {m : Nat} {f : Nat → Nat} (hr : Rd w.heap.size .u16 w A m f) (hB : Blk t g cs w) (hn : cs.toList.all noLimb = true) (hg : w.grownBy w' (some g)) : Rd w'.heap.size .u16 w' A m f := fun h0 => by
 obtain ⟨b, o, e, hb, hc⟩ := hr h0;refine ⟨b, o, e, Nat.lt_of_lt_of_le hb hg.size, fun i hi => ?_⟩;have h1 := hc i hi;rw [cell_same (hg.block b hb fun e2 => ?_)]
 · exact h1
 ·
  obtain rfl : b = g := by simpa using e2
  rw [hB.cell] at h1
  have h2 := List.all_eq_true.1 hn _ (by
   have := Array.mem_of_getElem? h1
   simpa using this)
  simp [noLimb] at h2
theorem WV.grownB {z : Int} {s : Bool} {A : Option Addr} {m : Nat} (hw : WV w z s A m) (hB : Blk t g cs w) (hn : cs.toList.all noLimb = true) (hg : w.grownBy w' (some g)) : WV w' z s A m := ⟨hw.1, hw.2.1, Rd.grownB hw.2.2 hB hn hg⟩
theorem FV.grownB {q : Rat} {s u : Bool} {A C : Option Addr} {a b : Nat} (hf : FV w q s A a u C b) (hB : Blk t g cs w) (hn : cs.toList.all noLimb = true) (hg : w.grownBy w' (some g)) : FV w' q s A a u C b := ⟨hf.1.grownB hB hn hg, hf.2.grownB hB hn hg⟩
theorem Blk.grownB {u : TypeId} {k : Nat} {ds : Array Value} (h : Blk u k ds w) (hg : w.grownBy w' (some g)) (hk : k ≠ g) : Blk u k ds w' := (hg.block k h.lt (fun e => hk (by simpa using e))).trans h
theorem Below.grownB {B : Nat} {a : World} (h : Below B a w) (hg : w.grownBy w' (some g)) (hB : B ≤ w.heap.size) (hgB : B ≤ g) : Below B a w' := h.grown hg hB (fun k e => by cases e; exact hgB)
end
theorem wpList_stP {P : Program} {w w' : World} {ops : Array Oper} {rest : List Oper} {o : Oper} {a : Act} {Q : Exit → Act → World → Prop} {ty : TypeId} {x y : Operand} {p v : Value} (hr : (Instr.storeAt ty p v).run P w = .ok () w') (hg : o.guard = none) (ho : o.op = .store ty x y) (hx : a.eval x = p) (hy : a.eval y = v)
  (h : wpList P ops Q rest (a.put o.dst undef) w') : wpList P ops Q (o :: rest) a w :=
 wpList_plain hg fun _ hK => by
  unfold Oper.wp execOp;simp only [ho, hx, hy, Sem.run_bind, Sem.run_pure, Result.andThen_ok, hr];exact hK _ _ h
end
section
open Go.RowKit

structure Cl where
 I : Int
 w : FH
 K : Int
def Cl.cells (x : Cl) (W : World) (b o : Nat) : Prop := W.cell? ⟨b, o, none⟩ = some (.int .i64 x.I) ∧ W.cell? ⟨b, o + 1, none⟩ = some (.bool x.w.s) ∧ W.cell? ⟨b, o + 2, none⟩ = some (.slice x.w.A x.w.n x.w.c) ∧ W.cell? ⟨b, o + 3, none⟩ = some (.bool x.w.t) ∧ W.cell? ⟨b, o + 4, none⟩ = some (.slice x.w.B x.w.m x.w.d) ∧ W.cell? ⟨b, o + 5, none⟩ = some (.int .i64 x.K)
def ClM (A : Option Addr) (n : Nat) (r : Nat → Cl) (W : World) : Prop := 0 < n → ∃ b o, A = some ⟨b, o, none⟩ ∧ b < W.heap.size ∧ ∀ k, k < n → (r k).cells W b (o + k * 6) ∧ (r k).w.rd W
theorem ClM.stable (A : Option Addr) (n : Nat) (r : Nat → Cl) : Stable (ClM A n r) := fun _ _ hb h h0 => by
 obtain ⟨b, o, e, hlt, hc⟩ := h h0;refine ⟨b, o, e, Nat.lt_of_lt_of_le hlt hb.size, fun k hk => ?_⟩;obtain ⟨⟨c0, c1, c2, c3, c4, c5⟩, hr⟩ := hc k hk;exact ⟨⟨(hb.cell (p := ⟨b, _, none⟩) hlt).trans c0, (hb.cell (p := ⟨b, _, none⟩) hlt).trans c1, (hb.cell (p := ⟨b, _, none⟩) hlt).trans c2, (hb.cell (p := ⟨b, _, none⟩) hlt).trans c3, (hb.cell (p := ⟨b, _, none⟩) hlt).trans c4, (hb.cell (p := ⟨b, _, none⟩) hlt).trans c5⟩, FRd.below hr hb⟩
theorem ClM.below {A : Option Addr} {n : Nat} {r : Nat → Cl} {w w' : World} (h : ClM A n r w) (hb : Below w.heap.size w w') : ClM A n r w' := ClM.stable _ _ _ _ _ hb h
theorem Env.clm {w W : World} {P : World → Prop} {A : Option Addr} {n : Nat} {r : Nat → Cl} (hE : Env w P W) (h : ClM A n r W) : Env w (fun V => P V ∧ ClM A n r V) W := hE.and (ClM.stable _ _ _) h
def Cl.ok (x : Cl) : Prop := (okF x.w.s x.w.n x.w.f x.w.t x.w.m x.w.g = true ∧ x.w.s = false) ∧ (x.w.n ≤ 4 ∧ x.w.m ≤ 4) ∧ 0 ≤ x.K ∧ x.K ≤ 1099511627776
def ClOK (n : Nat) (r : Nat → Cl) : Prop := n ≤ 32 ∧ ∀ k, k < n → (∀ j, k = j + 1 → (r j).I < (r k).I) ∧ (r k).ok
theorem ftvalid_long (s t : Bool) (A B : Option Addr) (n m c d : Nat) (w : World) (hl : (decide (256 < n) || decide (256 < m)) = true) :
  Calls Tryz.prog 67 #[.agg #[.bool s, .slice A n c, .bool t, .slice B m d]] w fun e w' => e = .returned (.bool false) ∧ Below w.heap.size w w' := by
 have hE := (Env.start w).blk 85 #[.bool s, .slice A n c, .bool t, .slice B m d] (g := w.heap.size) rfl
 obtain ⟨W0, hW0⟩ : ∃ W0, W0 = w.alloc (.cells #[.bool s, .slice A n c, .bool t, .slice B m d] 85) := ⟨_, rfl⟩
 rw [← hW0] at hE;have HW0 := Lib.hid hW0;have HL := Lib.hid hl;clear hW0 hl
 go_enter Tryz.func67, Tryz.ntmps67
 go_upto_region 1 with (fail)
 rw [← HW0.out];obtain ⟨k1, k2, k3, k4⟩ := hE.here.2.c4;go_wp2_with fail
 refine (flong_r s t A B n m c d _ _ HL.out).mono ?_
 rintro e w1 ⟨rfl, hb⟩
 clear k1 k2 k3 k4;go_wp2_with fail
 go_ret
 exact ⟨rfl, (hE.step hb).bel⟩
theorem fvalid_all (s t : Bool) (A B : Option Addr) (n m c d : Nat) (f g : Nat → Nat) (w : World) (hr : FRd w A n f B m g) (r : Bool) (h : okF s n f t m g = r) :
  Calls Tryz.prog 32 #[.agg #[.bool s, .slice A n c, .bool t, .slice B m d]] w fun e w' => e = .returned (.bool r) ∧ Below w.heap.size w w' := by
 by_cases hl : (decide (256 < n) || decide (256 < m)) = true
 ·
  obtain rfl : r = false := by rw [← h]; unfold okF; rw [hl]; rfl
  have hbl : Below w.heap.size w (w.alloc (.cells #[.bool s, .slice A n c, .bool t, .slice B m d] 29)) := (Below.refl _ _).alloc (Nat.le_refl _) _;have HL := Lib.hid hl;clear h hr hl
  go_enter Tryz.func32, Tryz.ntmps32
  go_wp2_with fail
  refine (ftvalid_long s t A B n m c d _ HL.out).mono ?_
  rintro e w1 ⟨rfl, hb⟩
  go_wp2_with fail
  go_ret
  exact ⟨rfl, hbl.trans (hb.mono hbl.size)⟩
 ·
  have h2 : n ≤ 256 ∧ m ≤ 256 := by
   simp only [Bool.or_eq_true, decide_eq_true_eq, not_or] at hl;omega
  exact fvalid_r s t A B n m c d f g w hr (by omega) (by omega) r h
theorem svalid_any (A : Option Addr) (n c : Nat) (r : Nat → Cl) (w : World) (hM : ClM A n r w) :
  Calls Tryz.prog 25 #[.slice A n c] w (BoolIff (ClOK n r) w) := by
 have hE := (Env.start w).clm hM;clear hM
 go_enter Tryz.func25, Tryz.ntmps25
 by_cases hn : n ≤ 32
 rotate_left
 ·
  have t1 : decide ((32 : Int) < (n : Int)) = true := decide_eq_true (by omega);have HN := Lib.hid hn;clear hn;go_wp2_with fail
  go_ret
  exact ⟨false, rfl, no_iff (fun h => HN.out h.1), hE.bel⟩
 have t1 : decide ((32 : Int) < (n : Int)) = false := decide_eq_false (by omega);go_wp2_with fail
 clear t1
 go_loopw [10] (fun x wr => ∃ k : Nat, k ≤ n ∧ x = .int .i64 (k : Int) ∧ Hid (∀ j, j < k → (∀ i, j = i + 1 → (r i).I < (r j).I) ∧ (r j).ok) ∧ Env w (fun V => True ∧ ClM A n r V) wr) (fun x _ => n - (intOf x).toNat)
 case atStart => exact ⟨0, Nat.zero_le _, rfl, Lib.hid (fun j hj => absurd hj (Nat.not_lt_zero j)), hE⟩
 case round =>
  clear hE;obtain ⟨k, hk, rfl, HK, hE⟩ := hrel
  by_cases hlt : k < n
  rotate_left
  ·
   obtain rfl : k = n := by omega
   have t1 : decide ((k : Int) < (k : Int)) = false := decide_eq_false (by omega);go_wp2_with fail
   go_ret
   exact ⟨true, rfl, yes_iff ⟨hn, HK.out⟩, hE.bel⟩
  obtain ⟨b, o, rfl, hb, hc⟩ := hE.here.2 (by omega)
  obtain ⟨x, hx⟩ : ∃ x, x = r k := ⟨_, rfl⟩
  obtain ⟨⟨d0, d1, d2, d3, d4, d5⟩, hrd⟩ := hc k hlt;rw [← hx] at d0 d1 d2 d3 d4 d5 hrd;have t1 : decide ((k : Int) < (n : Int)) = true := decide_eq_true (by omega)
  have t2 : (k : Int) < (n : Int) := by omega
  have hEf := hE.frd hrd;have HX := Lib.hid hx;clear hx hrd
  by_cases h0 : k = 0
  ·
   have HID : Hid (∀ i, k = i + 1 → (r i).I < (r k).I) := Lib.hid (fun i hi => by omega);have u0 : decide (0 < k) = false := decide_eq_false (by omega);have hE := hEf;clear hEf hc h0
   go_upto_region 6 with (fail)
   clear d0 d1 d2 d3 d4 d5 t1
   obtain ⟨g1, hg1⟩ : ∃ g1, g1 = wr.heap.size := ⟨_, rfl⟩
   replace hE := hE.blk 46 #[.int .i64 x.I, .bool x.w.s, .slice x.w.A x.w.n x.w.c, .bool x.w.t, .slice x.w.B x.w.m x.w.d, .int .i64 x.K] (g := g1) hg1.symm;generalize wr.alloc (.cells #[.int .i64 x.I, .bool x.w.s, .slice x.w.A x.w.n x.w.c, .bool x.w.t, .slice x.w.B x.w.m x.w.d, .int .i64 x.K] 46) = W1 at hE ⊢;rw [← hg1];clear hg1;replace hE := hE.drew;refine wp_region_held_drew (S := fun w' => True) (by kernel_rfl) (trivial) (fun hHeld => ?_)
   generalize W1.drew = wd at *
   refine tk 0 ?_;refine tk 1 ?_;refine tk 2 ?_;refine tu 3 ?_;refine tu 4 ?_;refine tu 5 ?_;refine tu 6 ?_;refine tu 7 ?_;refine tu 8 ?_;refine tu 9 ?_;refine tu 10 ?_;refine tu 11 ?_;refine tk 12 ?_;refine wpAnyH_done (by kernel_rfl) ?_ _;have k2 := (hE.here.2).cell 0;have k3 := (hE.here.2).cell 1;have k4 := (hE.here.2).cell 2;have k5 := (hE.here.2).cell 3;have k6 := (hE.here.2).cell 4;have k7 := (hE.here.2).cell 5
   obtain ⟨v, hv⟩ : ∃ v, okF x.w.s x.w.n x.w.f x.w.t x.w.m x.w.g = v := ⟨_, rfl⟩
   have HV := Lib.hid hv;clear hv;go_wp2_with fail
   refine hE.br (fvalid_all x.w.s x.w.t x.w.A x.w.B x.w.n x.w.m x.w.c x.w.d x.w.f x.w.g _ (hE.here.1.2) v HV.out) ?_;clear hE k2 k3 k4 k5 k6 k7;intro w8 hE;have k9 := (hE.here.2).cell 0;have k10 := (hE.here.2).cell 1;have k11 := (hE.here.2).cell 2;have k12 := (hE.here.2).cell 3;have k13 := (hE.here.2).cell 4;have k14 := (hE.here.2).cell 5
   cases v with
   | false =>
    go_wp2_with fail
    go_ret
    exact ⟨false, rfl, no_iff (fun h => by have := (h.2 k hlt).2.1.1; rw [← HX.out, HV.out] at this; cases this), hE.bel⟩
   | true =>
    obtain ⟨sg, hsg⟩ : ∃ sg, x.w.s = sg := ⟨_, rfl⟩
    rw [hsg] at k10;have HSG := Lib.hid hsg;clear hsg
    cases sg with
    | true =>
     go_wp2_with fail
     go_ret
     exact ⟨false, rfl, no_iff (fun h => by have := (h.2 k hlt).2.1.2; rw [← HX.out, HSG.out] at this; cases this), hE.bel⟩
    | false =>
     by_cases c1 : x.w.n ≤ 4
     rotate_left
     ·
      have u1 : decide ((4 : Int) < (x.w.n : Int)) = true := decide_eq_true (by omega);go_wp2_with fail
      go_ret
      exact ⟨false, rfl, no_iff (fun h => by have := (h.2 k hlt).2.2.1.1; rw [← HX.out] at this; omega), hE.bel⟩
     have u1 : decide ((4 : Int) < (x.w.n : Int)) = false := decide_eq_false (by omega)
     by_cases c2 : x.w.m ≤ 4
     rotate_left
     ·
      have u2 : decide ((4 : Int) < (x.w.m : Int)) = true := decide_eq_true (by omega);go_wp2_with fail
      go_ret
      exact ⟨false, rfl, no_iff (fun h => by have := (h.2 k hlt).2.2.1.2; rw [← HX.out] at this; omega), hE.bel⟩
     have u2 : decide ((4 : Int) < (x.w.m : Int)) = false := decide_eq_false (by omega)
     by_cases c3 : 0 ≤ x.K
     rotate_left
     ·
      have u3 : decide (x.K < 0) = true := decide_eq_true (by omega);go_wp2_with fail
      go_ret
      exact ⟨false, rfl, no_iff (fun h => by have := (h.2 k hlt).2.2.2.1; rw [← HX.out] at this; omega), hE.bel⟩
     have u3 : decide (x.K < 0) = false := decide_eq_false (by omega)
     by_cases c4 : x.K ≤ 1099511627776
     rotate_left
     ·
      have u4 : decide ((1099511627776 : Int) < x.K) = true := decide_eq_true (by omega);go_wp2_with fail
      go_ret
      exact ⟨false, rfl, no_iff (fun h => by have := (h.2 k hlt).2.2.2.2; rw [← HX.out] at this; omega), hE.bel⟩
     have u4 : decide ((1099511627776 : Int) < x.K) = false := decide_eq_false (by omega);go_wp2_with fail
     clear k9 k10 k11 k12 k13 k14
     go_roundw
     case rel =>
      refine ⟨k + 1, by omega, by go_num, Lib.hid (fun i hi => ?_), (Env.again hE.bel).clm (hE.h2)⟩
      by_cases e : i = k
      ·
       subst e;refine ⟨HID.out, ?_⟩;rw [← HX.out];exact ⟨⟨HV.out, HSG.out⟩, ⟨c1, c2⟩, c3, c4⟩
      · exact HK.out i (by omega)
     case measure => simp [intOf]; omega
  obtain ⟨j, hj⟩ : ∃ j, k = j + 1 := ⟨k - 1, by omega⟩
  obtain ⟨y, hy⟩ : ∃ y, y = r j := ⟨_, rfl⟩
  have hcy := (hc j (by omega)).1.1;rw [← hy] at hcy;have u0 : decide (0 < k) = true := decide_eq_true (by omega)
  have o1 : IntKind.i64.wrap ((k : Int) - 1) = (j : Int) := by rw [IntKind.wrap_i64]; omega
  have i1 : (j : Int) < (n : Int) := by omega
  have hE := hEf.atI (⟨hb, hcy⟩ : At b (o + j * 6) (.int .i64 y.I) wr);have Hhj := Lib.hid hj;clear hj;have Hhy := Lib.hid hy;clear hy;clear hEf hc h0 hcy
  go_upto_region 6 with (fail)
  clear d0 d1 d2 d3 d4 d5 t1
  obtain ⟨g15, hg15⟩ : ∃ g15, g15 = wr.heap.size := ⟨_, rfl⟩
  replace hE := hE.blk 46 #[.int .i64 x.I, .bool x.w.s, .slice x.w.A x.w.n x.w.c, .bool x.w.t, .slice x.w.B x.w.m x.w.d, .int .i64 x.K] (g := g15) hg15.symm;generalize wr.alloc (.cells #[.int .i64 x.I, .bool x.w.s, .slice x.w.A x.w.n x.w.c, .bool x.w.t, .slice x.w.B x.w.m x.w.d, .int .i64 x.K] 46) = W15 at hE ⊢;rw [← hg15];clear hg15
  by_cases c0 : y.I < x.I
  rotate_left
  ·
   have u9 : decide (x.I ≤ y.I) = true := decide_eq_true (by omega);replace hE := hE.drew;refine wp_region_held_drew (S := fun V => Blk 46 (g15) #[.int .i64 x.I, .bool x.w.s, .slice x.w.A x.w.n x.w.c, .bool x.w.t, .slice x.w.B x.w.m x.w.d, .int .i64 x.K] V ∧ At b (o + j * 6) (.int .i64 y.I) V) (by kernel_rfl) (⟨hE.here.2, hE.here.1.2⟩) (fun hHeld => ?_)
   generalize W15.drew = wd at *
   refine tk 0 ?_;refine tk 1 ?_;refine tk 2 ?_;refine tk 3 ?_;refine tk 4 ?_;refine tk 5 ?_;refine tk 6 ?_;refine tk 7 ?_
   refine tk 8 ?_ (hy := by
    intro w hSw;have kc0 := (hSw.2).2;clear hSw
    first | (go_simp; done) | (go_simp; with_reducible rfl))
   try simp only [PL]
   refine tk 9 ?_
   refine tk 10 ?_ (hy := by
    intro w hSw;have kc0 := (hSw.1).cell 0;clear hSw
    first | (go_simp; done) | (go_simp; with_reducible rfl))
   try simp only [PL]
   refine tk 11 ?_;refine tk 12 ?_;refine wpAnyH_done (by kernel_rfl) ?_ _;go_wp2_with fail
   go_ret
   exact ⟨false, rfl, no_iff (fun h => by have := (h.2 k hlt).1 j Hhj.out; rw [← HX.out, ← Hhy.out] at this; omega), hE.bel⟩
  have u9 : decide (x.I ≤ y.I) = false := decide_eq_false (by omega)
  have HID : Hid (∀ i, k = i + 1 → (r i).I < (r k).I) := Lib.hid (fun i hi => by
   have e1 := Hhj.out; obtain rfl : i = j := by omega
   rw [← HX.out, ← Hhy.out]; exact c0)
  replace hE := hE.drew;refine wp_region_held_drew (S := fun V => Blk 46 (g15) #[.int .i64 x.I, .bool x.w.s, .slice x.w.A x.w.n x.w.c, .bool x.w.t, .slice x.w.B x.w.m x.w.d, .int .i64 x.K] V ∧ At b (o + j * 6) (.int .i64 y.I) V) (by kernel_rfl) (⟨hE.here.2, hE.here.1.2⟩) (fun hHeld => ?_)
  generalize W15.drew = wd at *
  refine tk 0 ?_;refine tk 1 ?_;refine tk 2 ?_;refine tk 3 ?_;refine tk 4 ?_;refine tk 5 ?_;refine tk 6 ?_;refine tk 7 ?_
  refine tk 8 ?_ (hy := by
   intro w hSw;have kc0 := (hSw.2).2;clear hSw
   first | (go_simp; done) | (go_simp; with_reducible rfl))
  try simp only [PL]
  refine tk 9 ?_
  refine tk 10 ?_ (hy := by
   intro w hSw;have kc0 := (hSw.1).cell 0;clear hSw
   first | (go_simp; done) | (go_simp; with_reducible rfl))
  try simp only [PL]
  refine tk 11 ?_;refine tk 12 ?_;refine wpAnyH_done (by kernel_rfl) ?_ _;have k16 := (hE.here.2).cell 0;have k17 := (hE.here.2).cell 1;have k18 := (hE.here.2).cell 2;have k19 := (hE.here.2).cell 3;have k20 := (hE.here.2).cell 4;have k21 := (hE.here.2).cell 5
  obtain ⟨v, hv⟩ : ∃ v, okF x.w.s x.w.n x.w.f x.w.t x.w.m x.w.g = v := ⟨_, rfl⟩
  have HV := Lib.hid hv;clear hv;go_wp2_with fail
  refine hE.br (fvalid_all x.w.s x.w.t x.w.A x.w.B x.w.n x.w.m x.w.c x.w.d x.w.f x.w.g _ (hE.h2) v HV.out) ?_;clear hE k16 k17 k18 k19 k20 k21;intro w22 hE;have k23 := (hE.here.2).cell 0;have k24 := (hE.here.2).cell 1;have k25 := (hE.here.2).cell 2;have k26 := (hE.here.2).cell 3;have k27 := (hE.here.2).cell 4;have k28 := (hE.here.2).cell 5
  cases v with
  | false =>
   go_wp2_with fail
   go_ret
   exact ⟨false, rfl, no_iff (fun h => by have := (h.2 k hlt).2.1.1; rw [← HX.out, HV.out] at this; cases this), hE.bel⟩
  | true =>
   obtain ⟨sg, hsg⟩ : ∃ sg, x.w.s = sg := ⟨_, rfl⟩
   rw [hsg] at k24;have HSG := Lib.hid hsg;clear hsg
   cases sg with
   | true =>
    go_wp2_with fail
    go_ret
    exact ⟨false, rfl, no_iff (fun h => by have := (h.2 k hlt).2.1.2; rw [← HX.out, HSG.out] at this; cases this), hE.bel⟩
   | false =>
    by_cases c1 : x.w.n ≤ 4
    rotate_left
    ·
     have u1 : decide ((4 : Int) < (x.w.n : Int)) = true := decide_eq_true (by omega);go_wp2_with fail
     go_ret
     exact ⟨false, rfl, no_iff (fun h => by have := (h.2 k hlt).2.2.1.1; rw [← HX.out] at this; omega), hE.bel⟩
    have u1 : decide ((4 : Int) < (x.w.n : Int)) = false := decide_eq_false (by omega)
    by_cases c2 : x.w.m ≤ 4
    rotate_left
    ·
     have u2 : decide ((4 : Int) < (x.w.m : Int)) = true := decide_eq_true (by omega);go_wp2_with fail
     go_ret
     exact ⟨false, rfl, no_iff (fun h => by have := (h.2 k hlt).2.2.1.2; rw [← HX.out] at this; omega), hE.bel⟩
    have u2 : decide ((4 : Int) < (x.w.m : Int)) = false := decide_eq_false (by omega)
    by_cases c3 : 0 ≤ x.K
    rotate_left
    ·
     have u3 : decide (x.K < 0) = true := decide_eq_true (by omega);go_wp2_with fail
     go_ret
     exact ⟨false, rfl, no_iff (fun h => by have := (h.2 k hlt).2.2.2.1; rw [← HX.out] at this; omega), hE.bel⟩
    have u3 : decide (x.K < 0) = false := decide_eq_false (by omega)
    by_cases c4 : x.K ≤ 1099511627776
    rotate_left
    ·
     have u4 : decide ((1099511627776 : Int) < x.K) = true := decide_eq_true (by omega);go_wp2_with fail
     go_ret
     exact ⟨false, rfl, no_iff (fun h => by have := (h.2 k hlt).2.2.2.2; rw [← HX.out] at this; omega), hE.bel⟩
    have u4 : decide ((1099511627776 : Int) < x.K) = false := decide_eq_false (by omega);go_wp2_with fail
    clear k23 k24 k25 k26 k27 k28
    go_roundw
    case rel =>
     refine ⟨k + 1, by omega, by go_num, Lib.hid (fun i hi => ?_), (Env.again hE.bel).clm (hE.h3)⟩
     by_cases e : i = k
     ·
      subst e;refine ⟨HID.out, ?_⟩;rw [← HX.out];exact ⟨⟨HV.out, HSG.out⟩, ⟨c1, c2⟩, c3, c4⟩
     · exact HK.out i (by omega)
    case measure => simp [intOf]; omega
theorem szero_v {a : Rat} {sa ta : Bool} {Aa Ba : Option Addr} {na ca ma da : Nat} {w : World} (ha : FV w a sa Aa na ta Ba ma) :
  Calls Tryz.prog 73 #[.agg #[.bool sa, .slice Aa na ca, .bool ta, .slice Ba ma da]] w (BoolIff (a.num = 0) w) := by
 have hn : na = 0 ↔ a.num = 0 := by rw [ha.1.len, ln_eq_zero b16_two]; omega
 have hE := ((Env.start w).fv ha).blk 29 #[.bool sa, .slice Aa na ca, .bool ta, .slice Ba ma da] (g := w.heap.size) rfl
 obtain ⟨W0, hW0⟩ : ∃ W0, W0 = (w.alloc (.cells #[.bool sa, .slice Aa na ca, .bool ta, .slice Ba ma da] 29)) := ⟨_, rfl⟩
 rw [← hW0] at hE;have HW0 := Lib.hid hW0;clear hW0
 go_enter Tryz.func73, Tryz.ntmps73
 go_upto_region 1 with (fail)
 rw [← HW0.out];obtain ⟨k1, k2, k3, k4⟩ := (hE.here.2).c4;go_wp2_with fail
 go_ret
 refine ⟨_, rfl, ?_, hE.bel⟩;rw [← hn]; simp
end
section
open Go.ChangeShapes Go.WideShapes Go.ChangeAt Go.RowKit Go.Deep

theorem cBool : Tryz.prog.cellsOf 4 = 1 := by kernel_rfl
theorem cU16 : Tryz.prog.cellsOf 59 = 1 := by kernel_rfl
theorem cU16s : Tryz.prog.cellsOf 25 = 1 := by kernel_rfl
theorem cWhole : Tryz.prog.cellsOf 27 = 2 := by kernel_rfl
theorem cFrac : Tryz.prog.cellsOf 29 = 4 := by kernel_rfl
theorem two_of_len {α : Type} {l : List α} (h : l.length = 2) : ∃ a b, l = [a, b] := by
 match l, h with
 | [a, b], _ => exact ⟨a, b, rfl⟩
theorem four_of_len {α : Type} {l : List α} (h : l.length = 4) : ∃ a b c d, l = [a, b, c, d] := by
 match l, h with
 | [a, b, c, d], _ => exact ⟨a, b, c, d, rfl⟩
theorem cell_in {w : World} {b o : Nat} {v : Value} (h : w.cell? ⟨b, o, none⟩ = some v) : b < w.heap.size := by
 rcases Nat.lt_or_ge b w.heap.size with h1 | h1
 · exact h1
 · simp [World.cell?, Array.getElem?_eq_none h1] at h
theorem int_in {z : Int} (h : (Lit.int .i64 z).wf = true) : -9223372036854775808 ≤ z ∧ z ≤ 9223372036854775807 := by
 have := range_i64 (zs := [z]) (fun n hn => by rw [List.mem_singleton.1 hn]; exact h) 0
 simpa using this
theorem add_none (b o k : Nat) : (⟨b, o, none⟩ : Addr).add k = ⟨b, o + k, none⟩ := by
 unfold Addr.add
 by_cases h : k = 0
 · simp [h]
 · simp [h]
theorem cInt : Tryz.prog.cellsOf 3 = 1 := by kernel_rfl
theorem cClaim : Tryz.prog.cellsOf 46 = 6 := by kernel_rfl
theorem three_of_len {α : Type} {l : List α} (h : l.length = 3) : ∃ a b c, l = [a, b, c] := by
 match l, h with
 | [a, b, c], _ => exact ⟨a, b, c, rfl⟩
theorem six_of_len {α : Type} {l : List α} (h : l.length = 6) : ∃ a b c d e f, l = [a, b, c, d, e, f] := by
 match l, h with
 | [a, b, c, d, e, f], _ => exact ⟨a, b, c, d, e, f, rfl⟩
instance : Inhabited Cl := ⟨⟨0, ⟨false, none, 0, 0, fun _ => 0, false, none, 0, 0, fun _ => 0⟩, 0⟩⟩
def I64 (z : Int) : Prop := -9223372036854775808 ≤ z ∧ z ≤ 9223372036854775807
section
variable {H : Type} {enc : TypeId × Value → H} {W : World}
theorem limbs_open {fuel : Nat} {cs : List Value} {x : DataW H × List MemPlace} (h : DataW.trod enc Tryz.prog W 0 (fun _ => true) true fuel 25 cs = some x) :
  ∃ A n c f, cs = [.slice A n c] ∧ Rd W.heap.size .u16 W A n f ∧ ∀ j, j < n → f j < 65536 := by
 rcases open_ints Tryz.underlying25 Tryz.underlying59 cU16 h with ⟨e1, -⟩ | ⟨a, len, cap, zs, e1, -, hlc, hcm, hzl, -, hc, hwf⟩
 · exact ⟨none, 0, 0, fun _ => 0, e1, Rd.nil, fun j hj => absurd hj (by omega)⟩
 ·
  replace hzl : zs.length = cap := by simpa using hzl
  have hb : ∀ j, 0 ≤ zs.getD j 0 ∧ zs.getD j 0 ≤ 65535 := fun j => by rw [List.getD_eq_getElem?_getD]; exact range_u16 hwf j
  refine ⟨some a, len, cap, fun j => (zs.getD j 0).toNat, e1, fun hn => ?_, fun j _ => by have := hb j; show (zs.getD j 0).toNat < 65536; omega⟩;obtain ⟨b, o, rfl, hcell⟩ := ints_at hc (by omega);refine ⟨b, o, rfl, ?_, fun i hi => ?_⟩
  · exact cell_in (hcell 0 (by omega))
  · rw [hcell i (by omega), Int.toNat_of_nonneg (hb i).1]
theorem wcells_open {fuel : Nat} {cs : List Value} {x : DataW H × List MemPlace} (h : DataW.trod enc Tryz.prog W 0 (fun _ => true) true fuel 27 cs = some x) :
  ∃ s A n c f, cs = [.bool s, .slice A n c] ∧ Rd W.heap.size .u16 W A n f ∧ ∀ j, j < n → f j < 65536 := by
 obtain ⟨xs, k, -, -, hl, hx, hi⟩ := DataW.trod_struct Tryz.underlying27 h;obtain ⟨c0, c1, rfl⟩ := two_of_len (hl.trans cWhole);obtain ⟨x0, x1, rfl⟩ := two_of_len hx;have h0 : DataW.trod enc Tryz.prog W 0 (fun _ => true) true k 4 (([c0, c1].drop 0).take (Tryz.prog.cellsOf 4)) = some x0 := hi 0 _ rfl;have h1 : DataW.trod enc Tryz.prog W 0 (fun _ => true) true k 25 (([c0, c1].drop 1).take (Tryz.prog.cellsOf 25)) = some x1 := hi 1 _ rfl;rw [cBool] at h0;rw [cU16s] at h1;simp only [List.drop_zero, List.take_succ_cons, List.take_zero, List.drop_succ_cons] at h0 h1;obtain ⟨s, e0, -⟩ := DataW.trod_bool Tryz.underlying4 h0;obtain ⟨A, n, c, f, e1, r1, r2⟩ := limbs_open h1
 injection e0 with e0
 injection e1 with e1
 exact ⟨s, A, n, c, f, by rw [e0, e1], r1, r2⟩
theorem fcells_open {fuel : Nat} {cs : List Value} {x : DataW H × List MemPlace} (h : DataW.trod enc Tryz.prog W 0 (fun _ => true) true fuel 29 cs = some x) :
  ∃ q : FH, cs = [.bool q.s, .slice q.A q.n q.c, .bool q.t, .slice q.B q.m q.d] ∧ q.rd W := by
 obtain ⟨xs, k, -, -, hl, hx, hi⟩ := DataW.trod_struct Tryz.underlying29 h;obtain ⟨c0, c1, c2, c3, rfl⟩ := four_of_len (hl.trans cFrac);obtain ⟨x0, x1, rfl⟩ := two_of_len hx;have h0 : DataW.trod enc Tryz.prog W 0 (fun _ => true) true k 27 (([c0, c1, c2, c3].drop 0).take (Tryz.prog.cellsOf 27)) = some x0 := hi 0 _ rfl;have h1 : DataW.trod enc Tryz.prog W 0 (fun _ => true) true k 27 (([c0, c1, c2, c3].drop 2).take (Tryz.prog.cellsOf 27)) = some x1 := hi 1 _ rfl;rw [cWhole] at h0 h1;simp only [List.drop_zero, List.take_succ_cons, List.take_zero, List.drop_succ_cons] at h0 h1;obtain ⟨s, A, n, c, f, e0, r1, r2⟩ := wcells_open h0;obtain ⟨t, B, m, d, g, e1, r3, r4⟩ := wcells_open h1
 injection e0 with e0 e2
 injection e2 with e2
 injection e1 with e1 e3
 injection e3 with e3
 exact ⟨⟨s, A, n, c, f, t, B, m, d, g⟩, by rw [e0, e1, e2, e3], r1, r3, r2, r4⟩
theorem ccl_open {fuel : Nat} {cs : List Value} {x : DataW H × List MemPlace} (h : DataW.trod enc Tryz.prog W 0 (fun _ => true) true fuel 46 cs = some x) :
  ∃ q : Cl, cs = [.int .i64 q.I, .bool q.w.s, .slice q.w.A q.w.n q.w.c, .bool q.w.t, .slice q.w.B q.w.m q.w.d, .int .i64 q.K] ∧ q.w.rd W := by
 obtain ⟨xs, k, -, -, hl, hx, hi⟩ := DataW.trod_struct Tryz.underlying46 h;obtain ⟨c0, c1, c2, c3, c4, c5, rfl⟩ := six_of_len (hl.trans cClaim);obtain ⟨x0, x1, x2, rfl⟩ := three_of_len hx;have h0 : DataW.trod enc Tryz.prog W 0 (fun _ => true) true k 3 (([c0, c1, c2, c3, c4, c5].drop 0).take (Tryz.prog.cellsOf 3)) = some x0 := hi 0 _ rfl;have h1 : DataW.trod enc Tryz.prog W 0 (fun _ => true) true k 29 (([c0, c1, c2, c3, c4, c5].drop 1).take (Tryz.prog.cellsOf 29)) = some x1 := hi 1 _ rfl;have h2 : DataW.trod enc Tryz.prog W 0 (fun _ => true) true k 3 (([c0, c1, c2, c3, c4, c5].drop 5).take (Tryz.prog.cellsOf 3)) = some x2 := hi 2 _ rfl;rw [cInt] at h0 h2;rw [cFrac] at h1;simp only [List.drop_zero, List.take_succ_cons, List.take_zero, List.drop_succ_cons] at h0 h1 h2;obtain ⟨I, e0, -, -⟩ := DataW.trod_int Tryz.underlying3 h0;obtain ⟨q, e1, hq⟩ := fcells_open h1;obtain ⟨K, e2, -, -⟩ := DataW.trod_int Tryz.underlying3 h2;simp only [List.cons.injEq, and_true] at e0 e1 e2;obtain ⟨rfl, rfl, rfl, rfl⟩ := e1;subst e0 e2;exact ⟨⟨I, q, K⟩, rfl, hq⟩
theorem claims_open {b0 : Nat} {v : Value} {d : DataW H} {p : List MemPlace} (hv : Value.okWide Tryz.prog W .any b0 22 v) (h : DataW.Trod enc Tryz.prog W 0 (fun _ => true) true 22 v d p) :
  ∃ A n c r, v = .slice A n c ∧ ClM A n r W := by
 obtain ⟨a0, n0, c0, rfl⟩ := okWide_slice Tryz.underlying22 hv;obtain ⟨fuel, hf⟩ := h;have hf2 : DataW.trod enc Tryz.prog W 0 (fun _ => true) true fuel 22 [.slice a0 n0 c0] = some (d, p) := hf;refine ⟨a0, n0, c0, ?_⟩
 rcases open_slice Tryz.underlying22 hf2 with ⟨e, -⟩ | ⟨a, len, cap, m, k, D, Pl, e, -, hlc, hcm, hm, -, hx⟩
 ·
  injection e with e
  injection e with e1 e2 e3
  subst e2;exact ⟨fun _ => default, rfl, fun h0 => absurd h0 (Nat.lt_irrefl 0)⟩
 ·
  injection e with e
  injection e with e1 e2 e3
  subst e1 e2
  replace hm : m = cap := by simpa using hm
  have hsp : 0 < n0 → ∃ b o, a = ⟨b, o, none⟩ := fun h0 => by
   obtain ⟨cs', h1, h2⟩ := hx 0 (by omega);rw [cClaim] at h1;obtain ⟨q, rfl, hq⟩ := ccl_open h2;obtain ⟨-, -, hc⟩ := World.cells?_some h1;have c0 := hc 0 (by omega);obtain ⟨b, o, spot⟩ := a
   have hs : spot = none := by simpa [Addr.add] using World.cell?_spot c0
   exact ⟨b, o, by rw [hs]⟩
  have each : ∀ i, i < n0 → ∃ q : Cl, (∃ b o, a = ⟨b, o, none⟩ ∧ b < W.heap.size ∧ q.cells W b (o + i * 6)) ∧ q.w.rd W := fun i hi => by
   obtain ⟨b, o, rfl⟩ := hsp (by omega);obtain ⟨cs', h1, h2⟩ := hx i (by omega);rw [cClaim, add_none] at h1;obtain ⟨q, rfl, hq⟩ := ccl_open h2;obtain ⟨-, -, hc⟩ := World.cells?_some h1;have c0 := hc 0 (by omega);have c1 := hc 1 (by omega);have c2 := hc 2 (by omega);have c3 := hc 3 (by omega);have c4 := hc 4 (by omega);have c5 := hc 5 (by omega);rw [add_none] at c0 c1 c2 c3 c4 c5;simp only [List.getElem?_cons_zero, List.getElem?_cons_succ, Nat.add_zero] at c0 c1 c2 c3 c4 c5;exact ⟨q, ⟨b, o, rfl, cell_in c0, c0, c1, c2, c3, c4, c5⟩, hq⟩
  obtain ⟨r, hh⟩ := choose_lt each;refine ⟨r, rfl, fun h0 => ?_⟩;obtain ⟨⟨b, o, rfl, hb, -⟩, -⟩ := hh 0 h0;refine ⟨b, o, rfl, hb, fun i hi => ?_⟩;obtain ⟨⟨b', o', e, -, hc⟩, hr⟩ := hh i hi
  cases e
  exact ⟨hc, hr⟩
end
end
section
open Go.RowKit

def Rw (T : TypeId) (m g n cap : Nat) (e : Nat → List Value) (W : World) : Prop :=
 n ≤ cap ∧ cap ≤ maxLen ∧ ∃ cs : Array Value, Blk T g cs W ∧ cs.size = cap * m ∧ (∀ (i : Nat) (v : Value), cs[i]? = some v → noLimb v = true) ∧
  ∀ k, k < n → ∀ i, i < m → cs[k * m + i]? = (e k)[i]?
def updE (e : Nat → List Value) (j : Nat) (x : List Value) : Nat → List Value := fun k => if k = j then x else e k
theorem mul_in {k n m i : Nat} (hk : k < n) (hi : i < m) : k * m + i < n * m :=
 Nat.lt_of_lt_of_le (show k * m + i < (k + 1) * m by rw [Nat.succ_mul]; omega) (Nat.mul_le_mul_right m hk)
theorem mul_apart {k j m i : Nat} (hne : k ≠ j) (hi : i < m) : ¬ (j * m ≤ k * m + i ∧ k * m + i < j * m + m) := fun h => by
 rcases Nat.lt_or_gt_of_ne hne with h1 | h1
 · have := mul_in h1 hi; omega
 ·
  have := Nat.mul_le_mul_right m (show j + 1 ≤ k from h1);rw [Nat.succ_mul] at this;omega
theorem sets_cells {t : TypeId} {g : Nat} : ∀ (vs : List Value) (o : Nat) (cs : Array Value) (U : World), Blk t g cs U → o + vs.length ≤ cs.size →
  ∃ ds, Blk t g ds (U.setCells g o vs) ∧ ds.size = cs.size ∧ ∀ i, ds[i]? = if o ≤ i ∧ i < o + vs.length then vs[i - o]? else cs[i]? := fun vs => by
 induction vs with
 | nil => exact fun o cs U h _ => ⟨cs, h, rfl, fun i => (if_neg (by simp only [List.length_nil]; omega)).symm⟩
 | cons v r ih =>
  intro o cs U h hl;rw [List.length_cons] at hl;obtain ⟨ds, h1, h2, h3⟩ := ih (o + 1) (cs.setIfInBounds o v) (U.setCell ⟨g, o, none⟩ v) (h.set_ o v) (by rw [Array.size_setIfInBounds]; omega);refine ⟨ds, h1, by rw [h2, Array.size_setIfInBounds], fun i => ?_⟩;rw [h3 i, Array.getElem?_setIfInBounds, List.length_cons]
  by_cases e : o = i
  ·
   subst e;rw [if_neg (by omega), if_pos rfl, if_pos (by omega), if_pos (by omega), Nat.sub_self];rfl
  ·
   by_cases e2 : o + 1 ≤ i ∧ i < o + 1 + r.length
   ·
    rw [if_pos e2, if_pos (by omega), show i - o = (i - (o + 1)) + 1 by omega];rfl
   · rw [if_neg e2, if_neg e, if_neg (by omega)]
section
variable {w w' W : World} {T : TypeId} {m g n cap B : Nat} {e : Nat → List Value}
theorem Rw.lt (h : Rw T m g n cap e W) : g < W.heap.size := by obtain ⟨_, _, cs, hb, _⟩ := h; exact hb.lt
theorem Rw.blk (h : Rw T m g n cap e W) : ∃ cs : Array Value, Blk T g cs W ∧ cs.toList.all noLimb = true ∧ cs.size = cap * m := by
 obtain ⟨_, _, cs, hb, h4, h5, _⟩ := h;exact ⟨cs, hb, all_noLimb h5, h4⟩
theorem Rw.cell (h : Rw T m g n cap e W) {k i o : Nat} {v : Value} (hk : k < n) (hi : i < m) (ho : o = k * m + i) (hv : (e k)[i]? = some v) : W.cell? ⟨g, o, none⟩ = some v := by
 obtain ⟨_, _, cs, hb, _, _, hc⟩ := h;subst ho;rw [hb.cell, hc k hk i hi, hv]
theorem Rw.frozen (h : Rw T m g n cap e W) (i : Nat) : W.frozen? ⟨g, i, none⟩ = false := by obtain ⟨_, _, cs, hb, _⟩ := h; exact hb.frozen i
theorem Rw.stable (T : TypeId) (m g n cap : Nat) (e : Nat → List Value) : Stable (Rw T m g n cap e) := fun _ _ hb ⟨h1, h2, cs, h3, h4⟩ => ⟨h1, h2, cs, h3.below hb h3.lt, h4⟩
theorem Rw.below (h : Rw T m g n cap e w) (hb : Below w.heap.size w w') : Rw T m g n cap e w' := Rw.stable _ _ _ _ _ _ _ _ hb h
theorem Rw.congr {e' : Nat → List Value} (h : Rw T m g n cap e W) (he : ∀ k, k < n → e k = e' k) : Rw T m g n cap e' W := by
 obtain ⟨h1, h2, cs, h3, h4, h5, h6⟩ := h;exact ⟨h1, h2, cs, h3, h4, h5, fun k hk i hi => by rw [h6 k hk i hi, he k hk]⟩
theorem Rw.grownB {k : Nat} (h : Rw T m g n cap e w) (hg : w.grownBy w' (some k)) (hk : g ≠ k) : Rw T m g n cap e w' := by
 obtain ⟨h1, h2, cs, h3, h4⟩ := h;exact ⟨h1, h2, cs, h3.grownB hg hk, h4⟩
theorem Rw.ne {t : TypeId} {k : Nat} {ds : Array Value} (h : Rw T m g n cap e W) (hB : Blk t k ds W) (ht : T ≠ t) : g ≠ k := by
 obtain ⟨_, _, cs, hb, _⟩ := h;exact Blk.ne hb hB ht
theorem Rw.ne2 {t : TypeId} {m2 k n2 cap2 : Nat} {e2 : Nat → List Value} (h : Rw T m g n cap e W) (h2 : Rw t m2 k n2 cap2 e2 W) (ht : T ≠ t) : g ≠ k := by
 obtain ⟨_, _, cs, hb, _⟩ := h2;exact h.ne hb ht
theorem Rw.range (h : Rw T m g n cap e W) {k : Nat} (hk : k < n) (hl : (e k).length = m) : W.rangeAt g (k * m) (e k) := fun j v hv => by
 have hj : j < m := by have := (List.getElem?_eq_some_iff.1 hv).1; omega
 exact h.cell hk hj rfl hv
theorem Rw.there (h : Rw T m g n cap e W) {k : Nat} (hk : k < n) : W.there g (k * m) m := fun j hj => by
 obtain ⟨h1, _, cs, hb, h4, _, _⟩ := h;refine ⟨?_, hb.frozen _⟩;rw [hb.cell, Array.getElem?_eq_getElem (by rw [h4]; exact mul_in (by omega) hj)];rfl
theorem Rw.put (h : Rw T m g n cap e W) {j : Nat} (hj : j < n) {x : List Value} (hx : x.length = m) (hn : ∀ v ∈ x, noLimb v = true) : Rw T m g n cap (updE e j x) (W.setCells g (j * m) x) ∧ W.grownBy (W.setCells g (j * m) x) (some g) := by
 obtain ⟨h1, h2, cs, h3, h4, h5, h6⟩ := h
 have hend : j * m + m ≤ cs.size := by
  rw [h4];have := Nat.mul_le_mul_right m (show j + 1 ≤ cap by omega);rw [Nat.succ_mul] at this;exact this
 obtain ⟨ds, k1, k2, k3⟩ := sets_cells x (j * m) cs W h3 (by rw [hx]; exact hend);refine ⟨⟨h1, h2, ds, k1, by rw [k2, h4], fun i v hv => ?_, fun k hk i hi => ?_⟩, (sets_grown x (j * m) W ⟨cs, h3, rfl⟩).1⟩
 ·
  rw [k3] at hv
  split at hv
  · exact hn v (List.mem_of_getElem? hv)
  · exact h5 i v hv
 ·
  rw [k3];unfold updE
  by_cases c : k = j
  ·
   subst c;rw [if_pos (by rw [hx]; omega), if_pos rfl, Nat.add_sub_cancel_left]
  · rw [if_neg (by rw [hx]; exact mul_apart c hi), if_neg c, h6 k hk i hi]
theorem Rw.fv {q : Rat} {s u : Bool} {A C : Option Addr} {a b : Nat} (h : Rw T m g n cap e w) (hf : FV w q s A a u C b) (hg : w.grownBy w' (some g)) : FV w' q s A a u C b := by
 obtain ⟨cs, hb, hn, _⟩ := h.blk;exact hf.grownB hb hn hg
theorem Rw.made (W : World) (T : TypeId) (m n cap : Nat) (z : Array Value) (hz : z.size = m) (hn : ∀ v ∈ z, noLimb v = true) (h1 : n ≤ cap) (h2 : cap ≤ maxLen) (h0 : 0 < m) : Rw T m W.heap.size n cap (fun _ => z.toList) (W.alloc (.cells (madeCells z (cap * m)) T)) :=
 ⟨h1, h2, madeCells z (cap * m), Blk.new W _ _, size_madeCells _ _, fun i v hv => by
  unfold madeCells at hv;rw [Array.getElem?_map] at hv;obtain ⟨j, hj, rfl⟩ := Option.map_eq_some_iff.1 hv;have hlt : j % z.size < z.size := Nat.mod_lt _ (by omega);rw [getElem!_pos z _ hlt]
  exact hn _ (Array.getElem_mem hlt), fun k hk i hi => by
  unfold madeCells;have h3 := mul_in (m := m) (show k < cap by omega) hi;rw [Array.getElem?_map, Array.getElem?_range, if_pos h3]
  have h4 : (k * m + i) % z.size = i := by rw [hz, Nat.add_comm, Nat.add_mul_mod_self_right, Nat.mod_eq_of_lt hi]
  rw [Option.map_some, h4, getElem!_pos z i (by omega), Array.getElem?_toList, Array.getElem?_eq_getElem (by omega)]⟩
end
def RwV (T : TypeId) (m b0 : Nat) (v : Value) (n : Nat) (e : Nat → List Value) (W : World) : Prop := (v = .slice none 0 0 ∧ n = 0) ∨ ∃ g cap, v = .slice (some ⟨g, 0, none⟩) n cap ∧ b0 ≤ g ∧ Rw T m g n cap e W
section
variable {w w' W : World} {T : TypeId} {m b0 n B : Nat} {v : Value} {e : Nat → List Value}
theorem RwV.stable (T : TypeId) (m b0 : Nat) (v : Value) (n : Nat) (e : Nat → List Value) : Stable (RwV T m b0 v n e) := fun _ _ hb hv => by
 rcases hv with hv | ⟨g, cap, e1, hg, hB⟩
 · exact .inl hv
 · exact .inr ⟨g, cap, e1, hg, Rw.stable _ _ _ _ _ _ _ _ hb hB⟩
theorem RwV.far {t : TypeId} {k : Nat} {ds : Array Value} (hv : RwV T m b0 v n e w) (hB : Blk t k ds w) (ht : T ≠ t) (hg : w.grownBy w' (some k)) : RwV T m b0 v n e w' := by
 rcases hv with hv | ⟨g, cap, e1, hb, hR⟩
 · exact .inl hv
 · exact .inr ⟨g, cap, e1, hb, hR.grownB hg (hR.ne hB ht)⟩
theorem FV.grownR {q : Rat} {s u : Bool} {A C : Option Addr} {a b : Nat} (hf : FV w q s A a u C b) (hv : RwV T m b0 v n e w) (hg : w.grownBy w' v.ownBlock) : FV w' q s A a u C b := by
 rcases hv with ⟨rfl, _⟩ | ⟨g, cap, rfl, _, hB⟩
 · exact hf.below ⟨hg.os, hg.tape, hg.output, hg.size, fun k hk => hg.block k hk (by simp [Value.ownBlock])⟩
 · exact hB.fv hf hg
theorem Rw.grownR {t : TypeId} {m2 g n2 cap : Nat} {e2 : Nat → List Value} (h : Rw t m2 g n2 cap e2 w) (hv : RwV T m b0 v n e w) (hg : w.grownBy w' v.ownBlock) (hne : g < b0 ∨ t ≠ T) : Rw t m2 g n2 cap e2 w' := by
 obtain ⟨h1, h2, cs, h3, h4⟩ := h;refine ⟨h1, h2, cs, (hg.block g h3.lt fun e5 => ?_).trans h3, h4⟩
 rcases hv with ⟨rfl, _⟩ | ⟨g', cap', rfl, hb, _, _, cs', h6, _⟩
 · cases e5
 ·
  obtain rfl : g = g' := by simpa [Value.ownBlock] using e5
  rcases hne with hne | hne
  · omega
  · exact Blk.ne h3 h6 hne rfl
theorem Below.grownR {a : World} (hb : Below B a w) (hv : RwV T m b0 v n e w) (hg : w.grownBy w' v.ownBlock) (hB : B ≤ b0) (hs : B ≤ w.heap.size) : Below B a w' := by
 refine hb.grown hg hs fun q e => ?_
 rcases hv with ⟨rfl, _⟩ | ⟨g, cap, rfl, h1, _⟩
 · cases e
 ·
  obtain rfl : g = q := by simpa [Value.ownBlock] using e
  omega
end
theorem row_points {olds x rest : List Value} {m n : Nat} {e : Nat → List Value} (ho : olds.length = n * m) (hx : x.length = m) (hp : ∀ k, k < n → ∀ i, i < m → olds[k * m + i]? = (e k)[i]?) :
  ∀ k, k < n + 1 → ∀ i, i < m → (olds ++ x ++ rest)[k * m + i]? = (updE e n x k)[i]? := fun k hk i hi => by
 unfold updE
 by_cases c : k = n
 ·
  subst c;rw [if_pos rfl, List.append_assoc, List.getElem?_append_right (by omega), List.getElem?_append_left (by omega), ho, Nat.add_sub_cancel_left]
 ·
  have := mul_in (show k < n by omega) hi;rw [if_neg c, List.append_assoc, List.getElem?_append_left (by omega)];exact hp k (by omega) i hi
theorem no_limbs {olds x rest : List Value} (h1 : ∀ v, v ∈ olds → noLimb v = true) (hx : ∀ v, v ∈ x → noLimb v = true) (h2 : ∀ v, v ∈ rest → noLimb v = true) {cs : Array Value} (e : cs.toList = olds ++ x ++ rest) : ∀ (i : Nat) (v : Value), cs[i]? = some v → noLimb v = true := fun i v hv => by
 have hm : v ∈ cs.toList := by rw [Array.mem_toList_iff]; exact Array.mem_of_getElem? hv
 rw [e, List.append_assoc] at hm
 rcases List.mem_append.1 hm with hm | hm
 · exact h1 v hm
 ·
  rcases List.mem_append.1 hm with hm | hm
  · exact hx v hm
  · exact h2 v hm
theorem zeros_noL {z : Array Value} (hz : ∀ v ∈ z, noLimb v = true) (h0 : 0 < z.size) {k : Nat} : ∀ v, v ∈ (Builtin.zeroCells z k).toList → noLimb v = true := fun v hv => by
 unfold Builtin.zeroCells at hv;rw [Array.mem_toList_iff, Array.mem_map] at hv;obtain ⟨a, _, rfl⟩ := hv;have hlt : a % z.size < z.size := Nat.mod_lt _ h0;rw [getElem!_pos z _ hlt];exact hz _ (Array.getElem_mem hlt)
structure Elem (tS T : TypeId) (m : Nat) where
 und : Tryz.prog.underlying tS = some (.slice T)
 z : Value
 bytes : Nat
 info : (Tryz.prog.info? T).map (fun i => (i.zero, i.size, i.bytes)) = some (some z, m, bytes)
 size : z.cells.size = m
 pos : 0 < m
 noL : ∀ v ∈ z.cells, noLimb v = true
 few : bytes ≤ 4096
theorem append_rw {w : World} {tS T : TypeId} {m : Nat} (E : Elem tS T m) (ty : TypeId) {b0 n : Nat} {v : Value} {e : Nat → List Value} (hv : RwV T m b0 v n e w) (hb0 : b0 ≤ w.heap.size) (a : Addr) (c : Nat) (x : List Value) (hxl : x.length = m) (hxn : ∀ u ∈ x, noLimb u = true) (hx1 : ∀ u ∈ x, u.oneCell' = true) (hx : ∀ j u, x[j]? = some u → w.cell? (a.add j) = some u) (hn : n ≤ 1000) :
  ∃ g cap w', (Builtin.append_ #[tS, tS] ty #[v, .slice (some a) 1 c]).run Tryz.prog w = .ok (.slice (some ⟨g, 0, none⟩) (n + 1) cap) w' ∧ b0 ≤ g ∧
   Rw T m g (n + 1) cap (updE e n x) w' ∧ w.grownBy w' v.ownBlock := by
 obtain ⟨i, hi, hz, hs, hby⟩ := info_parts E.info;have hund := E.und
 have hl : x.length = 1 * i.size := by rw [hxl, hs, Nat.one_mul]
 have hge := fun old => grownCap_ge w (n + 1) old T
 have hcm := fun old => grownCap_le_maxLen w (n + 1) old T (show n + 1 ≤ maxLen by unfold maxLen; omega)
 have hzs := E.size;have hfew := E.few
 have hz0 : ∀ k, ∀ v, v ∈ (Builtin.zeroCells E.z.cells k).toList → noLimb v = true := fun k => zeros_noL E.noL (by rw [hzs]; exact E.pos)
 rcases hv with ⟨rfl, rfl⟩ | ⟨g, cap, rfl, hg, h1, h2, cs, h3, h4, h5, h6⟩
 ·
  have hr := run_append_nil (P := Tryz.prog) w tS ty T i E.z hund hi hz a 1 c x hl hx (by decide) (by decide) (by rw [hby]; omega);refine ⟨_, _, _, hr, hb0, ⟨hge 0, hcm 0, _, heap_alloc_new w.drew _, ?_, ?_, ?_⟩, ⟨rfl, rfl, rfl, by simp, fun k hk _ => heap_alloc_old w.drew _ hk⟩⟩
  ·
   have h0 := hge 0;rw [Nat.zero_add] at h0;simp only [Array.size_append, List.size_toArray, size_zeroCells, hzs, hxl]
   obtain ⟨d, hd⟩ : ∃ d, grownCap w 1 0 T = d + 1 := ⟨_, (Nat.sub_add_cancel h0).symm⟩
   rw [hd, Nat.add_sub_cancel, Nat.succ_mul, Nat.add_comm]
  · exact no_limbs (olds := []) (fun v hv => absurd hv (by simp)) hxn (hz0 (grownCap w 1 0 T - 1)) (by simp)
  ·
   intro k hk i hi;have := row_points (olds := []) (rest := (Builtin.zeroCells E.z.cells (grownCap w 1 0 T - 1)).toList) (n := 0) (e := e) (by simp) hxl (fun k hk => absurd hk (by omega)) k hk i hi;rw [← this, ← Array.getElem?_toList]
   simp
 ·
  have hnm : n * m ≤ cap * m := Nat.mul_le_mul_right m h1
  have hlt : (cs.toList.take (n * m)).length = n * m := by rw [List.length_take, Array.length_toList, h4]; omega
  have hp : ∀ k, k < n → ∀ i, i < m → (cs.toList.take (n * m))[k * m + i]? = (e k)[i]? := fun k hk i hi => by
   rw [List.getElem?_take_of_lt (mul_in hk hi), Array.getElem?_toList];exact h6 k hk i hi
  have hno : ∀ v, v ∈ cs.toList → noLimb v = true := fun v hv => by
   obtain ⟨i, hi⟩ := List.getElem?_of_mem hv;exact h5 i v (by simpa using hi)
  by_cases hroom : n + 1 ≤ cap
  ·
   have hnm2 : n * m + m ≤ cap * m := by have := Nat.mul_le_mul_right m hroom; rwa [Nat.succ_mul] at this
   have hr := run_append_room (P := Tryz.prog) w tS ty T i hund hi g n cap cs h3 a 1 c x hl hx hx1 hroom (by rw [hs, hxl, h4]; exact hnm2);rw [hs, hxl] at hr;refine ⟨_, _, _, hr, hg, ⟨hroom, h2, _, setRow_heap w g cs _ _ _ h3, ?_, ?_, ?_⟩, ⟨rfl, rfl, rfl, by simp, fun k _ hk => setRow_other w g k _ (fun e => hk (by simp [Value.ownBlock, e]))⟩⟩
   ·
    simp only [List.size_toArray, List.length_append, hlt, hxl, List.length_drop, Array.length_toList, h4];omega
   · exact no_limbs (fun v hv => hno v (List.mem_of_mem_take hv)) hxn (fun v hv => hno v (List.mem_of_mem_drop hv)) rfl
   ·
    intro k hk i hi;rw [List.getElem?_toArray];exact row_points hlt hxl hp k hk i hi
  ·
   have hr := run_append_grow (P := Tryz.prog) w tS ty T i E.z hund hi hz ⟨g, 0, none⟩ n cap (cs.toList.take (n * m)) (by rw [hlt, hs]) (fun j u hu => by
     have hj : j < n * m := by
      have := (List.getElem?_eq_some_iff.1 hu).1;omega
     rw [Addr.add_mid, Nat.zero_add, h3.cell];rw [List.getElem?_take_of_lt hj, Array.getElem?_toList] at hu
     exact hu) a 1 c x hl hx (by omega) (by omega) (growslice_fits (by omega) (by
      rw [hby]
      exact Nat.le_trans (Nat.mul_le_mul (show n + 1 ≤ 1001 by omega) hfew) (by decide)))
   refine ⟨_, _, _, hr, hb0, ⟨hge cap, hcm cap, _, heap_alloc_new w.drew _, ?_, ?_, ?_⟩, ⟨rfl, rfl, rfl, by simp, fun k hk _ => heap_alloc_old w.drew _ hk⟩⟩
   ·
    have := hge cap;simp only [Array.size_append, List.size_toArray, size_zeroCells, hzs, hxl, hlt]
    obtain ⟨d, hd⟩ : ∃ d, grownCap w (n + 1) cap T = (n + 1) + d := ⟨_, (Nat.add_sub_cancel' this).symm⟩
    rw [hd, Nat.add_sub_cancel_left, Nat.add_mul, Nat.succ_mul]
   · exact no_limbs (olds := cs.toList.take (n * m)) (fun v hv => hno v (List.mem_of_mem_take hv)) hxn (hz0 (grownCap w (n + 1) cap T - (n + 1))) (by simp)
   ·
    intro k hk i hi;have := row_points (rest := (Builtin.zeroCells E.z.cells (grownCap w (n + 1) cap T - (n + 1))).toList) hlt hxl hp k hk i hi;rw [← this, ← Array.getElem?_toList]
    simp
theorem Env.rwr {w W : World} {P : World → Prop} {T : TypeId} {m g n cap : Nat} {e : Nat → List Value} (hE : Env w P W) (h : Rw T m g n cap e W) : Env w (fun V => P V ∧ Rw T m g n cap e V) W := hE.and (Rw.stable _ _ _ _ _ _) h
theorem Env.rwv {w W : World} {P : World → Prop} {T : TypeId} {m b0 n : Nat} {v : Value} {e : Nat → List Value} (hE : Env w P W) (h : RwV T m b0 v n e W) : Env w (fun V => P V ∧ RwV T m b0 v n e V) W := hE.and (RwV.stable _ _ _ _ _ _) h
end
section

theorem round_floor (a : Rat) : roundZ 3 a 1 = floorQ a := by
 have h1 : topQ a 1 = a.num := by show a.num * (((1 : Rat).den : Nat) : Int) = _; rw [Rat.den_ofNat]; simp
 have h2 : botQ a 1 = (a.den : Int) := by show (a.den : Int) * (1 : Rat).num = _; rw [Rat.num_ofNat]; simp
 have hk : kQ a 1 = floorQ a := by unfold kQ floorQ; rw [h1, h2]
 unfold roundZ
 split
 · exact hk
 ·
  have hu : upQ 3 a 1 = false := by unfold upQ upB; rfl
  rw [hu, hk];rfl
section
variable (t : Rat) (w : Nat → Rat) (K : Nat → Int)
def xq (k : Nat) : Rat := part t (w k, ((K k : Int) : Rat))
def lq (k : Nat) : Rat := xq t w K k - ((floorQ (xq t w K k) : Int) : Rat)
def suZ (g : Nat → Int) : Nat → Int
 | 0 => 0
 | k + 1 => suZ g k + g k
theorem suZ_su (g : Nat → Int) : ∀ n, ((suZ g n : Int) : Rat) = su (fun k => ((g k : Int) : Rat)) n
 | 0 => rfl
 | n + 1 => by
  unfold suZ su;rw [Rat.intCast_add, suZ_su g n]
def leftZ (T : Int) (n : Nat) : Int := T - suZ (fun k => floorQ (xq t w K k)) n
def pz (s : List Nat) (L : Nat) (k : Nat) : Int := floorQ (xq t w K k) + if k ∈ s.take L then 1 else 0
end
theorem lq_b (t : Rat) (w : Nat → Rat) (K : Nat → Int) (k : Nat) : 0 ≤ lq t w K k ∧ lq t w K k < 1 := by
 have h1 := floorQ_le (xq t w K k);have h2 := floorQ_lt (xq t w K k);rw [Rat.intCast_add] at h2;have h3 : ((1 : Int) : Rat) = 1 := rfl;rw [h3] at h2;unfold lq
 grind
section
variable {t : Rat} {w : Nat → Rat} {K : Nat → Int} {n : Nat} {T : Int}
theorem left_lost (h : Lv (prs w K (List.range n)) ((T : Int) : Rat) t) : su (lq t w K) n = ((leftZ t w K T n : Int) : Rat) := by
 have h1 := h.2.1;rw [FF_su] at h1
 have h2 : su (xq t w K) n = su (fun k => lq t w K k + ((floorQ (xq t w K k) : Int) : Rat)) n := su_congr fun i _ => by unfold lq; grind
 rw [su_add, ← suZ_su] at h2;have h3 : su (xq t w K) n = ((T : Int) : Rat) := h1;unfold leftZ;rw [Rat.intCast_sub]
 grind
theorem left_nn (h : Lv (prs w K (List.range n)) ((T : Int) : Rat) t) : 0 ≤ leftZ t w K T n := by
 have h1 := left_lost h;have h2 := (su_b (g := lq t w K) (i := n) (M := 1) (fun k _ => ⟨(lq_b t w K k).1, Rat.le_of_lt (lq_b t w K k).2⟩)).1;rw [h1] at h2
 exact_mod_cast h2
structure PartsQ (t : Rat) (w : Nat → Rat) (K : Nat → Int) (n : Nat) (T : Int) (p : Nat → Int) : Prop where
 ex : ∃ s : List Nat, s.Perm (List.range n) ∧ s.Pairwise (Ord (lq t w K)) ∧ ∀ k, k < n → p k = pz t w K s (leftZ t w K T n).toNat k
variable {p : Nat → Int} (h : Lv (prs w K (List.range n)) ((T : Int) : Rat) t) (hq : PartsQ t w K n T p)
include h hq
theorem parts_sum : suZ p n = T := by
 obtain ⟨s, h1, h2, h3⟩ := hq;have h0 := left_nn h
 have hl : su (lq t w K) n = (((leftZ t w K T n).toNat : Nat) : Rat) := by
  rw [left_lost h];have e : (leftZ t w K T n) = (((leftZ t w K T n).toNat : Nat) : Int) := (Int.toNat_of_nonneg h0).symm
  conv => lhs; rw [e]
  rfl
 have h5 := units_sum h1 (fun i _ => lq_b t w K i) hl (fun k => ((floorQ (xq t w K k) : Int) : Rat))
 have h6 : su (fun k => ((p k : Int) : Rat)) n = su (fun i => ((floorQ (xq t w K i) : Int) : Rat) + if i ∈ s.take (leftZ t w K T n).toNat then 1 else 0) n := su_congr fun i hi => by
  rw [h3 i hi];unfold pz;rw [Rat.intCast_add]
  split <;> rfl
 rw [← h6, ← suZ_su, ← suZ_su] at h5
 have e : (((leftZ t w K T n).toNat : Nat) : Rat) = ((leftZ t w K T n : Int) : Rat) := by
  conv => rhs; rw [← Int.toNat_of_nonneg h0]
  rfl
 rw [e, ← Rat.intCast_add, Rat.intCast_inj] at h5;rw [h5];unfold leftZ;omega
theorem parts_one {k : Nat} (hk : k < n) : (p k = floorQ (xq t w K k) ∨ (p k = floorQ (xq t w K k) + 1 ∧ 0 < lq t w K k)) := by
 obtain ⟨s, h1, h2, h3⟩ := hq;have h0 := left_nn h
 have hl : su (lq t w K) n = (((leftZ t w K T n).toNat : Nat) : Rat) := by
  rw [left_lost h];have e : (leftZ t w K T n) = (((leftZ t w K T n).toNat : Nat) : Int) := (Int.toNat_of_nonneg h0).symm
  conv => lhs; rw [e]
  rfl
 rw [h3 k hk];unfold pz
 split
 ·
  rename_i hm;exact .inr ⟨rfl, units_pos h1 h2 (fun i _ => lq_b t w K i) hl hm⟩
 · left; omega
omit h in
theorem parts_fair {i k : Nat} (hi : i < n) (hk : k < n) (gi : floorQ (xq t w K i) < p i) (gk : ¬ floorQ (xq t w K k) < p k) : Ord (lq t w K) i k := by
 obtain ⟨s, h1, h2, h3⟩ := hq;rw [h3 i hi] at gi;rw [h3 k hk] at gk;unfold pz at gi gk
 have mi : i ∈ s.take (leftZ t w K T n).toNat := Classical.byContradiction fun c => by rw [if_neg c] at gi; omega
 have mk : k ∉ s.take (leftZ t w K T n).toNat := fun c => by rw [if_pos c] at gk; omega
 exact units_fair (n := n) h1 h2 mi hk mk
end
theorem xq_b {t : Rat} {w : Nat → Rat} {K : Nat → Int} {k : Nat} (ht : 0 ≤ t) (hw : 0 ≤ w k) (hK : 0 ≤ K k) : 0 ≤ xq t w K k ∧ xq t w K k ≤ ((K k : Int) : Rat) := part_b ht hw hK
theorem floor_b {t : Rat} {w : Nat → Rat} {K : Nat → Int} {k : Nat} (ht : 0 ≤ t) (hw : 0 ≤ w k) (hK : 0 ≤ K k) : 0 ≤ floorQ (xq t w K k) ∧ floorQ (xq t w K k) ≤ K k := by
 obtain ⟨h1, h2⟩ := xq_b ht hw hK;have h3 := floorQ_le (xq t w K k);have h4 := floorQ_lt (xq t w K k)
 have h5 : ((floorQ (xq t w K k) : Int) : Rat) ≤ ((K k : Int) : Rat) := by grind
 have h6 : ((0 : Int) : Rat) < ((floorQ (xq t w K k) + 1 : Int) : Rat) := by
  have : ((0 : Int) : Rat) = 0 := rfl
  grind
 rw [Rat.intCast_le_intCast] at h5;rw [Rat.intCast_lt_intCast] at h6;omega
theorem part_zero {t : Rat} {z : Int} (hz : 0 ≤ z) : part t (0, ((z : Int) : Rat)) = 0 := by
 have := int_nonneg hz;unfold part mn
 split <;> grind
end
section
open Go.RowKit

def Grown (B : Nat) (P : World → Prop) : Prop := ∀ (W W' : World) (row : Option Nat), P W → W.grownBy W' row → (∀ q, row = some q → B ≤ q ∧ ∃ o : Obj, W.heap[q]? = some o ∧ o.isCells = false) → P W'
theorem Grown.tt (B : Nat) : Grown B (fun _ => True) := fun _ _ _ _ _ _ => trivial
theorem Grown.and {B : Nat} {P Q : World → Prop} (hP : Grown B P) (hQ : Grown B Q) : Grown B (fun W => P W ∧ Q W) := fun _ _ _ h hg hr => ⟨hP _ _ _ h.1 hg hr, hQ _ _ _ h.2 hg hr⟩
theorem Grown.blk (B : Nat) (t : TypeId) (g : Nat) (cs : Array Value) : Grown B (Blk t g cs) := fun W W' row h hg hr =>
 (hg.block g h.lt fun e => by
  obtain ⟨_, o, ho, hc⟩ := hr g e.symm;have h2 : W.heap[g]? = some (.cells cs t (0, 0)) := h;rw [h2] at ho
  cases ho
  cases hc).trans h
theorem Grown.bel {B : Nat} {w : World} (hB : w.heap.size ≤ B) : Grown B (Below w.heap.size w) := fun _ _ _ h hg hr => h.grown hg h.size fun q e => Nat.le_trans hB (hr q e).1
theorem Grown.env {B : Nat} {w : World} {P : World → Prop} (hB : w.heap.size ≤ B) (hP : Grown B P) : Grown B (Env w P) := fun W W' row h hg hr => ⟨Grown.bel hB W W' row h.bel hg hr, h.st, hP W W' row h.here hg hr⟩
theorem Grown.rw_ (B : Nat) (T : TypeId) (m g n cap : Nat) (e : Nat → List Value) : Grown B (Rw T m g n cap e) := fun W W' row ⟨h1, h2, cs, h3, h4⟩ hg hr => ⟨h1, h2, cs, Grown.blk B _ _ _ W W' row h3 hg hr, h4⟩
theorem Rw.putObj {T : TypeId} {m g n cap D : Nat} {e : Nat → List Value} {V : World} (h : Rw T m g n cap e V) (hK : V.heap[D]? = some (.deferred (some []))) (o' : Obj) : Rw T m g n cap e (V.putObj D o') :=
 Grown.rw_ 0 T m g n cap e V _ (some D) h (grownBy_putObj' V D o') (fun q e => by cases e; exact ⟨Nat.zero_le _, _, hK, rfl⟩)
theorem Below.putObjD {w V : World} {D : Nat} (hb : Below w.heap.size w V) (hD : w.heap.size ≤ D) (o' : Obj) : Below w.heap.size w (V.putObj D o') :=
 hb.grown (grownBy_putObj' V D o') hb.size (fun q e => by cases e; exact hD)
end
section
open Go.RowKit

def FHof (q : Rat) (s : Bool) (A : Option Addr) (n c : Nat) (t : Bool) (B : Option Addr) (m d : Nat) : FH := ⟨s, A, n, c, dgt b16 q.num.natAbs, t, B, m, d, dgt b16 q.den⟩
section
variable {w : World} {q : Rat} {s t : Bool} {A B : Option Addr} {n m c d : Nat}
theorem qOf_fv {w : World} {q : Rat} {s t : Bool} {A B : Option Addr} {n m : Nat} (h : FV w q s A n t B m) : qOf s n (dgt b16 q.num.natAbs) m (dgt b16 q.den) = q := by
 unfold qOf
 have e1 : vs b16 (dgt b16 q.num.natAbs) n = q.num.natAbs := by rw [h.1.len]; exact vs_dgt_ln b16_two _
 have e2 : vs b16 (dgt b16 q.den) m = q.den := by have := h.2.len; rw [Int.natAbs_natCast] at this; rw [this]; exact vs_dgt_ln b16_two _
 rw [e1, e2, h.1.sgn, toI_int];exact Rat.num_divInt_den q
theorem FHof.q_eq (h : FV w q s A n t B m) : (FHof q s A n c t B m d).q = q := qOf_fv h
theorem FHof.rd_of (h : FV w q s A n t B m) : (FHof q s A n c t B m d).rd w := h.rd
end
theorem rffromInt_v (z : Int) (w : World) (h1 : -9223372036854775808 ≤ z) (h2 : z ≤ 9223372036854775807) :
  Calls Tryz.prog 23 #[.int .i64 z] w (FR (z : Rat) w) := by
 have hE := Env.start w;have hE := hE.blk 29 #[.bool false, .slice none 0 0, .bool false, .slice none 0 0] (g := w.heap.size) rfl
 obtain ⟨W0, hW0⟩ : ∃ W0, W0 = (w.alloc (.cells #[.bool false, .slice none 0 0, .bool false, .slice none 0 0] 29)) := ⟨_, rfl⟩
 rw [← hW0] at hE;have HW0 := Lib.hid hW0;clear hW0
 go_enter Tryz.func23, Tryz.ntmps23
 go_upto_region 1 with (fail)
 rw [← HW0.out];go_wp2_with fail
 have hc := rfromInt_v z W0 h1 h2;refine hc.mono ?_;clear hc
 rintro e w1 ⟨sn, An, nn, cn, rfl, hn, hb⟩
 replace hE := hE.step hb;clear hb;replace hE := hE.wv hn;clear hn;go_wp2_with fail
 have hc := rfromInt_v 1 w1 (by decide) (by decide);refine hc.mono ?_;clear hc
 rintro e w2 ⟨sd, Ad, nd, cd, rfl, hd, hb⟩
 replace hE := hE.step hb;clear hb;replace hE := hE.wv hd;clear hd;have hfv : FV w2 (z : Rat) sn An nn sd Ad nd := ⟨hE.here.1.2, hE.here.2⟩;replace hE := hE.fv hfv;clear hfv
 have hRl : w.heap.size ≤ w.heap.size := by omega
 obtain ⟨WW, hWW, hB, hV, hBel⟩ := ret_frac hE hE.h3 hRl hE.here.2 cn cd;obtain ⟨x0, x1, x2, x3⟩ := (hE.h3).c4;obtain ⟨fz0, fz1, fz2, fz3⟩ := hE.h3.f4;have HWW := Lib.hid hWW;clear hWW;go_wp2_with fail
 rw [← HWW.out];obtain ⟨y0, y1, y2, y3⟩ := hB.c4;refine bodyPost_ret (v := .agg #[.bool sn, .slice An nn cn, .bool sd, .slice Ad nd cd]) (by simp [results, Tryz.results23, go_sem, y0, y1, y2, y3]) rfl ?_;exact ⟨sn, An, nn, cn, sd, Ad, nd, cd, rfl, hV, hBel⟩
theorem rfzero_v {a : Rat} {sa ta : Bool} {Aa Ba : Option Addr} {na ca ma da : Nat} {w : World} (ha : FV w a sa Aa na ta Ba ma) :
  Calls Tryz.prog 38 #[.agg #[.bool sa, .slice Aa na ca, .bool ta, .slice Ba ma da]] w (fun e w' => e = .returned (.bool (decide (a.num = 0))) ∧ Below w.heap.size w w') := by
 have hE := ((Env.start w).fv ha).blk 29 #[.bool sa, .slice Aa na ca, .bool ta, .slice Ba ma da] (g := w.heap.size) rfl
 obtain ⟨W0, hW0⟩ : ∃ W0, W0 = (w.alloc (.cells #[.bool sa, .slice Aa na ca, .bool ta, .slice Ba ma da] 29)) := ⟨_, rfl⟩
 rw [← hW0] at hE;have HW0 := Lib.hid hW0;clear hW0
 go_enter Tryz.func38, Tryz.ntmps38
 go_upto_region 1 with (fail)
 rw [← HW0.out]
 by_cases h0 : a.num = 0
 ·
  obtain rfl : na = 0 := by rw [ha.1.len, h0]; exact ln_zero
  obtain ⟨k1, k2, k3, k4⟩ := (hE.here.2).c4;go_wp2_with fail
  go_ret
  exact ⟨by rw [decide_eq_true h0]; rfl, hE.bel⟩
 ·
  have hz : 0 < na := by rw [ha.1.len]; exact (ln_pos b16_two).2 (by omega)
  have t1 : ((na : Int) == 0) = false := beq_eq_false_iff_ne.2 (by omega);have t2 : (na == 0) = false := beq_eq_false_iff_ne.2 (by omega);clear hz;obtain ⟨k5, k6, k7, k8⟩ := (hE.here.2).c4;have H0 := Lib.hid h0;clear h0;go_wp2_with fail
  go_ret
  exact ⟨by rw [decide_eq_false H0.out]; rfl, hE.bel⟩
end
section

theorem ex_lv50 : Lv [(1, 100), (1, 10), (2, 100)] 50 (Rat.divInt 40 3) := by
 refine ⟨by decide +kernel, by decide +kernel, fun s h1 h2 => ?_⟩;have h3 := mn_l (s * 1) 100;have h4 := mn_r (s * 1) 10;have h5 := mn_l (s * 2) 100
 have e : Rat.divInt 40 3 = 40 / 3 := by decide +kernel
 rw [e] at h1;show mn (s * 1) 100 + (mn (s * 1) 10 + (mn (s * 2) 100 + 0)) < 50
 grind
theorem ex_lv210 : Lv [(1, 100), (1, 10), (2, 100)] 210 100 := by
 refine ⟨by decide +kernel, by decide +kernel, fun s h1 h2 => ?_⟩;have h3 := mn_l (s * 1) 100;have h4 := mn_r (s * 1) 10;have h5 := mn_r (s * 2) 100;show mn (s * 1) 100 + (mn (s * 1) 10 + (mn (s * 2) 100 + 0)) < 210
 grind
theorem ex_lv2 : Lv [(1, 9), (1, 9), (1, 9)] 2 (Rat.divInt 2 3) := by
 refine ⟨by decide +kernel, by decide +kernel, fun s h1 h2 => ?_⟩;have h3 := mn_l (s * 1) 9
 have e : Rat.divInt 2 3 = 2 / 3 := by decide +kernel
 rw [e] at h1;show mn (s * 1) 9 + (mn (s * 1) 9 + (mn (s * 1) 9 + 0)) < 2
 grind
def ExA (w : Nat → Rat) (K : Nat → Int) : Prop := (w 0 = 1 ∧ w 1 = 1 ∧ w 2 = 2) ∧ K 0 = 100 ∧ K 1 = 10 ∧ K 2 = 100
def ExB (w : Nat → Rat) (K : Nat → Int) : Prop := (w 0 = 1 ∧ w 1 = 1 ∧ w 2 = 1) ∧ K 0 = 9 ∧ K 1 = 9 ∧ K 2 = 9
theorem prs3 (w : Nat → Rat) (K : Nat → Int) : prs w K (List.range 3) = [(w 0, ((K 0 : Int) : Rat)), (w 1, ((K 1 : Int) : Rat)), (w 2, ((K 2 : Int) : Rat))] := rfl
section
variable {w : Nat → Rat} {K : Nat → Int}
theorem ExA.prs (h : ExA w K) : Go.Proofs.YtjgihmmeimfheaaGreat.prs w K (List.range 3) = [(1, 100), (1, 10), (2, 100)] := by
 obtain ⟨⟨h1, h2, h3⟩, h4, h5, h6⟩ := h;rw [prs3, h1, h2, h3, h4, h5, h6];rfl
theorem ExB.prs (h : ExB w K) : Go.Proofs.YtjgihmmeimfheaaGreat.prs w K (List.range 3) = [(1, 9), (1, 9), (1, 9)] := by
 obtain ⟨⟨h1, h2, h3⟩, h4, h5, h6⟩ := h;rw [prs3, h1, h2, h3, h4, h5, h6];rfl
theorem ExA.tot (h : ExA w K) (a : Int) : totZ a w K 3 = min a 210 := by
 obtain ⟨⟨h1, h2, h3⟩, h4, h5, h6⟩ := h
 have e : capS w K 3 = 210 := by
  simp only [capS, h1, h2, h3, h4, h5, h6]
  decide +kernel
 unfold totZ;rw [e]
theorem ExB.tot (h : ExB w K) (a : Int) : totZ a w K 3 = min a 27 := by
 obtain ⟨⟨h1, h2, h3⟩, h4, h5, h6⟩ := h
 have e : capS w K 3 = 27 := by
  simp only [capS, h1, h2, h3, h4, h5, h6]
  decide +kernel
 unfold totZ;rw [e]
variable {t : Rat} {p : Nat → Int}
theorem ExA.t50 (h : ExA w K) (hl : Lv (Go.Proofs.YtjgihmmeimfheaaGreat.prs w K (List.range 3)) ((totZ 50 w K 3 : Int) : Rat) t) : t = Rat.divInt 40 3 := by
 rw [h.prs, h.tot] at hl;exact hl.uniq ex_lv50
theorem ExA.t500 (h : ExA w K) (hl : Lv (Go.Proofs.YtjgihmmeimfheaaGreat.prs w K (List.range 3)) ((totZ 500 w K 3 : Int) : Rat) t) : t = 100 := by
 rw [h.prs, h.tot] at hl;exact hl.uniq ex_lv210
theorem ExB.t2 (h : ExB w K) (hl : Lv (Go.Proofs.YtjgihmmeimfheaaGreat.prs w K (List.range 3)) ((totZ 2 w K 3 : Int) : Rat) t) : t = Rat.divInt 2 3 := by
 rw [h.prs, h.tot] at hl;exact hl.uniq ex_lv2
theorem ExA.x50 (h : ExA w K) : xq (Rat.divInt 40 3) w K 0 = Rat.divInt 40 3 ∧ xq (Rat.divInt 40 3) w K 1 = 10 ∧ xq (Rat.divInt 40 3) w K 2 = Rat.divInt 80 3 := by
 obtain ⟨⟨h1, h2, h3⟩, h4, h5, h6⟩ := h;unfold xq part;rw [h1, h2, h3, h4, h5, h6]
 decide +kernel
theorem ExA.x500 (h : ExA w K) : xq 100 w K 0 = 100 ∧ xq 100 w K 1 = 10 ∧ xq 100 w K 2 = 100 := by
 obtain ⟨⟨h1, h2, h3⟩, h4, h5, h6⟩ := h;unfold xq part;rw [h1, h2, h3, h4, h5, h6]
 decide +kernel
theorem ExB.x2 (h : ExB w K) : xq (Rat.divInt 2 3) w K 0 = Rat.divInt 2 3 ∧ xq (Rat.divInt 2 3) w K 1 = Rat.divInt 2 3 ∧ xq (Rat.divInt 2 3) w K 2 = Rat.divInt 2 3 := by
 obtain ⟨⟨h1, h2, h3⟩, h4, h5, h6⟩ := h;unfold xq part;rw [h1, h2, h3, h4, h5, h6]
 decide +kernel
theorem ExA.p50 (h : ExA w K) (hl : Lv (Go.Proofs.YtjgihmmeimfheaaGreat.prs w K (List.range 3)) ((totZ 50 w K 3 : Int) : Rat) t) (hq : PartsQ t w K 3 (totZ 50 w K 3) p) : p 0 = 13 ∧ p 1 = 10 ∧ p 2 = 27 := by
 have hs := parts_sum hl hq;have h0 := parts_one hl hq (k := 0) (by decide);have h1 := parts_one hl hq (k := 1) (by decide);have h2 := parts_one hl hq (k := 2) (by decide);have hf := parts_fair hq (i := 0) (k := 2) (by decide) (by decide);have ht := h.t50 hl;subst ht;obtain ⟨x0, x1, x2⟩ := h.x50;unfold Ord at hf;unfold lq at h0 h1 h2 hf;rw [x0] at h0 hf;rw [x1] at h1;rw [x2] at h2 hf;rw [h.tot] at hs
 have f0 : floorQ (Rat.divInt 40 3) = 13 := by decide +kernel
 have f1 : floorQ 10 = 10 := by decide +kernel
 have f2 : floorQ (Rat.divInt 80 3) = 26 := by decide +kernel
 rw [f0] at h0 hf;rw [f1] at h1;rw [f2] at h2 hf;have hs2 : 0 + p 0 + p 1 + p 2 = 50 := hs
 have n1 : ¬ (0 : Rat) < 10 - ((10 : Int) : Rat) := by decide +kernel
 have n2 : ¬ (Rat.divInt 80 3 - ((26 : Int) : Rat) < Rat.divInt 40 3 - ((13 : Int) : Rat) ∨ Rat.divInt 40 3 - ((13 : Int) : Rat) = Rat.divInt 80 3 - ((26 : Int) : Rat) ∧ 0 < 2) := by decide +kernel
 have e1 : p 1 = 10 := h1.elim id (fun h => absurd h.2 n1)
 have e2 : ¬ (13 < p 0 ∧ ¬ 26 < p 2) := fun h => n2 (hf h.1 h.2)
 omega
theorem ExA.p500 (h : ExA w K) (hl : Lv (Go.Proofs.YtjgihmmeimfheaaGreat.prs w K (List.range 3)) ((totZ 500 w K 3 : Int) : Rat) t) (hq : PartsQ t w K 3 (totZ 500 w K 3) p) : p 0 = 100 ∧ p 1 = 10 ∧ p 2 = 100 := by
 have h0 := parts_one hl hq (k := 0) (by decide);have h1 := parts_one hl hq (k := 1) (by decide);have h2 := parts_one hl hq (k := 2) (by decide);have ht := h.t500 hl;subst ht;obtain ⟨x0, x1, x2⟩ := h.x500;unfold lq at h0 h1 h2;rw [x0] at h0;rw [x1] at h1;rw [x2] at h2
 have f0 : floorQ 100 = 100 := by decide +kernel
 have f1 : floorQ 10 = 10 := by decide +kernel
 rw [f0] at h0 h2;rw [f1] at h1
 have n1 : ¬ (0 : Rat) < 10 - ((10 : Int) : Rat) := by decide +kernel
 have n0 : ¬ (0 : Rat) < 100 - ((100 : Int) : Rat) := by decide +kernel
 exact ⟨h0.elim id (fun h => absurd h.2 n0), h1.elim id (fun h => absurd h.2 n1), h2.elim id (fun h => absurd h.2 n0)⟩
theorem ExB.p2 (h : ExB w K) (hl : Lv (Go.Proofs.YtjgihmmeimfheaaGreat.prs w K (List.range 3)) ((totZ 2 w K 3 : Int) : Rat) t) (hq : PartsQ t w K 3 (totZ 2 w K 3) p) : p 0 = 1 ∧ p 1 = 1 ∧ p 2 = 0 := by
 have hs := parts_sum hl hq;have h0 := parts_one hl hq (k := 0) (by decide);have h1 := parts_one hl hq (k := 1) (by decide);have h2 := parts_one hl hq (k := 2) (by decide);have g0 := parts_fair hq (i := 2) (k := 0) (by decide) (by decide);have g1 := parts_fair hq (i := 2) (k := 1) (by decide) (by decide);have ht := h.t2 hl;subst ht;obtain ⟨x0, x1, x2⟩ := h.x2;unfold Ord at g0 g1;unfold lq at h0 h1 h2 g0 g1;rw [x0] at h0 g0;rw [x1] at h1 g1;rw [x2] at h2 g0 g1;rw [h.tot] at hs
 have f0 : floorQ (Rat.divInt 2 3) = 0 := by decide +kernel
 rw [f0] at h0 h1 h2 g0 g1;have hs2 : 0 + p 0 + p 1 + p 2 = 2 := hs
 have n0 : ¬ (Rat.divInt 2 3 - ((0 : Int) : Rat) < Rat.divInt 2 3 - ((0 : Int) : Rat) ∨ Rat.divInt 2 3 - ((0 : Int) : Rat) = Rat.divInt 2 3 - ((0 : Int) : Rat) ∧ 2 < 0) := by decide +kernel
 have n1 : ¬ (Rat.divInt 2 3 - ((0 : Int) : Rat) < Rat.divInt 2 3 - ((0 : Int) : Rat) ∨ Rat.divInt 2 3 - ((0 : Int) : Rat) = Rat.divInt 2 3 - ((0 : Int) : Rat) ∧ 2 < 1) := by decide +kernel
 have e0 : ¬ (0 < p 2 ∧ ¬ 0 < p 0) := fun h => n0 (g0 h.1 h.2)
 have e1 : ¬ (0 < p 2 ∧ ¬ 0 < p 1) := fun h => n1 (g1 h.1 h.2)
 omega
end
end
section
section
variable {t : Rat} {w : Nat → Rat} {K : Nat → Int} {n : Nat} {T : Int} {p : Nat → Int}
end
end
section

theorem suZ_congr {f g : Nat → Int} : ∀ {n : Nat}, (∀ k, k < n → f k = g k) → suZ f n = suZ g n
 | 0, _ => rfl
 | n + 1, h => by
  unfold suZ;rw [suZ_congr (n := n) (fun k hk => h k (by omega)), h n (Nat.lt_succ_self n)]
theorem parts_same {t u : Rat} {w w2 : Nat → Rat} {K K2 : Nat → Int} {n : Nat} {T : Int} {p p2 : Nat → Int} (hp : PartsQ t w K n T p) (hq : PartsQ u w2 K2 n T p2) (hx : ∀ k, k < n → xq t w K k = xq u w2 K2 k) {k : Nat} (hk : k < n) : p k = p2 k := by
 obtain ⟨s, h1, h2, h3⟩ := hp;obtain ⟨s', g1, g2, g3⟩ := hq
 have hl : ∀ j, j < n → lq t w K j = lq u w2 K2 j := fun j hj => by unfold lq; rw [hx j hj]
 have hL : leftZ t w K T n = leftZ u w2 K2 T n := by unfold leftZ; rw [suZ_congr (fun j hj => by rw [hx j hj])]
 have hs : s = s' := by
  refine (h1.trans g1.symm).eq_of_pairwise (le := Ord (lq t w K)) (fun a b _ _ ha hb => ?_) h2 (g2.imp_of_mem fun {a b} ha hb hab => ?_)
  ·
   unfold Ord at ha hb
   rcases ha with ha | ⟨ha, ha2⟩
   ·
    rcases hb with hb | ⟨hb, hb2⟩
    · grind
    · grind
   ·
    rcases hb with hb | ⟨hb, hb2⟩
    · grind
    · omega
  ·
   have ka := List.mem_range.1 (g1.mem_iff.1 ha);have kb := List.mem_range.1 (g1.mem_iff.1 hb);unfold Ord at hab ⊢;rw [hl a ka, hl b kb];exact hab
 rw [h3 k hk, g3 k hk];unfold pz;rw [hx k hk, hL, hs]
section
variable {u t b : Rat} {w w2 : Nat → Rat} {K K2 : Nat → Int} {n : Nat}
end
end
end Go.Proofs.YtjgihmmeimfheaaGreat
