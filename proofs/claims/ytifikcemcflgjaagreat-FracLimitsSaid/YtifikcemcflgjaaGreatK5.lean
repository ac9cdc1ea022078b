/-
  Several texts in one: Fractions: plain laws on lowest terms, lengths and denominators. Blocks that are known whole; numbers and fractions in memory are kept where such a block is written. Blocks that are made ahead of the calls that give their values; the boxes of numbers. Fractions in memory; the walks of isOne, opposite, divisor, plus, times and divide of frac. The walks of divisor, plus, times, divide and opposite of frac. The walk of frac.opposite. The walks of frac.divide and frac.lowest. The walk of frac.lowest. The walks of the reference's Trim and Less. The walk of the reference's Times.
-/
import Derived.Test.YtifikcemcflgjaaGreatK1
import Derived.Test.YtifikcemcflgjaaGreatK4
import Derived.Deep.RegionHeld3
import Derived.Deep.CutRange
import Derived.Deep.DrawnRows
import Derived.Deep.RegionWith
import Derived.Test.YtifikcemcflgjaaGreatK2
namespace Go.Proofs.YtifikcemcflgjaaGreat

/-- Lowest terms. -/
theorem low_num {n d : Int} (hd : 0 < d) : (Rat.divInt n d).num = n / ((Nat.gcd n.natAbs d.natAbs : Nat) : Int) ∧ ((Rat.divInt n d).den : Int) = d / ((Nat.gcd n.natAbs d.natAbs : Nat) : Int) := by
  rw [Rat.num_divInt, Rat.den_divInt, if_neg (by omega), Int.sign_eq_one_of_pos hd, Int.one_mul]
  have e : Int.gcd d n = Nat.gcd n.natAbs d.natAbs := by rw [Int.gcd_comm]; rfl
  rw [e]
  refine ⟨rfl, ?_⟩
  rw [Int.natCast_ediv]
  congr 1
  omega
theorem low_neg (n d : Int) : Rat.divInt (-n) (-d) = Rat.divInt n d := Rat.neg_divInt_neg n d
theorem add_low (a b : Rat) : Rat.divInt (a.num * (b.den : Int) + b.num * (a.den : Int)) ((a.den : Int) * (b.den : Int)) = a + b := by
  rw [Rat.add_def', ← Int.natCast_mul, Rat.divInt_ofNat]
theorem sub_low (a b : Rat) : Rat.divInt (a.num * (b.den : Int) + -(b.num * (a.den : Int))) ((a.den : Int) * (b.den : Int)) = a - b := by
  rw [Rat.sub_def', ← Int.natCast_mul, Rat.divInt_ofNat, Int.sub_eq_add_neg]
theorem mul_low (a b : Rat) : Rat.divInt (a.num * b.num) ((a.den : Int) * (b.den : Int)) = a * b := by
  rw [Rat.mul_def', ← Int.natCast_mul, Rat.divInt_ofNat]
theorem div_low (a b : Rat) : Rat.divInt (a.num * (b.den : Int)) ((a.den : Int) * b.num) = a / b := by
  rw [Rat.div_def, Rat.inv_def, ← Rat.divInt_mul_divInt, Rat.num_divInt_den]
/-- Comparison by cross products. -/
theorem cmp_lt (a b : Rat) : a.num * (b.den : Int) < b.num * (a.den : Int) ↔ a < b := (Rat.lt_iff a b).symm
theorem cmp_eq (a b : Rat) : a.num * (b.den : Int) = b.num * (a.den : Int) ↔ a = b := Rat.eq_iff_mul_eq_mul.symm
theorem mk_low {n : Int} {d : Nat} (hd : 0 < d) (hg : Nat.gcd n.natAbs d = 1) : (Rat.divInt n d).num = n ∧ (Rat.divInt n d).den = d := by
  have h : Rat.divInt n d = ⟨n, d, by omega, hg⟩ := (Rat.mk_eq_divInt).symm
  rw [h]
  exact ⟨rfl, rfl⟩
theorem den_pos (q : Rat) : 0 < q.den := Nat.pos_of_ne_zero q.den_nz
theorem int_low (z : Int) : Rat.divInt z 1 = (z : Rat) := by
  have h := mk_low (n := z) (d := 1) (by decide) (Nat.gcd_one_right _)
  exact Rat.ext h.1 h.2
/-- The denominator of q divides D. -/
def Dv (q : Rat) (D : Nat) : Prop := ∃ z : Int, q * (D : Rat) = (z : Rat)
theorem Dv.iff {q : Rat} {D : Nat} : q.den ∣ D ↔ Dv q D := by
  have e : q * (q.den : Rat) = (q.num : Rat) := by
    have hq : (q.den : Rat) ≠ 0 := by
      have := q.den_nz
      intro h
      exact this (by exact_mod_cast h)
    have h1 := Rat.num_divInt_den q
    rw [Rat.divInt_eq_div] at h1
    have h2 : (((q.den : Nat) : Int) : Rat) = ((q.den : Nat) : Rat) := rfl
    rw [h2] at h1
    conv => lhs; rw [← h1]
    grind
  constructor
  · rintro ⟨k, hk⟩
    refine ⟨q.num * k, ?_⟩
    rw [hk, Rat.natCast_mul, Rat.intCast_mul, ← e]
    have : ((k : Int) : Rat) = (k : Rat) := rfl
    rw [this]
    grind
  · rintro ⟨z, hz⟩
    have h1 : (q.num : Rat) * (D : Rat) = (z : Rat) * (q.den : Rat) := by
      rw [← e, ← hz]; grind
    have h2 : q.num * (D : Int) = z * (q.den : Int) := by
      have h3 : (((q.num * (D : Int) : Int)) : Rat) = ((z * (q.den : Int) : Int) : Rat) := by
        rw [Rat.intCast_mul, Rat.intCast_mul]; exact h1
      exact Rat.intCast_inj.1 h3
    have h4 : q.den ∣ q.num.natAbs * D := by
      have h5 := congrArg Int.natAbs h2
      rw [Int.natAbs_mul, Int.natAbs_mul, Int.natAbs_natCast, Int.natAbs_natCast] at h5
      exact ⟨z.natAbs, by rw [h5, Nat.mul_comm]⟩
    exact (Nat.Coprime.dvd_of_dvd_mul_left (Nat.Coprime.symm q.reduced) h4)
theorem Dv.self (q : Rat) : Dv q q.den := Dv.iff.1 (Nat.dvd_refl _)
theorem Dv.int (z : Int) : Dv (z : Rat) 1 := ⟨z, by grind⟩
theorem Dv.add {a b : Rat} {D : Nat} (ha : Dv a D) (hb : Dv b D) : Dv (a + b) D := by
  obtain ⟨x, hx⟩ := ha
  obtain ⟨y, hy⟩ := hb
  exact ⟨x + y, by rw [Rat.intCast_add, ← hx, ← hy]; grind⟩
theorem Dv.neg {a : Rat} {D : Nat} (ha : Dv a D) : Dv (-a) D := by
  obtain ⟨x, hx⟩ := ha
  exact ⟨-x, by rw [Rat.intCast_neg, ← hx]; grind⟩
theorem Dv.sub {a b : Rat} {D : Nat} (ha : Dv a D) (hb : Dv b D) : Dv (a - b) D := by
  rw [Rat.sub_eq_add_neg]; exact ha.add hb.neg
theorem Dv.mul {a b : Rat} {D E : Nat} (ha : Dv a D) (hb : Dv b E) : Dv (a * b) (D * E) := by
  obtain ⟨x, hx⟩ := ha
  obtain ⟨y, hy⟩ := hb
  exact ⟨x * y, by rw [Rat.intCast_mul, Rat.natCast_mul, ← hx, ← hy]; grind⟩
theorem Dv.more {a : Rat} {D E : Nat} (ha : Dv a D) (h : D ∣ E) : Dv a E := Dv.iff.1 (Nat.dvd_trans (Dv.iff.2 ha) h)
/-- The greater length of the two parts. -/
def fl (q : Rat) : Nat := max (ln b16 q.num.natAbs) (ln b16 q.den)
theorem fl_le {q : Rat} {k : Nat} : fl q ≤ k ↔ ln b16 q.num.natAbs ≤ k ∧ ln b16 q.den ≤ k := by unfold fl; omega
/-- A bound of the length by a bound of the absolute value and a common denominator. -/
theorem fl_bound {q : Rat} {D M k : Nat} (hD : 0 < D) (hd : Dv q D) (h1 : -(M : Rat) ≤ q) (h2 : q ≤ (M : Rat)) (hM : 0 < M) (hk : ln b16 (M * D) ≤ k) : fl q ≤ k := by
  have hdv := Nat.le_of_dvd hD (Dv.iff.2 hd)
  have e1 : q.num.natAbs ≤ M * q.den := by
    have h3 := (Rat.le_iff q (M : Rat)).1 h2
    have h4 := (Rat.le_iff (-(M : Rat)) q).1 h1
    rw [Rat.neg_num, Rat.neg_den] at h4
    rw [Rat.num_natCast, Rat.den_natCast] at h3 h4
    simp only [Int.natCast_one, Int.mul_one] at h3 h4
    rw [Int.neg_mul] at h4
    have h5 : ((M * q.den : Nat) : Int) = (M : Int) * (q.den : Int) := Int.natCast_mul _ _
    omega
  have e2 : M * q.den ≤ M * D := Nat.mul_le_mul_left _ hdv
  have e3 : q.den ≤ M * D := Nat.le_trans hdv (Nat.le_mul_of_pos_left _ hM)
  exact fl_le.2 ⟨Nat.le_trans (ln_mono b16_two (Nat.le_trans e1 e2)) hk, Nat.le_trans (ln_mono b16_two e3) hk⟩
end Go.Proofs.YtifikcemcflgjaaGreat
namespace Go.Proofs.YtifikcemcflgjaaGreat
open Go.RowKit

/-- Block g is just the cells cs (type t), none frozen. -/
def Blk (t : TypeId) (g : Nat) (cs : Array Value) (w : World) : Prop := w.heap[g]? = some (.cells cs t (0, 0))
/-- Not a limb. -/
def noLimb : Value → Bool
  | .int .u16 _ => false
  | _ => true
section
variable {w w' : World} {g B : Nat} {t : TypeId} {cs : Array Value}
theorem Blk.lt (h : Blk t g cs w) : g < w.heap.size := heap_lt h
theorem Blk.cell (h : Blk t g cs w) (i : Nat) : w.cell? ⟨g, i, none⟩ = cs[i]? := cell_of_row w g i cs t (0, 0) h
theorem Blk.frozen (h : Blk t g cs w) (i : Nat) : w.frozen? ⟨g, i, none⟩ = false := by
  unfold Blk at h
  simp [World.frozen?, h]
theorem Blk.new (w : World) (t : TypeId) (cs : Array Value) : Blk t w.heap.size cs (w.alloc (.cells cs t)) := heap_alloc_new w _
theorem Blk.below (h : Blk t g cs w) (hb : Below B w w') (hg : g < B) : Blk t g cs w' := (hb.block g hg).trans h
theorem Blk.stable (t : TypeId) (g : Nat) (cs : Array Value) : Stable (Blk t g cs) := fun _ _ hb h => h.below hb h.lt
theorem Blk.set_ (h : Blk t g cs w) (i : Nat) (u : Value) : Blk t g (cs.setIfInBounds i u) (w.setCell ⟨g, i, none⟩ u) := by
  unfold Blk at h ⊢
  simp [World.setCell, Array.getElem?_modify, h]
theorem Blk.far (h : Blk t g cs w) {p : Addr} (hp : g ≠ p.block) (u : Value) : Blk t g cs (w.setCell p u) := (Below.heap_setCell w p u g hp).trans h
theorem Blk.c2 {a b : Value} (h : Blk t g #[a, b] w) : w.cell? ⟨g, 0, none⟩ = some a ∧ w.cell? ⟨g, 1, none⟩ = some b := ⟨h.cell 0, h.cell 1⟩
theorem Blk.c3 {a b c : Value} (h : Blk t g #[a, b, c] w) : w.cell? ⟨g, 0, none⟩ = some a ∧ w.cell? ⟨g, 1, none⟩ = some b ∧ w.cell? ⟨g, 2, none⟩ = some c := ⟨h.cell 0, h.cell 1, h.cell 2⟩
theorem Blk.c4 {a b c d : Value} (h : Blk t g #[a, b, c, d] w) : w.cell? ⟨g, 0, none⟩ = some a ∧ w.cell? ⟨g, 1, none⟩ = some b ∧ w.cell? ⟨g, 2, none⟩ = some c ∧ w.cell? ⟨g, 3, none⟩ = some d := ⟨h.cell 0, h.cell 1, h.cell 2, h.cell 3⟩
theorem Blk.j2 {a b : Value} {R : Prop} (h : Blk t g #[a, b] w) (r : R) : w.cell? ⟨g, 0, none⟩ = some a ∧ w.cell? ⟨g, 1, none⟩ = some b ∧ R := ⟨h.cell 0, h.cell 1, r⟩
theorem Blk.f2 (h : Blk t g cs w) : w.frozen? ⟨g, 0, none⟩ = false ∧ w.frozen? ⟨g, 1, none⟩ = false := ⟨h.frozen 0, h.frozen 1⟩
theorem Blk.j3 {a b c : Value} {R : Prop} (h : Blk t g #[a, b, c] w) (r : R) : w.cell? ⟨g, 0, none⟩ = some a ∧ w.cell? ⟨g, 1, none⟩ = some b ∧ w.cell? ⟨g, 2, none⟩ = some c ∧ R := ⟨h.cell 0, h.cell 1, h.cell 2, r⟩
theorem Blk.f3 (h : Blk t g cs w) : w.frozen? ⟨g, 0, none⟩ = false ∧ w.frozen? ⟨g, 1, none⟩ = false ∧ w.frozen? ⟨g, 2, none⟩ = false := ⟨h.frozen 0, h.frozen 1, h.frozen 2⟩
theorem Blk.j4 {a b c d : Value} {R : Prop} (h : Blk t g #[a, b, c, d] w) (r : R) : w.cell? ⟨g, 0, none⟩ = some a ∧ w.cell? ⟨g, 1, none⟩ = some b ∧ w.cell? ⟨g, 2, none⟩ = some c ∧ w.cell? ⟨g, 3, none⟩ = some d ∧ R := ⟨h.cell 0, h.cell 1, h.cell 2, h.cell 3, r⟩
theorem Blk.f4 (h : Blk t g cs w) : w.frozen? ⟨g, 0, none⟩ = false ∧ w.frozen? ⟨g, 1, none⟩ = false ∧ w.frozen? ⟨g, 2, none⟩ = false ∧ w.frozen? ⟨g, 3, none⟩ = false := ⟨h.frozen 0, h.frozen 1, h.frozen 2, h.frozen 3⟩
theorem Blk.s2 {a b : Value} (h : Blk t g #[a, b] w) (a' b' : Value) : Blk t g #[a', b'] ((w.setCell ⟨g, 0, none⟩ a').setCell ⟨g, 1, none⟩ b') := by
  have := (h.set_ 0 a').set_ 1 b'
  simpa using this
theorem Blk.s4 {a b c d : Value} (h : Blk t g #[a, b, c, d] w) (a' b' c' d' : Value) : Blk t g #[a', b', c', d'] ((((w.setCell ⟨g, 0, none⟩ a').setCell ⟨g, 1, none⟩ b').setCell ⟨g, 2, none⟩ c').setCell ⟨g, 3, none⟩ d') := by
  have := (((h.set_ 0 a').set_ 1 b').set_ 2 c').set_ 3 d'
  simpa using this
theorem Blk.far2 {R : Nat} (h : Blk t g cs w) (hp : g ≠ R) (a b : Value) : Blk t g cs ((w.setCell ⟨R, 0, none⟩ a).setCell ⟨R, 1, none⟩ b) := (h.far (p := ⟨R, 0, none⟩) hp a).far (p := ⟨R, 1, none⟩) hp b
theorem Blk.far4 {R : Nat} (h : Blk t g cs w) (hp : g ≠ R) (a b c d : Value) : Blk t g cs ((((w.setCell ⟨R, 0, none⟩ a).setCell ⟨R, 1, none⟩ b).setCell ⟨R, 2, none⟩ c).setCell ⟨R, 3, none⟩ d) := (h.far2 hp a b).far (p := ⟨R, 2, none⟩) hp c |>.far (p := ⟨R, 3, none⟩) hp d
theorem Rd.sep {n i : Nat} {A : Option Addr} {f : Nat → Nat} (h : Rd B .u16 w A n f) (hW : Blk t g cs w) (hn : cs.toList.all noLimb = true) (u : Value) : Rd B .u16 (w.setCell ⟨g, i, none⟩ u) A n f := fun h0 => by
  obtain ⟨b, o, e, hb, hc⟩ := h h0
  refine ⟨b, o, e, hb, fun j hj => ?_⟩
  have hne : b ≠ g := fun e => by
    subst e
    have h1 := hc j hj
    rw [hW.cell] at h1
    have h2 := List.all_eq_true.1 hn _ (Array.mem_toList_iff.2 (Array.mem_of_getElem? h1))
    cases h2
  rw [World.cell?_setCell_other w _ _ u (fun e => hne (congrArg Addr.block e).symm)]
  exact hc j hj
theorem WV.sep {i n : Nat} {z : Int} {s : Bool} {A : Option Addr} (h : WV w z s A n) (hW : Blk t g cs w) (hn : cs.toList.all noLimb = true) (u : Value) : WV (w.setCell ⟨g, i, none⟩ u) z s A n := by
  refine ⟨h.1, h.2.1, ?_⟩
  have h3 : Rd w.heap.size .u16 w A (ln b16 z.natAbs) (dgt b16 z.natAbs) := h.2.2
  have h4 := h3.sep hW hn (i := i) u
  unfold Num16
  rwa [World.size_setCell]
theorem WV.sep2 {n : Nat} {z : Int} {s : Bool} {A : Option Addr} {x y : Value} (h : WV w z s A n) (hW : Blk t g #[x, y] w) (hn : [x, y].all noLimb = true) (a b : Value) (ha : noLimb a = true) : WV ((w.setCell ⟨g, 0, none⟩ a).setCell ⟨g, 1, none⟩ b) z s A n := by
  refine (h.sep hW hn a).sep (hW.set_ 0 a) ?_ b
  simp only [List.all_cons, List.all_nil, Bool.and_true, Bool.and_eq_true] at hn
  show (noLimb a && (noLimb y && true)) = true
  rw [ha, hn.2]; rfl
theorem WV.sep4 {n : Nat} {z : Int} {s : Bool} {A : Option Addr} {x y u v : Value} (h : WV w z s A n) (hW : Blk t g #[x, y, u, v] w) (hn : [x, y, u, v].all noLimb = true) (a b c d : Value) (ha : noLimb a = true) (hb : noLimb b = true) (hc : noLimb c = true) :
    WV ((((w.setCell ⟨g, 0, none⟩ a).setCell ⟨g, 1, none⟩ b).setCell ⟨g, 2, none⟩ c).setCell ⟨g, 3, none⟩ d) z s A n := by
  simp only [List.all_cons, List.all_nil, Bool.and_true, Bool.and_eq_true] at hn
  obtain ⟨h1, h2, h3, h4⟩ := hn
  refine (((h.sep hW (by simp [h1, h2, h3, h4]) a).sep (hW.set_ 0 a) ?_ b).sep ((hW.set_ 0 a).set_ 1 b) ?_ c).sep (((hW.set_ 0 a).set_ 1 b).set_ 2 c) ?_ d
  · show (noLimb a && (noLimb y && (noLimb u && (noLimb v && true)))) = true
    rw [ha, h2, h3, h4]; rfl
  · show (noLimb a && (noLimb b && (noLimb u && (noLimb v && true)))) = true
    rw [ha, hb, h3, h4]; rfl
  · show (noLimb a && (noLimb b && (noLimb c && (noLimb v && true)))) = true
    rw [ha, hb, hc, h4]; rfl
end
end Go.Proofs.YtifikcemcflgjaaGreat
namespace Go.Proofs.YtifikcemcflgjaaGreat
open Go.RowKit

theorem same_r {a b : Int} {r : Bool} {s t : Bool} {A B : Option Addr} {n m c d : Nat} {w : World} (ha : WV w a s A n) (hb : WV w b t B m) (la : n ≤ 1024) (lb : m ≤ 1024) (h : decide (a = b) = r) :
    Calls Tryz.prog 47 #[.agg #[.bool s, .slice A n c], .agg #[.bool t, .slice B m d]] w fun e w' => e = .returned (.bool r) ∧ Below w.heap.size w w' := by
  subst h
  exact same_v ha hb (by omega) (by omega)
/-- A new variable that is given a number. -/
theorem Env.var {w W : World} {P : World → Prop} {z : Int} {s : Bool} {A : Option Addr} {n : Nat} (h : Env w P W) (hv : WV W z s A n) (c : Nat) :
    Env w (fun V => P V ∧ Bx W.heap.size z s A n c V) (((W.alloc (.cells #[.bool false, .slice none 0 0] 24)).setCell ⟨W.heap.size, 0, none⟩ (.bool s)).setCell ⟨W.heap.size, 1, none⟩ (.slice A n c)) := by
  obtain ⟨hW, hb⟩ := store_whole (WholeAt.new W false (.slice none 0 0)) ((Below.refl _ W).alloc (Nat.le_refl _) _) (Nat.le_refl _) s (.slice A n c)
  exact (h.step hb).and (Bx.stable _ _ _ _ _ _) ⟨hW, hv.below hb⟩
theorem WV.abs {w : World} {z : Int} {s : Bool} {A : Option Addr} {n : Nat} (h : WV w z s A n) : WV w ((z.natAbs : Nat) : Int) false A n :=
  ⟨(decide_eq_false (by omega)).symm, h.2.1, h.2.2⟩
theorem Env.tri {g : Nat} {a b c : Int} {s1 s2 s3 : Bool} {A1 A2 A3 : Option Addr} {n1 n2 n3 c1 c2 c3 : Nat} {w W : World} {P : World → Prop} (h : Env w P W) (ht : Tri g a b c s1 s2 s3 A1 A2 A3 n1 n2 n3 c1 c2 c3 W) : W.cell? ⟨g, 0, none⟩ = some (.bool s1) ∧ W.cell? ⟨g, 1, none⟩ = some (.slice A1 n1 c1) ∧ W.cell? ⟨g + 1, 0, none⟩ = some (.bool s2) ∧ W.cell? ⟨g + 1, 1, none⟩ = some (.slice A2 n2 c2) ∧
    W.cell? ⟨g + 1 + 1, 0, none⟩ = some (.bool s3) ∧ W.cell? ⟨g + 1 + 1, 1, none⟩ = some (.slice A3 n3 c3) ∧ Env w P W :=
  ⟨ht.1.1.cells.1, ht.1.1.cells.2, ht.2.1.1.cells.1, ht.2.1.1.cells.2, ht.2.2.1.cells.1, ht.2.2.1.cells.2, h⟩
/-- A variable made ahead of the calls that give its value. -/
structure New (W0 W : World) (G : Nat) : Prop where
  box : WholeAt W G false (.slice none 0 0)
  bel : Below G W0 W
  eq : W0.heap.size = G
theorem New.start (W : World) : New W (W.alloc (.cells #[.bool false, .slice none 0 0] 24)) W.heap.size := ⟨WholeAt.new W _ _, (Below.refl _ W).alloc (Nat.le_refl _) _, rfl⟩
theorem New.below {W0 W W' : World} {G : Nat} (h : New W0 W G) (hb : Below W.heap.size W W') : New W0 W' G := ⟨h.box.below hb h.box.lt, h.bel.trans (hb.mono (Nat.le_of_lt h.box.lt)), h.eq⟩
theorem New.stored {w W0 W : World} {P : World → Prop} {G : Nat} (h0 : Env w P W0) (h : New W0 W G) (s : Bool) (v : Value) : Env w P ((W.setCell ⟨G, 0, none⟩ (.bool s)).setCell ⟨G, 1, none⟩ v) :=
  h0.step (by rw [h.eq]; exact (store_whole h.box h.bel (Nat.le_refl _) s v).2)
theorem New.done {w W0 W : World} {P : World → Prop} {G B : Nat} {z : Int} {s : Bool} {A : Option Addr} {n c : Nat} (h0 : Env w P W0) (h : New W0 W G) (ho : WO B W z s A n c) (hB : G < B) :
    Env w (fun V => P V ∧ Bx G z s A n c V) ((W.setCell ⟨G, 0, none⟩ (.bool s)).setCell ⟨G, 1, none⟩ (.slice A n c)) :=
  (New.stored h0 h s _).and (Bx.stable _ _ _ _ _ _) ⟨(store_whole h.box h.bel (Nat.le_refl _) s _).1, (ho.store hB s _).v⟩
theorem Env.fresh {w W : World} {P : World → Prop} {z : Int} {s : Bool} {A : Option Addr} {n : Nat} (h : Env w P W) (hv : WV W z s A n) (c : Nat) :
    Env w (fun V => P V ∧ Bx W.heap.size z s A n c V) (W.alloc (.cells #[.bool s, .slice A n c] 24)) :=
  (h.alloc _).and (Bx.stable _ _ _ _ _ _) (Bx.new hv)
theorem belAlloc (W : World) (o : Obj) : Below W.heap.size W (W.alloc o) := (Below.refl _ W).alloc (Nat.le_refl _) o
theorem newStart {w W : World} {P : World → Prop} (_ : Env w P W) : New W (W.alloc (.cells #[.bool false, .slice none 0 0] 24)) W.heap.size := New.start W
theorem cel {g : Nat} {a b c : Int} {s1 s2 s3 : Bool} {A1 A2 A3 : Option Addr} {n1 n2 n3 c1 c2 c3 : Nat} {w W : World} {P : World → Prop} (_ : Env w P W) (ht : Tri g a b c s1 s2 s3 A1 A2 A3 n1 n2 n3 c1 c2 c3 W) : W.cell? ⟨g, 0, none⟩ = some (.bool s1) ∧ W.cell? ⟨g, 1, none⟩ = some (.slice A1 n1 c1) ∧ W.cell? ⟨g + 1, 0, none⟩ = some (.bool s2) ∧ W.cell? ⟨g + 1, 1, none⟩ = some (.slice A2 n2 c2) ∧
    W.cell? ⟨g + 1 + 1, 0, none⟩ = some (.bool s3) ∧ W.cell? ⟨g + 1 + 1, 1, none⟩ = some (.slice A3 n3 c3) :=
  ⟨ht.1.1.cells.1, ht.1.1.cells.2, ht.2.1.1.cells.1, ht.2.1.1.cells.2, ht.2.2.1.cells.1, ht.2.2.1.cells.2⟩
end Go.Proofs.YtifikcemcflgjaaGreat
namespace Go.Proofs.YtifikcemcflgjaaGreat
open Go.RowKit

/-- The fraction q, its parts' signs, addresses and lengths. -/
def FV (w : World) (q : Rat) (s : Bool) (A : Option Addr) (n : Nat) (t : Bool) (B : Option Addr) (m : Nat) : Prop := WV w q.num s A n ∧ WV w ((q.den : Nat) : Int) t B m
theorem FV.below {w w' : World} {q : Rat} {s t : Bool} {A B : Option Addr} {n m : Nat} (h : FV w q s A n t B m) (hb : Below w.heap.size w w') : FV w' q s A n t B m := ⟨h.1.below hb, h.2.below hb⟩
theorem FV.stable (q : Rat) (s : Bool) (A : Option Addr) (n : Nat) (t : Bool) (B : Option Addr) (m : Nat) : Stable (fun W => FV W q s A n t B m) := fun _ _ hb h => h.below hb
theorem FV.sep {w : World} {q : Rat} {s t : Bool} {A B : Option Addr} {n m g i : Nat} {T : TypeId} {cs : Array Value} (h : FV w q s A n t B m) (hW : Blk T g cs w) (hn : cs.toList.all noLimb = true) (u : Value) : FV (w.setCell ⟨g, i, none⟩ u) q s A n t B m := ⟨h.1.sep hW hn u, h.2.sep hW hn u⟩
theorem FV.sep2 {w : World} {q : Rat} {s t : Bool} {A B : Option Addr} {n m g : Nat} {T : TypeId} {x y : Value} (h : FV w q s A n t B m) (hW : Blk T g #[x, y] w) (hn : [x, y].all noLimb = true) (a b : Value) (ha : noLimb a = true) : FV ((w.setCell ⟨g, 0, none⟩ a).setCell ⟨g, 1, none⟩ b) q s A n t B m :=
  ⟨h.1.sep2 hW hn a b ha, h.2.sep2 hW hn a b ha⟩
theorem FV.sep4 {w : World} {q : Rat} {s t : Bool} {A B : Option Addr} {n m g : Nat} {T : TypeId} {x y u v : Value} (h : FV w q s A n t B m) (hW : Blk T g #[x, y, u, v] w) (hn : [x, y, u, v].all noLimb = true) (a b c d : Value) (ha : noLimb a = true) (hb : noLimb b = true) (hc : noLimb c = true) :
    FV ((((w.setCell ⟨g, 0, none⟩ a).setCell ⟨g, 1, none⟩ b).setCell ⟨g, 2, none⟩ c).setCell ⟨g, 3, none⟩ d) q s A n t B m := ⟨h.1.sep4 hW hn a b c d ha hb hc, h.2.sep4 hW hn a b c d ha hb hc⟩
theorem Env.again {w W : World} (h : Below w.heap.size w W) : Env w (fun _ => True) W := ⟨h, fun _ _ _ h => h, trivial⟩
theorem Env.blkI {w W : World} {P : World → Prop} {g : Nat} {t : TypeId} {cs : Array Value} (h : Env w P W) (hb : Blk t g cs W) : Env w (fun V => P V ∧ Blk t g cs V) W := h.and (Blk.stable _ _ _) hb
theorem bel2 {w W : World} {g : Nat} (h : Below w.heap.size w W) (hg : w.heap.size ≤ g) (a b : Value) : Below w.heap.size w ((W.setCell ⟨g, 0, none⟩ a).setCell ⟨g, 1, none⟩ b) := (h.setCell (p := ⟨g, 0, none⟩) hg _).setCell (p := ⟨g, 1, none⟩) hg _
theorem bel4 {w W : World} {g : Nat} (h : Below w.heap.size w W) (hg : w.heap.size ≤ g) (a b c d : Value) : Below w.heap.size w ((((W.setCell ⟨g, 0, none⟩ a).setCell ⟨g, 1, none⟩ b).setCell ⟨g, 2, none⟩ c).setCell ⟨g, 3, none⟩ d) := ((bel2 h hg a b).setCell (p := ⟨g, 2, none⟩) hg _).setCell (p := ⟨g, 3, none⟩) hg _
theorem FV.ln {w : World} {q : Rat} {s t : Bool} {A B : Option Addr} {n m k : Nat} (h : FV w q s A n t B m) (hq : fl q ≤ k) : n ≤ k ∧ m ≤ k := by
  have h1 := fl_le.1 hq
  have h2 := h.1.len
  have h3 := h.2.len
  rw [Int.natAbs_natCast] at h3
  omega
theorem Env.blk {w W : World} {P : World → Prop} {g : Nat} (h : Env w P W) (t : TypeId) (cs : Array Value) (hg : W.heap.size = g) : Env w (fun V => P V ∧ Blk t g cs V) (W.alloc (.cells cs t)) := by
  subst hg
  exact (h.alloc _).and (Blk.stable _ _ _) (Blk.new W t cs)
theorem Env.wv {w W : World} {P : World → Prop} {z : Int} {s : Bool} {A : Option Addr} {n : Nat} (h : Env w P W) (hv : WV W z s A n) : Env w (fun V => P V ∧ WV V z s A n) W := h.and (WV.stable _ _ _ _) hv
theorem Env.fv {w W : World} {P : World → Prop} {q : Rat} {s t : Bool} {A B : Option Addr} {n m : Nat} (h : Env w P W) (hv : FV W q s A n t B m) : Env w (fun V => P V ∧ FV V q s A n t B m) W := h.and (FV.stable _ _ _ _ _ _ _) hv
/-- The call returned the number z. -/
def WR (z : Int) (w : World) (e : Ending) (w' : World) : Prop := ∃ s A n c, e = .returned (.agg #[.bool s, .slice A n c]) ∧ WV w' z s A n ∧ Below w.heap.size w w'

set_option maxRecDepth 100000 in
theorem isOne_v {z : Int} {s : Bool} {A : Option Addr} {n c : Nat} {w : World} (ha : WV w z s A n) (hn : n ≤ 1000000) :
    Calls Tryz.prog 113 #[.agg #[.bool s, .slice A n c]] w fun e w' => e = .returned (.bool (decide (z = 1))) ∧ Below w.heap.size w w' := by
  have hbl : Below w.heap.size w (w.alloc (.cells #[.bool s, .slice A n c] 24)) := (Below.refl _ _).alloc (Nat.le_refl _) _
  obtain ⟨hs, hl, hr⟩ := ha
  cases s with
  | true =>
    have hz : z < 0 := of_decide_eq_true hs.symm
    clear hs hl hr
    have HE := Lib.hid (decide_eq_false (show ¬ z = 1 by omega))
    go_enter Tryz.func113, Tryz.ntmps113
    go_wp2_with fail
    go_ret
    exact ⟨ret_bool HE.out.symm, hbl⟩
  | false =>
    have hz : ¬ z < 0 := of_decide_eq_false hs.symm
    by_cases h1 : n = 1
    · subst h1
      obtain ⟨b, o, rfl, hb, hc⟩ := hr (by omega)
      have c1 := hc 0 (by omega)
      rw [Nat.add_zero] at c1
      have hv : dgt b16 z.natAbs 0 = z.natAbs := by
        have h := vs_dgt_ln b16_two (x := z.natAbs)
        rw [← hl, vs_succ, vs_zero] at h
        simpa using h
      rw [hv] at c1
      have hlt : b < w.heap.size := hb
      clear hl hs hc hr hv
      have c2 : (w.alloc (.cells #[.bool false, .slice (some ⟨b, o, none⟩) 1 c] 24)).cell? ⟨b, o, none⟩ = some (.int .u16 ((z.natAbs : Nat) : Int)) := (World.cell?_alloc_lt w _ ⟨b, o, none⟩ hlt).trans c1
      by_cases h2 : z = 1
      · have e1 := decide_eq_true h2
        have t2 : (((z.natAbs : Nat) : Int) == 1) = true := beq_iff_eq.2 (by omega)
        have HE := Lib.hid e1
        clear e1 h2
        go_enter Tryz.func113, Tryz.ntmps113
        go_wp2_with fail
        go_ret
        exact ⟨ret_bool HE.out.symm, hbl⟩
      · have e1 := decide_eq_false h2
        have t2 : (((z.natAbs : Nat) : Int) == 1) = false := beq_eq_false_iff_ne.2 (by omega)
        have HE := Lib.hid e1
        clear e1 h2
        go_enter Tryz.func113, Tryz.ntmps113
        go_wp2_with fail
        go_ret
        exact ⟨ret_bool HE.out.symm, hbl⟩
    · have hz1 : ¬ z = 1 := fun e => h1 (by rw [hl, e]; decide)
      have e1 := decide_eq_false hz1
      have t1 : ((n : Int) == 1) = false := beq_eq_false_iff_ne.2 (by omega)
      have HE := Lib.hid e1
      clear e1 hl hz1 hs hr
      go_enter Tryz.func113, Tryz.ntmps113
      go_wp2_with fail
      go_ret
      exact ⟨ret_bool HE.out.symm, hbl⟩
end Go.Proofs.YtifikcemcflgjaaGreat
namespace Go.Proofs.YtifikcemcflgjaaGreat
open Go.RowKit

theorem ret_whole {w W : World} {P : World → Prop} {R : Nat} {z : Int} {s : Bool} {A : Option Addr} {n : Nat} (hE : Env w P W) (hR : Blk 24 R #[.bool false, .slice none 0 0] W) (hl : w.heap.size ≤ R) (hv : WV W z s A n) (c : Nat) :
    ∃ W', W' = (W.setCell ⟨R, 0, none⟩ (.bool s)).setCell ⟨R, 1, none⟩ (.slice A n c) ∧ Blk 24 R #[.bool s, .slice A n c] W' ∧ WV W' z s A n ∧ Below w.heap.size w W' :=
  ⟨_, rfl, hR.s2 _ _, (hv.sep hR rfl _).sep (hR.set_ 0 _) rfl _, (hE.bel.setCell (p := ⟨R, 0, none⟩) hl _).setCell (p := ⟨R, 1, none⟩) hl _⟩
set_option linter.unusedSimpArgs false in
set_option maxRecDepth 100000 in
set_option maxHeartbeats 2000000 in
theorem fdivisor_v {a b : Int} {sa sb : Bool} {Aa Ab : Option Addr} {na ca nb cb : Nat} {w : World} (ha : WV w a sa Aa na) (hb : WV w b sb Ab nb) (la : na ≤ 1024) (lb : nb ≤ 1024) :
    Calls Tryz.prog 103 #[.agg #[.bool sa, .slice Aa na ca], .agg #[.bool sb, .slice Ab nb cb]] w (WR ((Nat.gcd a.natAbs b.natAbs : Nat) : Int) w) := by
  have hE := ((((Env.start w).wv ha).wv hb).blk 24 #[.bool sa, .slice Aa na ca] (g := w.heap.size) rfl).blk 24 #[.bool sb, .slice Ab nb cb] (g := w.heap.size + 1) (by simp)
  have hE := hE.blk 24 #[.bool false, .slice none 0 0] (g := w.heap.size + 1 + 1) (by simp)
  obtain ⟨W0, hW0⟩ : ∃ W0, W0 = (((w.alloc (.cells #[.bool sa, .slice Aa na ca] 24)).alloc (.cells #[.bool sb, .slice Ab nb cb] 24)).alloc (.cells #[.bool false, .slice none 0 0] 24)) := ⟨_, rfl⟩
  rw [← hW0] at hE
  have HW0 := Lib.hid hW0
  clear hW0
  go_enter Tryz.func103, Tryz.ntmps103
  go_upto_region 1 with (fail)
  rw [← HW0.out]
  obtain ⟨k1, k2⟩ := (hE.here.1.1.2).c2
  obtain ⟨k3, k4⟩ := (hE.here.1.2).c2
  go_wp2_with fail
  have hc := gcd_v (c := ca) (d := cb) hE.here.1.1.1.1.2 hE.here.1.1.1.2 la lb
  refine hc.mono ?_
  clear hc
  clear k1 k2 k3 k4
  rintro e w5 ⟨sr, Ar, nr, cr, rfl, hr, hb⟩
  replace hE := hE.step hb
  clear hb
  replace hE := hE.wv hr.v
  clear hr
  go_upto_region 2 with (fail)
  obtain ⟨g6, hg6⟩ : ∃ g6, g6 = w5.heap.size := ⟨_, rfl⟩
  have hl6_2 : w.heap.size < g6 := by rw [hg6]; exact (hE.here.1.1.1.2).lt
  have hl6_3 : w.heap.size + 1 < g6 := by rw [hg6]; exact (hE.here.1.1.2).lt
  have hl6_4 : w.heap.size + 1 + 1 < g6 := by rw [hg6]; exact (hE.here.1.2).lt
  replace hE := hE.blk 24 #[.bool sr, .slice Ar nr cr] (g := g6) hg6.symm
  generalize w5.alloc (.cells #[.bool sr, .slice Ar nr cr] 24) = W6 at hE ⊢
  rw [← hg6]
  clear hg6
  obtain ⟨k7, k8⟩ := (hE.here.2).c2
  have hRl : w.heap.size ≤ w.heap.size + 1 + 1 := by omega
  obtain ⟨WW, hWW, hB, hV, hBel⟩ := ret_whole hE hE.here.1.1.2 hRl hE.here.1.2 cr
  obtain ⟨x0, x1⟩ := (hE.here.1.1.2).c2
  obtain ⟨fz0, fz1⟩ := hE.here.1.1.2.f2
  have HWW := Lib.hid hWW
  clear hWW
  go_wp2_with fail
  clear x0 x1
  rw [← HWW.out]
  obtain ⟨y0, y1⟩ := hB.c2
  refine bodyPost_ret (v := .agg #[.bool sr, .slice Ar nr cr]) (by simp [results, Tryz.results103, go_sem, y0, y1]) rfl ?_
  exact ⟨sr, Ar, nr, cr, rfl, hV, hBel⟩
set_option linter.unusedSimpArgs false in
set_option maxRecDepth 100000 in
set_option maxHeartbeats 2000000 in
theorem fplus_v {a b : Int} {sa sb : Bool} {Aa Ab : Option Addr} {na ca nb cb : Nat} {w : World} (ha : WV w a sa Aa na) (hb : WV w b sb Ab nb) (la : na ≤ 1024) (lb : nb ≤ 1024) (lr : ln b16 (a + b).natAbs ≤ 1024) :
    Calls Tryz.prog 60 #[.agg #[.bool sa, .slice Aa na ca], .agg #[.bool sb, .slice Ab nb cb]] w (WR (a + b) w) := by
  have hE := ((((Env.start w).wv ha).wv hb).blk 24 #[.bool sa, .slice Aa na ca] (g := w.heap.size) rfl).blk 24 #[.bool sb, .slice Ab nb cb] (g := w.heap.size + 1) (by simp)
  have hE := hE.blk 24 #[.bool false, .slice none 0 0] (g := w.heap.size + 1 + 1) (by simp)
  obtain ⟨W0, hW0⟩ : ∃ W0, W0 = (((w.alloc (.cells #[.bool sa, .slice Aa na ca] 24)).alloc (.cells #[.bool sb, .slice Ab nb cb] 24)).alloc (.cells #[.bool false, .slice none 0 0] 24)) := ⟨_, rfl⟩
  rw [← hW0] at hE
  have HW0 := Lib.hid hW0
  clear hW0
  go_enter Tryz.func60, Tryz.ntmps60
  go_upto_region 1 with (fail)
  rw [← HW0.out]
  obtain ⟨k1, k2⟩ := (hE.here.1.1.2).c2
  obtain ⟨k3, k4⟩ := (hE.here.1.2).c2
  go_wp2_with fail
  have hc := add_v (c := ca) (d := cb) hE.here.1.1.1.1.2 hE.here.1.1.1.2 la lb lr
  refine hc.mono ?_
  clear hc
  clear k1 k2 k3 k4
  rintro e w5 ⟨sr, Ar, nr, cr, rfl, hr, hb⟩
  replace hE := hE.step hb
  clear hb
  replace hE := hE.wv hr.v
  clear hr
  go_upto_region 2 with (fail)
  obtain ⟨g6, hg6⟩ : ∃ g6, g6 = w5.heap.size := ⟨_, rfl⟩
  have hl6_2 : w.heap.size < g6 := by rw [hg6]; exact (hE.here.1.1.1.2).lt
  have hl6_3 : w.heap.size + 1 < g6 := by rw [hg6]; exact (hE.here.1.1.2).lt
  have hl6_4 : w.heap.size + 1 + 1 < g6 := by rw [hg6]; exact (hE.here.1.2).lt
  replace hE := hE.blk 24 #[.bool sr, .slice Ar nr cr] (g := g6) hg6.symm
  generalize w5.alloc (.cells #[.bool sr, .slice Ar nr cr] 24) = W6 at hE ⊢
  rw [← hg6]
  clear hg6
  obtain ⟨k7, k8⟩ := (hE.here.2).c2
  have hRl : w.heap.size ≤ w.heap.size + 1 + 1 := by omega
  obtain ⟨WW, hWW, hB, hV, hBel⟩ := ret_whole hE hE.here.1.1.2 hRl hE.here.1.2 cr
  obtain ⟨x0, x1⟩ := (hE.here.1.1.2).c2
  obtain ⟨fz0, fz1⟩ := hE.here.1.1.2.f2
  have HWW := Lib.hid hWW
  clear hWW
  go_wp2_with fail
  clear x0 x1
  rw [← HWW.out]
  obtain ⟨y0, y1⟩ := hB.c2
  refine bodyPost_ret (v := .agg #[.bool sr, .slice Ar nr cr]) (by simp [results, Tryz.results60, go_sem, y0, y1]) rfl ?_
  exact ⟨sr, Ar, nr, cr, rfl, hV, hBel⟩
set_option linter.unusedSimpArgs false in
set_option maxRecDepth 100000 in
set_option maxHeartbeats 2000000 in
theorem ftimes_v {a b : Int} {sa sb : Bool} {Aa Ab : Option Addr} {na ca nb cb : Nat} {w : World} (ha : WV w a sa Aa na) (hb : WV w b sb Ab nb) (la : na ≤ 1024) (lb : nb ≤ 1024) (lr : ln b16 (a * b).natAbs ≤ 1024) :
    Calls Tryz.prog 57 #[.agg #[.bool sa, .slice Aa na ca], .agg #[.bool sb, .slice Ab nb cb]] w (WR (a * b) w) := by
  have hE := ((((Env.start w).wv ha).wv hb).blk 24 #[.bool sa, .slice Aa na ca] (g := w.heap.size) rfl).blk 24 #[.bool sb, .slice Ab nb cb] (g := w.heap.size + 1) (by simp)
  have hE := hE.blk 24 #[.bool false, .slice none 0 0] (g := w.heap.size + 1 + 1) (by simp)
  obtain ⟨W0, hW0⟩ : ∃ W0, W0 = (((w.alloc (.cells #[.bool sa, .slice Aa na ca] 24)).alloc (.cells #[.bool sb, .slice Ab nb cb] 24)).alloc (.cells #[.bool false, .slice none 0 0] 24)) := ⟨_, rfl⟩
  rw [← hW0] at hE
  have HW0 := Lib.hid hW0
  clear hW0
  go_enter Tryz.func57, Tryz.ntmps57
  go_upto_region 1 with (fail)
  rw [← HW0.out]
  obtain ⟨k1, k2⟩ := (hE.here.1.1.2).c2
  obtain ⟨k3, k4⟩ := (hE.here.1.2).c2
  go_wp2_with fail
  have hc := mul_v (c := ca) (d := cb) hE.here.1.1.1.1.2 hE.here.1.1.1.2 la lb lr
  refine hc.mono ?_
  clear hc
  clear k1 k2 k3 k4
  rintro e w5 ⟨sr, Ar, nr, cr, rfl, hr, hb⟩
  replace hE := hE.step hb
  clear hb
  replace hE := hE.wv hr.v
  clear hr
  go_upto_region 2 with (fail)
  obtain ⟨g6, hg6⟩ : ∃ g6, g6 = w5.heap.size := ⟨_, rfl⟩
  have hl6_2 : w.heap.size < g6 := by rw [hg6]; exact (hE.here.1.1.1.2).lt
  have hl6_3 : w.heap.size + 1 < g6 := by rw [hg6]; exact (hE.here.1.1.2).lt
  have hl6_4 : w.heap.size + 1 + 1 < g6 := by rw [hg6]; exact (hE.here.1.2).lt
  replace hE := hE.blk 24 #[.bool sr, .slice Ar nr cr] (g := g6) hg6.symm
  generalize w5.alloc (.cells #[.bool sr, .slice Ar nr cr] 24) = W6 at hE ⊢
  rw [← hg6]
  clear hg6
  obtain ⟨k7, k8⟩ := (hE.here.2).c2
  have hRl : w.heap.size ≤ w.heap.size + 1 + 1 := by omega
  obtain ⟨WW, hWW, hB, hV, hBel⟩ := ret_whole hE hE.here.1.1.2 hRl hE.here.1.2 cr
  obtain ⟨x0, x1⟩ := (hE.here.1.1.2).c2
  obtain ⟨fz0, fz1⟩ := hE.here.1.1.2.f2
  have HWW := Lib.hid hWW
  clear hWW
  go_wp2_with fail
  clear x0 x1
  rw [← HWW.out]
  obtain ⟨y0, y1⟩ := hB.c2
  refine bodyPost_ret (v := .agg #[.bool sr, .slice Ar nr cr]) (by simp [results, Tryz.results57, go_sem, y0, y1]) rfl ?_
  exact ⟨sr, Ar, nr, cr, rfl, hV, hBel⟩
end Go.Proofs.YtifikcemcflgjaaGreat
namespace Go.Proofs.YtifikcemcflgjaaGreat
open Go.RowKit

theorem clone_v {z : Int} {s : Bool} {A : Option Addr} {n c : Nat} {w : World} (ha : WV w z s A n) (la : n ≤ 1024) :
    Calls Tryz.prog 102 #[.slice A n c] w fun e w' => ∃ A' c', e = .returned (.slice A' n c') ∧ Num16 w' A' z.natAbs ∧ Below w.heap.size w w' := by
  have hr : Rd w.heap.size .u16 w A n (dgt b16 z.natAbs) := by have := ha.2.2; unfold Num16 at this; rwa [← ha.len] at this
  refine (clone16_any A n c _ w hr (by omega)).mono ?_
  rintro e w' ⟨v, rfl, hown, hb, -⟩
  obtain ⟨A', c', rfl, _, hro⟩ := RowO.of_own hown
  refine ⟨A', c', rfl, ?_, hb⟩
  unfold Num16
  rw [← ha.len]
  exact hro.rd
theorem neg_sgn {z : Int} {s : Bool} {A : Option Addr} {n : Nat} {w : World} (ha : WV w z s A n) : (!s && decide (0 < n)) = decide (-z < 0) := by
  rw [ha.sgn, ha.len]
  by_cases h1 : z < 0
  · rw [decide_eq_true h1, decide_eq_false (show ¬ -z < 0 by omega)]; rfl
  · rw [decide_eq_false h1]
    by_cases h2 : z = 0
    · subst h2
      show decide (0 < ln b16 0) = decide (-(0 : Int) < 0)
      rw [ln_zero]; rfl
    · rw [decide_eq_true ((ln_pos b16_two).2 (show 0 < z.natAbs by omega)), decide_eq_true (show -z < 0 by omega)]; rfl
set_option linter.unusedSimpArgs false in
set_option maxRecDepth 100000 in
set_option maxHeartbeats 2000000 in
theorem fopposite_v {z : Int} {s : Bool} {A : Option Addr} {n c : Nat} {w : World} (ha : WV w z s A n) (la : n ≤ 1024) :
    Calls Tryz.prog 78 #[.agg #[.bool s, .slice A n c]] w (WR (-z) w) := by
  have hsg := neg_sgn ha
  cases s with
  | true =>
    have HS := Lib.hid (show false = decide (-z < 0) from hsg)
    clear hsg
    have hE := ((Env.start w).wv ha).blk 24 #[.bool true, .slice A n c] (g := w.heap.size) rfl
    have hE := hE.blk 24 #[.bool false, .slice none 0 0] (g := w.heap.size + 1) (by simp)
    obtain ⟨W0, hW0⟩ : ∃ W0, W0 = ((w.alloc (.cells #[.bool true, .slice A n c] 24)).alloc (.cells #[.bool false, .slice none 0 0] 24)) := ⟨_, rfl⟩
    rw [← hW0] at hE
    have HW0 := Lib.hid hW0
    clear hW0
    go_enter Tryz.func78, Tryz.ntmps78
    go_upto_region 1 with (fail)
    rw [← HW0.out]
    replace hE := hE.drew
    refine wp_region_held_drew (S := fun w' => w'.cell? ⟨w.heap.size, 0, none⟩ = some (.bool true) ∧ w'.cell? ⟨w.heap.size, 1, none⟩ = some (.slice A n c)) (by kernel_rfl) (hE.here.1.2.c2) (fun hHeld => ?_)
    refine tk 0 ?_
    try simp only [PL]
    refine tk 1 ?_
    try simp only [PL]
    refine tk 2 ?_
    try simp only [PL]
    refine tk 3 ?_
    try simp only [PL]
    refine tu 4 ?_
    try simp only [PL]
    refine tu 5 ?_
    try simp only [PL]
    refine tu 6 ?_
    try simp only [PL]
    refine tu 7 ?_
    try simp only [PL]
    refine tk 8 ?_
    try simp only [PL]
    refine tk 9 ?_
    try simp only [PL]
    refine tk 10 ?_
    try simp only [PL]
    refine r1 11 (fun K hK => ?_)
    go_simp
    have hc := clone_v (c := c) hE.here.1.1.2 la
    refine hc.mono ?_
    clear hc
    rintro e w2 ⟨A2, c2, rfl, hn2, hb⟩
    replace hE := hE.step hb
    clear hb
    have h2 : WV w2 (-z) false A2 n := ⟨HS.out, by rw [Int.natAbs_neg]; exact (hE.here.1.1.2).len, by rw [Int.natAbs_neg]; exact hn2⟩
    replace hE := hE.wv h2
    clear h2 hn2
    go_wp2_with fail
    refine hK.out _ _ (hE.here.1.1.2.c2) (fun hHeld => ?_)
    clear hK K
    try simp only [PL]
    refine tk 12 ?_
    try simp only [PL]
    refine r1 13 (fun K hK => ?_)
    have hRl : w.heap.size ≤ w.heap.size + 1 := by omega
    obtain ⟨WW, hWW, hB, hV, hBel⟩ := ret_whole hE hE.here.1.2 hRl hE.here.2 c2
    obtain ⟨x0, x1⟩ := (hE.here.1.2).c2
    obtain ⟨fz0, fz1⟩ := hE.here.1.2.f2
    have HWW := Lib.hid hWW
    clear hWW
    have q1 := (hE.here.1.1.2).far2 (R := w.heap.size + 1) (by omega) (.bool false) (.slice A2 n c2)
    rw [← HWW.out] at q1
    go_simp
    rw [← HWW.out]
    refine hK.out _ _ (q1.c2) (fun hHeld => ?_)
    clear hK K
    try simp only [PL]
    refine wpAnyH_done (by kernel_rfl) ?_ _
    go_wp2_with fail
    obtain ⟨y0, y1⟩ := hB.c2
    refine bodyPost_ret (v := .agg #[.bool false, .slice A2 n c2]) (by simp [results, Tryz.results78, go_sem, y0, y1]) rfl ?_
    exact ⟨false, A2, n, c2, rfl, hV, hBel⟩
  | false =>
    rw [show (!false && decide (0 < n)) = decide (0 < n) from rfl] at hsg
    have HS := Lib.hid (show decide (0 < n) = decide (-z < 0) from hsg)
    clear hsg
    have hE := ((Env.start w).wv ha).blk 24 #[.bool false, .slice A n c] (g := w.heap.size) rfl
    have hE := hE.blk 24 #[.bool false, .slice none 0 0] (g := w.heap.size + 1) (by simp)
    obtain ⟨W0, hW0⟩ : ∃ W0, W0 = ((w.alloc (.cells #[.bool false, .slice A n c] 24)).alloc (.cells #[.bool false, .slice none 0 0] 24)) := ⟨_, rfl⟩
    rw [← hW0] at hE
    have HW0 := Lib.hid hW0
    clear hW0
    go_enter Tryz.func78, Tryz.ntmps78
    go_upto_region 1 with (fail)
    rw [← HW0.out]
    replace hE := hE.drew
    refine wp_region_held_drew (S := fun w' => w'.cell? ⟨w.heap.size, 0, none⟩ = some (.bool false) ∧ w'.cell? ⟨w.heap.size, 1, none⟩ = some (.slice A n c)) (by kernel_rfl) (hE.here.1.2.c2) (fun hHeld => ?_)
    refine tk 0 ?_
    try simp only [PL]
    refine tk 1 ?_
    try simp only [PL]
    refine tk 2 ?_
    try simp only [PL]
    refine tk 3 ?_
    try simp only [PL]
    refine tk 4 ?_
    try simp only [PL]
    refine tk 5 ?_
    try simp only [PL]
    refine tk 6 ?_
    try simp only [PL]
    refine tk 7 ?_
    try simp only [PL]
    refine tk 8 ?_
    try simp only [PL]
    refine tk 9 ?_
    try simp only [PL]
    refine tk 10 ?_
    try simp only [PL]
    refine r1 11 (fun K hK => ?_)
    go_simp
    have hc := clone_v (c := c) hE.here.1.1.2 la
    refine hc.mono ?_
    clear hc
    rintro e w2 ⟨A2, c2, rfl, hn2, hb⟩
    replace hE := hE.step hb
    clear hb
    have h2 : WV w2 (-z) (decide (0 < n)) A2 n := ⟨HS.out, by rw [Int.natAbs_neg]; exact (hE.here.1.1.2).len, by rw [Int.natAbs_neg]; exact hn2⟩
    replace hE := hE.wv h2
    clear h2 hn2
    go_wp2_with fail
    refine hK.out _ _ (hE.here.1.1.2.c2) (fun hHeld => ?_)
    clear hK K
    try simp only [PL]
    refine tk 12 ?_
    try simp only [PL]
    refine r1 13 (fun K hK => ?_)
    have hRl : w.heap.size ≤ w.heap.size + 1 := by omega
    obtain ⟨WW, hWW, hB, hV, hBel⟩ := ret_whole hE hE.here.1.2 hRl hE.here.2 c2
    obtain ⟨x0, x1⟩ := (hE.here.1.2).c2
    obtain ⟨fz0, fz1⟩ := hE.here.1.2.f2
    have HWW := Lib.hid hWW
    clear hWW
    have q1 := (hE.here.1.1.2).far2 (R := w.heap.size + 1) (by omega) (.bool (decide (0 < n))) (.slice A2 n c2)
    rw [← HWW.out] at q1
    go_simp
    rw [← HWW.out]
    refine hK.out _ _ (q1.c2) (fun hHeld => ?_)
    clear hK K
    try simp only [PL]
    refine wpAnyH_done (by kernel_rfl) ?_ _
    go_wp2_with fail
    obtain ⟨y0, y1⟩ := hB.c2
    refine bodyPost_ret (v := .agg #[.bool (decide (0 < n)), .slice A2 n c2]) (by simp [results, Tryz.results78, go_sem, y0, y1]) rfl ?_
    exact ⟨(decide (0 < n)), A2, n, c2, rfl, hV, hBel⟩
end Go.Proofs.YtifikcemcflgjaaGreat
namespace Go.Proofs.YtifikcemcflgjaaGreat
open Go.RowKit

/-- The call returned the numbers q and r. -/
def WR2 (q r : Int) (w : World) (e : Ending) (w' : World) : Prop := ∃ s A n c t B m d, e = .returned (.tuple #[.agg #[.bool s, .slice A n c], .agg #[.bool t, .slice B m d]]) ∧ WV w' q s A n ∧ WV w' r t B m ∧ Below w.heap.size w w'
/-- The call returned the fraction q. -/
def FR (q : Rat) (w : World) (e : Ending) (w' : World) : Prop := ∃ s A n c t B m d, e = .returned (.agg #[.bool s, .slice A n c, .bool t, .slice B m d]) ∧ FV w' q s A n t B m ∧ Below w.heap.size w w'
theorem ret_frac {w W : World} {P : World → Prop} {R : Nat} {T : TypeId} {q : Rat} {s t : Bool} {A B : Option Addr} {n m : Nat} (hE : Env w P W) (hR : Blk T R #[.bool false, .slice none 0 0, .bool false, .slice none 0 0] W) (hl : w.heap.size ≤ R) (hv : FV W q s A n t B m) (c d : Nat) :
    ∃ W', W' = (((W.setCell ⟨R, 0, none⟩ (.bool s)).setCell ⟨R, 1, none⟩ (.slice A n c)).setCell ⟨R, 2, none⟩ (.bool t)).setCell ⟨R, 3, none⟩ (.slice B m d) ∧ Blk T R #[.bool s, .slice A n c, .bool t, .slice B m d] W' ∧ FV W' q s A n t B m ∧ Below w.heap.size w W' :=
  ⟨_, rfl, hR.s4 _ _ _ _, hv.sep4 hR rfl _ _ _ _ rfl rfl rfl, bel4 hE.bel hl _ _ _ _⟩
theorem Blk.same {t : TypeId} {g i : Nat} {cs : Array Value} {W : World} {v : Value} (h : Blk t g cs W) (hi : cs[i]? = some v) : W.setCell ⟨g, i, none⟩ v = W := by
  have hm : (W.setCell ⟨g, i, none⟩ v).heap = W.heap := by
    refine Array.ext_getElem? fun j => ?_
    by_cases e : g = j
    · subst e
      have h2 := h.set_ i v
      unfold Blk at h h2
      rw [h, h2]
      congr 2
      refine Array.ext_getElem? fun k => ?_
      rw [Array.getElem?_setIfInBounds]
      by_cases e2 : i = k
      · subst e2
        rw [if_pos rfl, if_pos (Array.getElem?_eq_some_iff.1 hi).1, hi]
      · rw [if_neg e2]
    · exact Below.heap_setCell W ⟨g, i, none⟩ v j (fun e2 => e e2.symm)
  show ({ W with heap := (W.setCell ⟨g, i, none⟩ v).heap } : World) = W
  rw [hm]
set_option linter.unusedSimpArgs false in
set_option maxRecDepth 100000 in
set_option maxHeartbeats 2000000 in
theorem fdivide_v {a b : Int} {sa sb : Bool} {Aa Ab : Option Addr} {na ca nb cb : Nat} {w : World} (ha : WV w a sa Aa na) (hb : WV w b sb Ab nb) (la : na ≤ 1024) (lb : nb ≤ 1024) (hb0 : b ≠ 0) :
    Calls Tryz.prog 58 #[.agg #[.bool sa, .slice Aa na ca], .agg #[.bool sb, .slice Ab nb cb]] w (WR2 (a.fdiv b) (a.fmod b) w) := by
  have hE := ((((Env.start w).wv ha).wv hb).blk 24 #[.bool sa, .slice Aa na ca] (g := w.heap.size) rfl).blk 24 #[.bool sb, .slice Ab nb cb] (g := w.heap.size + 1) (by simp)
  have hE := hE.blk 24 #[.bool false, .slice none 0 0] (g := w.heap.size + 1 + 1) (by simp)
  have hE := hE.blk 24 #[.bool false, .slice none 0 0] (g := w.heap.size + 1 + 1 + 1) (by simp)
  obtain ⟨W0, hW0⟩ : ∃ W0, W0 = ((((w.alloc (.cells #[.bool sa, .slice Aa na ca] 24)).alloc (.cells #[.bool sb, .slice Ab nb cb] 24)).alloc (.cells #[.bool false, .slice none 0 0] 24)).alloc (.cells #[.bool false, .slice none 0 0] 24)) := ⟨_, rfl⟩
  rw [← hW0] at hE
  have HW0 := Lib.hid hW0
  clear hW0
  go_enter Tryz.func58, Tryz.ntmps58
  go_upto_region 1 with (fail)
  rw [← HW0.out]
  obtain ⟨k1, k2⟩ := (hE.here.1.1.1.2).c2
  obtain ⟨k3, k4⟩ := (hE.here.1.1.2).c2
  go_wp2_with fail
  refine (divMod_v (c := ca) (d := cb) hE.here.1.1.1.1.1.2 hE.here.1.1.1.1.2 la lb hb0).mono ?_
  clear k1 k2 k3 k4
  rintro e w5 ⟨sq, Aq, nq, cq, sr, Ar, nr, cr, rfl, hq, hr, hb⟩
  replace hE := hE.step hb
  clear hb
  replace hE := (hE.wv hq.v).wv hr.v
  clear hq hr
  obtain ⟨x0, x1⟩ := (hE.here.1.1.1.2).c2
  obtain ⟨z0, z1⟩ := (hE.here.1.1.2).c2
  have f0 := (hE.here.1.1.1.2).frozen 0
  have f1 := (hE.here.1.1.1.2).frozen 1
  have g0 := (hE.here.1.1.2).frozen 0
  have g1 := (hE.here.1.1.2).frozen 1
  have hB4 := (hE.here.1.1.1.2).s2 (.bool sq) (.slice Aq nq cq)
  have hB5 := (hE.here.1.1.2).far2 (R := w.heap.size + 1 + 1) (by omega) (.bool sq) (.slice Aq nq cq)
  have hQ := (hE.here.1.2).sep2 (hE.here.1.1.1.2) rfl (.bool sq) (.slice Aq nq cq) rfl
  have hR := (hE.here.2).sep2 (hE.here.1.1.1.2) rfl (.bool sq) (.slice Aq nq cq) rfl
  have hBel := bel2 (bel2 hE.bel (show w.heap.size ≤ w.heap.size + 1 + 1 by omega) (.bool sq) (.slice Aq nq cq)) (show w.heap.size ≤ w.heap.size + 1 + 1 + 1 by omega) (.bool sr) (.slice Ar nr cr)
  replace hQ := hQ.sep2 hB5 rfl (.bool sr) (.slice Ar nr cr) rfl
  replace hR := hR.sep2 hB5 rfl (.bool sr) (.slice Ar nr cr) rfl
  replace hB4 := hB4.far2 (R := w.heap.size + 1 + 1 + 1) (by omega) (.bool sr) (.slice Ar nr cr)
  replace hB5 := hB5.s2 (.bool sr) (.slice Ar nr cr)
  go_upto_region 2 with (fail)
  clear x0 x1 z0 z1 f0 f1 g0 g1
  generalize ((((w5.setCell ⟨w.heap.size + 1 + 1, 0, none⟩ (.bool sq)).setCell ⟨w.heap.size + 1 + 1, 1, none⟩ (.slice Aq nq cq)).setCell ⟨w.heap.size + 1 + 1 + 1, 0, none⟩ (.bool sr)).setCell ⟨w.heap.size + 1 + 1 + 1, 1, none⟩ (.slice Ar nr cr)) = WW at *
  have s1 : WW.drew.setCell ⟨w.heap.size + 1 + 1, 0, none⟩ (.bool sq) = WW.drew := Blk.same (W := WW.drew) hB4 rfl
  have s2 : WW.drew.setCell ⟨w.heap.size + 1 + 1, 1, none⟩ (.slice Aq nq cq) = WW.drew := Blk.same (W := WW.drew) hB4 rfl
  have s3 : WW.drew.setCell ⟨w.heap.size + 1 + 1 + 1, 0, none⟩ (.bool sr) = WW.drew := Blk.same (W := WW.drew) hB5 rfl
  have s4 : WW.drew.setCell ⟨w.heap.size + 1 + 1 + 1, 1, none⟩ (.slice Ar nr cr) = WW.drew := Blk.same (W := WW.drew) hB5 rfl
  obtain ⟨y0, y1⟩ := hB4.c2
  obtain ⟨y2, y3⟩ := hB5.c2
  have f0 := hB4.frozen 0
  have f1 := hB4.frozen 1
  have g0 := hB5.frozen 0
  have g1 := hB5.frozen 1
  go_region_held3 (fun w' => w'.cell? ⟨w.heap.size + 1 + 1, 0, none⟩ = some (.bool sq) ∧ w'.cell? ⟨w.heap.size + 1 + 1, 1, none⟩ = some (.slice Aq nq cq) ∧ w'.cell? ⟨w.heap.size + 1 + 1 + 1, 0, none⟩ = some (.bool sr) ∧ w'.cell? ⟨w.heap.size + 1 + 1 + 1, 1, none⟩ = some (.slice Ar nr cr)) (first | exact ⟨y0, y1, y2, y3⟩ | (simp only [s1, s2, s3, s4]; exact ⟨y0, y1, y2, y3⟩)) (fail)
  go_wp2_with fail
  refine bodyPost_ret (v := .tuple #[.agg #[.bool sq, .slice Aq nq cq], .agg #[.bool sr, .slice Ar nr cr]]) (by simp [results, Tryz.results58, go_sem, y0, y1, y2, y3]) rfl ?_
  exact ⟨sq, Aq, nq, cq, sr, Ar, nr, cr, rfl, hQ, hR, hBel.drew⟩
end Go.Proofs.YtifikcemcflgjaaGreat
namespace Go.Proofs.YtifikcemcflgjaaGreat
open Go.RowKit

theorem low_pos {n d : Int} (hd : 0 < d) : (Rat.divInt n d).num = n.fdiv ((Nat.gcd n.natAbs d.natAbs : Nat) : Int) ∧ (((Rat.divInt n d).den : Nat) : Int) = d.fdiv ((Nat.gcd n.natAbs d.natAbs : Nat) : Int) := by
  have h := low_num (n := n) hd
  rw [Int.fdiv_eq_ediv_of_nonneg _ (by omega), Int.fdiv_eq_ediv_of_nonneg _ (by omega)]
  exact h
theorem gcd_ne {n d : Int} (hd : d ≠ 0) : ((Nat.gcd n.natAbs d.natAbs : Nat) : Int) ≠ 0 := by
  have := Nat.gcd_pos_of_pos_right n.natAbs (show 0 < d.natAbs by omega)
  omega
theorem gcd_len {a b : Int} {s t u : Bool} {A B G : Option Addr} {n m g : Nat} {w : World} (_ : WV w a s A n) (hb : WV w b t B m) (hg : WV w ((Nat.gcd a.natAbs b.natAbs : Nat) : Int) u G g) (hb0 : b ≠ 0) {k : Nat} (lb : m ≤ k) : g ≤ k := by
  rw [hg.len, Int.natAbs_natCast]
  refine Nat.le_trans (ln_mono b16_two (Nat.gcd_le_right _ (show 0 < b.natAbs by omega))) ?_
  rw [← hb.len]; exact lb
theorem neg_len {z : Int} {s t : Bool} {A B : Option Addr} {n m k : Nat} {w : World} (h : WV w z s A n) (h2 : WV w (-z) t B m) (hk : n ≤ k) : m ≤ k := by
  rw [h2.len, Int.natAbs_neg, ← h.len]; exact hk
set_option linter.unusedSimpArgs false in
set_option maxRecDepth 100000 in
set_option maxHeartbeats 4000000 in
theorem flowest_v {a b : Int} {sa sb : Bool} {Aa Ab : Option Addr} {na ca nb cb : Nat} {w : World} (ha : WV w a sa Aa na) (hb : WV w b sb Ab nb) (la : na ≤ 1024) (lb : nb ≤ 1024) (hb0 : b ≠ 0) :
    Calls Tryz.prog 63 #[.agg #[.bool sa, .slice Aa na ca], .agg #[.bool sb, .slice Ab nb cb]] w (FR (Rat.divInt a b) w) := by
  cases sb with
  | true =>
    have hd : b < 0 := of_decide_eq_true hb.sgn.symm
    have hE := ((((Env.start w).wv ha).wv hb).blk 24 #[.bool sa, .slice Aa na ca] (g := w.heap.size) rfl).blk 24 #[.bool true, .slice Ab nb cb] (g := w.heap.size + 1) (by simp)
    have hE := hE.blk 65 #[.bool false, .slice none 0 0, .bool false, .slice none 0 0] (g := w.heap.size + 1 + 1) (by simp)
    obtain ⟨W0, hW0⟩ : ∃ W0, W0 = (((w.alloc (.cells #[.bool sa, .slice Aa na ca] 24)).alloc (.cells #[.bool true, .slice Ab nb cb] 24)).alloc (.cells #[.bool false, .slice none 0 0, .bool false, .slice none 0 0] 65)) := ⟨_, rfl⟩
    rw [← hW0] at hE
    have HW0 := Lib.hid hW0
    clear hW0
    go_enter Tryz.func63, Tryz.ntmps63
    go_upto_region 1 with (fail)
    rw [← HW0.out]
    obtain ⟨k1, k2⟩ := (hE.here.1.2).c2
    go_upto_region 2 with (fail)
    clear k1 k2
    go_cut [] from 8 to 11 (fun wx => ∃ sx Ax nx cx sy Ay ny cy, Env w (fun V => (((((((True ∧ WV V a sa Aa na) ∧ WV V b true Ab nb) ∧ Blk 24 (w.heap.size) #[.bool sx, .slice Ax nx cx] V) ∧ Blk 24 (w.heap.size + 1) #[.bool sy, .slice Ay ny cy] V) ∧ Blk 65 (w.heap.size + 1 + 1) #[.bool false, .slice none 0 0, .bool false, .slice none 0 0] V) ∧ WV V (-a) sx Ax nx) ∧ WV V (-b) sy Ay ny)) wx)
    case first =>
      replace hE := hE.drew
      refine wp_region_held_drew (S := fun w' => True) (by kernel_rfl) (trivial) (fun hHeld => ?_)
      refine wpAnyH_ready (rs := [0, 2]) (by kernel_rfl) (by simp) (AllReadyH.cons rfl (fun K hK => ?_) (AllReadyH.cons rfl (fun K hK => ?_) (AllReadyH.nil)))
      · skip
        obtain ⟨k3, k4⟩ := (hE.here.1.1.2).c2
        go_simp
        clear k3 k4
        refine hK.out _ _ (trivial) (fun hHeld => ?_)
        clear hK K
        try simp only [PL]
        refine wpAnyH_ready (rs := [1, 2]) (by kernel_rfl) (by simp) (AllReadyH.cons rfl (fun K hK => ?_) (AllReadyH.cons rfl (fun K hK => ?_) (AllReadyH.nil)))
        · skip
          go_simp
          have hc := fopposite_v (c := ca) hE.here.1.1.1.1.2 la
          refine hc.mono ?_
          clear hc
          rintro e w5 ⟨sx, Ax, nx, cx, rfl, hx, hb⟩
          replace hE := hE.step hb
          clear hb
          replace hE := hE.wv hx
          clear hx
          go_wp2_with fail
          refine hK.out _ _ (trivial) (fun hHeld => ?_)
          clear hK K
          try simp only [PL]
          refine r1 2 (fun K hK => ?_)
          obtain ⟨k6, k7⟩ := (hE.here.1.1.2).c2
          go_simp
          clear k6 k7
          refine hK.out _ _ (trivial) (fun hHeld => ?_)
          clear hK K
          try simp only [PL]
          refine r1 3 (fun K hK => ?_)
          go_simp
          have hc := fopposite_v (c := cb) hE.here.1.1.1.1.2 lb
          refine hc.mono ?_
          clear hc
          rintro e w8 ⟨sy, Ay, ny, cy, rfl, hy, hb⟩
          replace hE := hE.step hb
          clear hb
          replace hE := hE.wv hy
          clear hy
          go_wp2_with fail
          refine hK.out _ _ (trivial) (fun hHeld => ?_)
          clear hK K
          try simp only [PL]
          refine r1 4 (fun K hK => ?_)
          have hgl9 : w.heap.size ≤ w.heap.size := by omega
          obtain ⟨x9_0, x9_1⟩ := (hE.here.1.1.1.1.2).c2
          obtain ⟨f9_0, f9_1⟩ := hE.here.1.1.1.1.2.f2
          replace hE := ((((((((Env.again (bel2 hE.bel hgl9 (.bool sx) (.slice Ax nx cx))).wv ((hE.here.1.1.1.1.1.1.2).sep2 hE.here.1.1.1.1.2 rfl (.bool sx) (.slice Ax nx cx) rfl)).wv ((hE.here.1.1.1.1.1.2).sep2 hE.here.1.1.1.1.2 rfl (.bool sx) (.slice Ax nx cx) rfl)).blkI ((hE.here.1.1.1.1.2).s2 (.bool sx) (.slice Ax nx cx))).blkI ((hE.here.1.1.1.2).far2 (R := w.heap.size) (by omega) (.bool sx) (.slice Ax nx cx))).blkI ((hE.here.1.1.2).far2 (R := w.heap.size) (by omega) (.bool sx) (.slice Ax nx cx))).wv ((hE.here.1.2).sep2 hE.here.1.1.1.1.2 rfl (.bool sx) (.slice Ax nx cx) rfl)).wv ((hE.here.2).sep2 hE.here.1.1.1.1.2 rfl (.bool sx) (.slice Ax nx cx) rfl))
          go_simp
          clear x9_0 x9_1 f9_0 f9_1 hgl9
          generalize ((w8.setCell ⟨w.heap.size, 0, none⟩ (.bool sx)).setCell ⟨w.heap.size, 1, none⟩ (.slice Ax nx cx)) = W9 at hE ⊢
          refine hK.out _ _ (trivial) (fun hHeld => ?_)
          clear hK K
          try simp only [PL]
          refine r1 5 (fun K hK => ?_)
          have hgl10 : w.heap.size ≤ w.heap.size + 1 := by omega
          obtain ⟨x10_0, x10_1⟩ := (hE.here.1.1.1.2).c2
          obtain ⟨f10_0, f10_1⟩ := hE.here.1.1.1.2.f2
          replace hE := ((((((((Env.again (bel2 hE.bel hgl10 (.bool sy) (.slice Ay ny cy))).wv ((hE.here.1.1.1.1.1.1.2).sep2 hE.here.1.1.1.2 rfl (.bool sy) (.slice Ay ny cy) rfl)).wv ((hE.here.1.1.1.1.1.2).sep2 hE.here.1.1.1.2 rfl (.bool sy) (.slice Ay ny cy) rfl)).blkI ((hE.here.1.1.1.1.2).far2 (R := w.heap.size + 1) (by omega) (.bool sy) (.slice Ay ny cy))).blkI ((hE.here.1.1.1.2).s2 (.bool sy) (.slice Ay ny cy))).blkI ((hE.here.1.1.2).far2 (R := w.heap.size + 1) (by omega) (.bool sy) (.slice Ay ny cy))).wv ((hE.here.1.2).sep2 hE.here.1.1.1.2 rfl (.bool sy) (.slice Ay ny cy) rfl)).wv ((hE.here.2).sep2 hE.here.1.1.1.2 rfl (.bool sy) (.slice Ay ny cy) rfl))
          go_simp
          clear x10_0 x10_1 f10_0 f10_1 hgl10
          generalize ((W9.setCell ⟨w.heap.size + 1, 0, none⟩ (.bool sy)).setCell ⟨w.heap.size + 1, 1, none⟩ (.slice Ay ny cy)) = W10 at hE ⊢
          refine hK.out _ _ (trivial) (fun hHeld => ?_)
          clear hK K
          try simp only [PL]
          refine wpAnyH_done (by kernel_rfl) ?_ _
          go_wp2_with fail
          go_meet
          exact ⟨sx, Ax, nx, cx, sy, Ay, ny, cy, hE⟩
        · skip
          obtain ⟨k11, k12⟩ := (hE.here.1.2).c2
          go_simp
          clear k11 k12
          refine hK.out _ _ (trivial) (fun hHeld => ?_)
          clear hK K
          try simp only [PL]
          refine r1 1 (fun K hK => ?_)
          go_simp
          have hc := fopposite_v (c := ca) hE.here.1.1.1.1.2 la
          refine hc.mono ?_
          clear hc
          rintro e w13 ⟨sx, Ax, nx, cx, rfl, hx, hb⟩
          replace hE := hE.step hb
          clear hb
          replace hE := hE.wv hx
          clear hx
          go_wp2_with fail
          refine hK.out _ _ (trivial) (fun hHeld => ?_)
          clear hK K
          try simp only [PL]
          refine r1 3 (fun K hK => ?_)
          go_simp
          have hc := fopposite_v (c := cb) hE.here.1.1.1.1.2 lb
          refine hc.mono ?_
          clear hc
          rintro e w14 ⟨sy, Ay, ny, cy, rfl, hy, hb⟩
          replace hE := hE.step hb
          clear hb
          replace hE := hE.wv hy
          clear hy
          go_wp2_with fail
          refine hK.out _ _ (trivial) (fun hHeld => ?_)
          clear hK K
          try simp only [PL]
          refine r1 4 (fun K hK => ?_)
          have hgl15 : w.heap.size ≤ w.heap.size := by omega
          obtain ⟨x15_0, x15_1⟩ := (hE.here.1.1.1.1.2).c2
          obtain ⟨f15_0, f15_1⟩ := hE.here.1.1.1.1.2.f2
          replace hE := ((((((((Env.again (bel2 hE.bel hgl15 (.bool sx) (.slice Ax nx cx))).wv ((hE.here.1.1.1.1.1.1.2).sep2 hE.here.1.1.1.1.2 rfl (.bool sx) (.slice Ax nx cx) rfl)).wv ((hE.here.1.1.1.1.1.2).sep2 hE.here.1.1.1.1.2 rfl (.bool sx) (.slice Ax nx cx) rfl)).blkI ((hE.here.1.1.1.1.2).s2 (.bool sx) (.slice Ax nx cx))).blkI ((hE.here.1.1.1.2).far2 (R := w.heap.size) (by omega) (.bool sx) (.slice Ax nx cx))).blkI ((hE.here.1.1.2).far2 (R := w.heap.size) (by omega) (.bool sx) (.slice Ax nx cx))).wv ((hE.here.1.2).sep2 hE.here.1.1.1.1.2 rfl (.bool sx) (.slice Ax nx cx) rfl)).wv ((hE.here.2).sep2 hE.here.1.1.1.1.2 rfl (.bool sx) (.slice Ax nx cx) rfl))
          go_simp
          clear x15_0 x15_1 f15_0 f15_1 hgl15
          generalize ((w14.setCell ⟨w.heap.size, 0, none⟩ (.bool sx)).setCell ⟨w.heap.size, 1, none⟩ (.slice Ax nx cx)) = W15 at hE ⊢
          refine hK.out _ _ (trivial) (fun hHeld => ?_)
          clear hK K
          try simp only [PL]
          refine r1 5 (fun K hK => ?_)
          have hgl16 : w.heap.size ≤ w.heap.size + 1 := by omega
          obtain ⟨x16_0, x16_1⟩ := (hE.here.1.1.1.2).c2
          obtain ⟨f16_0, f16_1⟩ := hE.here.1.1.1.2.f2
          replace hE := ((((((((Env.again (bel2 hE.bel hgl16 (.bool sy) (.slice Ay ny cy))).wv ((hE.here.1.1.1.1.1.1.2).sep2 hE.here.1.1.1.2 rfl (.bool sy) (.slice Ay ny cy) rfl)).wv ((hE.here.1.1.1.1.1.2).sep2 hE.here.1.1.1.2 rfl (.bool sy) (.slice Ay ny cy) rfl)).blkI ((hE.here.1.1.1.1.2).far2 (R := w.heap.size + 1) (by omega) (.bool sy) (.slice Ay ny cy))).blkI ((hE.here.1.1.1.2).s2 (.bool sy) (.slice Ay ny cy))).blkI ((hE.here.1.1.2).far2 (R := w.heap.size + 1) (by omega) (.bool sy) (.slice Ay ny cy))).wv ((hE.here.1.2).sep2 hE.here.1.1.1.2 rfl (.bool sy) (.slice Ay ny cy) rfl)).wv ((hE.here.2).sep2 hE.here.1.1.1.2 rfl (.bool sy) (.slice Ay ny cy) rfl))
          go_simp
          clear x16_0 x16_1 f16_0 f16_1 hgl16
          generalize ((W15.setCell ⟨w.heap.size + 1, 0, none⟩ (.bool sy)).setCell ⟨w.heap.size + 1, 1, none⟩ (.slice Ay ny cy)) = W16 at hE ⊢
          refine hK.out _ _ (trivial) (fun hHeld => ?_)
          clear hK K
          try simp only [PL]
          refine wpAnyH_done (by kernel_rfl) ?_ _
          go_wp2_with fail
          go_meet
          exact ⟨sx, Ax, nx, cx, sy, Ay, ny, cy, hE⟩
      · skip
        obtain ⟨k17, k18⟩ := (hE.here.1.2).c2
        go_simp
        clear k17 k18
        refine hK.out _ _ (trivial) (fun hHeld => ?_)
        clear hK K
        try simp only [PL]
        refine r1 0 (fun K hK => ?_)
        obtain ⟨k19, k20⟩ := (hE.here.1.1.2).c2
        go_simp
        clear k19 k20
        refine hK.out _ _ (trivial) (fun hHeld => ?_)
        clear hK K
        try simp only [PL]
        refine r1 1 (fun K hK => ?_)
        go_simp
        have hc := fopposite_v (c := ca) hE.here.1.1.1.1.2 la
        refine hc.mono ?_
        clear hc
        rintro e w21 ⟨sx, Ax, nx, cx, rfl, hx, hb⟩
        replace hE := hE.step hb
        clear hb
        replace hE := hE.wv hx
        clear hx
        go_wp2_with fail
        refine hK.out _ _ (trivial) (fun hHeld => ?_)
        clear hK K
        try simp only [PL]
        refine r1 3 (fun K hK => ?_)
        go_simp
        have hc := fopposite_v (c := cb) hE.here.1.1.1.1.2 lb
        refine hc.mono ?_
        clear hc
        rintro e w22 ⟨sy, Ay, ny, cy, rfl, hy, hb⟩
        replace hE := hE.step hb
        clear hb
        replace hE := hE.wv hy
        clear hy
        go_wp2_with fail
        refine hK.out _ _ (trivial) (fun hHeld => ?_)
        clear hK K
        try simp only [PL]
        refine r1 4 (fun K hK => ?_)
        have hgl23 : w.heap.size ≤ w.heap.size := by omega
        obtain ⟨x23_0, x23_1⟩ := (hE.here.1.1.1.1.2).c2
        obtain ⟨f23_0, f23_1⟩ := hE.here.1.1.1.1.2.f2
        replace hE := ((((((((Env.again (bel2 hE.bel hgl23 (.bool sx) (.slice Ax nx cx))).wv ((hE.here.1.1.1.1.1.1.2).sep2 hE.here.1.1.1.1.2 rfl (.bool sx) (.slice Ax nx cx) rfl)).wv ((hE.here.1.1.1.1.1.2).sep2 hE.here.1.1.1.1.2 rfl (.bool sx) (.slice Ax nx cx) rfl)).blkI ((hE.here.1.1.1.1.2).s2 (.bool sx) (.slice Ax nx cx))).blkI ((hE.here.1.1.1.2).far2 (R := w.heap.size) (by omega) (.bool sx) (.slice Ax nx cx))).blkI ((hE.here.1.1.2).far2 (R := w.heap.size) (by omega) (.bool sx) (.slice Ax nx cx))).wv ((hE.here.1.2).sep2 hE.here.1.1.1.1.2 rfl (.bool sx) (.slice Ax nx cx) rfl)).wv ((hE.here.2).sep2 hE.here.1.1.1.1.2 rfl (.bool sx) (.slice Ax nx cx) rfl))
        go_simp
        clear x23_0 x23_1 f23_0 f23_1 hgl23
        generalize ((w22.setCell ⟨w.heap.size, 0, none⟩ (.bool sx)).setCell ⟨w.heap.size, 1, none⟩ (.slice Ax nx cx)) = W23 at hE ⊢
        refine hK.out _ _ (trivial) (fun hHeld => ?_)
        clear hK K
        try simp only [PL]
        refine r1 5 (fun K hK => ?_)
        have hgl24 : w.heap.size ≤ w.heap.size + 1 := by omega
        obtain ⟨x24_0, x24_1⟩ := (hE.here.1.1.1.2).c2
        obtain ⟨f24_0, f24_1⟩ := hE.here.1.1.1.2.f2
        replace hE := ((((((((Env.again (bel2 hE.bel hgl24 (.bool sy) (.slice Ay ny cy))).wv ((hE.here.1.1.1.1.1.1.2).sep2 hE.here.1.1.1.2 rfl (.bool sy) (.slice Ay ny cy) rfl)).wv ((hE.here.1.1.1.1.1.2).sep2 hE.here.1.1.1.2 rfl (.bool sy) (.slice Ay ny cy) rfl)).blkI ((hE.here.1.1.1.1.2).far2 (R := w.heap.size + 1) (by omega) (.bool sy) (.slice Ay ny cy))).blkI ((hE.here.1.1.1.2).s2 (.bool sy) (.slice Ay ny cy))).blkI ((hE.here.1.1.2).far2 (R := w.heap.size + 1) (by omega) (.bool sy) (.slice Ay ny cy))).wv ((hE.here.1.2).sep2 hE.here.1.1.1.2 rfl (.bool sy) (.slice Ay ny cy) rfl)).wv ((hE.here.2).sep2 hE.here.1.1.1.2 rfl (.bool sy) (.slice Ay ny cy) rfl))
        go_simp
        clear x24_0 x24_1 f24_0 f24_1 hgl24
        generalize ((W23.setCell ⟨w.heap.size + 1, 0, none⟩ (.bool sy)).setCell ⟨w.heap.size + 1, 1, none⟩ (.slice Ay ny cy)) = W24 at hE ⊢
        refine hK.out _ _ (trivial) (fun hHeld => ?_)
        clear hK K
        try simp only [PL]
        refine wpAnyH_done (by kernel_rfl) ?_ _
        go_wp2_with fail
        go_meet
        exact ⟨sx, Ax, nx, cx, sy, Ay, ny, cy, hE⟩
    case rest =>
    clear hE
    obtain ⟨sx, Ax, nx, cx, sy, Ay, ny, cy, hE⟩ := hcut
    have la2 := neg_len hE.here.1.1.1.1.1.1.2 hE.here.1.2 la
    have lb2 := neg_len hE.here.1.1.1.1.1.2 hE.here.2 lb
    clear la lb
    have la := la2
    have lb := lb2
    clear la2 lb2
    go_upto_region 3 with (fail)
    obtain ⟨k25, k26⟩ := (hE.here.1.1.1.1.2).c2
    obtain ⟨k27, k28⟩ := (hE.here.1.1.1.2).c2
    go_wp2_with fail
    have hc := fdivisor_v (ca := cx) (cb := cy) hE.here.1.2 hE.here.2 la lb
    refine hc.mono ?_
    clear hc
    clear k25 k26 k27 k28
    rintro e w29 ⟨sg, Ag, ng, cg, rfl, hg, hb⟩
    replace hE := hE.step hb
    clear hb
    replace hE := hE.wv hg
    clear hg
    have lg := gcd_len hE.here.1.1.2 hE.here.1.2 hE.here.2 (show ((-b)) ≠ 0 by omega) lb
    go_upto_region 4 with (fail)
    obtain ⟨g30, hg30⟩ : ∃ g30, g30 = w29.heap.size := ⟨_, rfl⟩
    have hl30_2 : w.heap.size < g30 := by rw [hg30]; exact (hE.here.1.1.1.1.1.2).lt
    have hl30_3 : w.heap.size + 1 < g30 := by rw [hg30]; exact (hE.here.1.1.1.1.2).lt
    have hl30_4 : w.heap.size + 1 + 1 < g30 := by rw [hg30]; exact (hE.here.1.1.1.2).lt
    replace hE := hE.blk 24 #[.bool sg, .slice Ag ng cg] (g := g30) hg30.symm
    generalize w29.alloc (.cells #[.bool sg, .slice Ag ng cg] 24) = W30 at hE ⊢
    rw [← hg30]
    clear hg30
    obtain ⟨k31, k32⟩ := (hE.here.1.1.1.1.1.1.2).c2
    obtain ⟨k33, k34⟩ := (hE.here.2).c2
    go_wp2_with fail
    have hc := fdivide_v (ca := cx) (cb := cg) hE.here.1.1.1.2 hE.here.1.2 la lg (gcd_ne (show ((-b)) ≠ 0 by omega))
    refine hc.mono ?_
    clear hc
    clear k31 k32 k33 k34
    rintro e w35 ⟨sp, Ap, np, cp, sr, Ar, nr, cr, rfl, hp, hr, hb⟩
    replace hE := hE.step hb
    clear hb
    replace hE := hE.wv hp
    clear hp
    replace hE := hE.wv hr
    clear hr
    have hgl36 : w.heap.size ≤ w.heap.size := by omega
    obtain ⟨x36_0, x36_1⟩ := (hE.here.1.1.1.1.1.1.1.1.2).c2
    obtain ⟨f36_0, f36_1⟩ := hE.here.1.1.1.1.1.1.1.1.2.f2
    replace hE := ((((((((((((Env.again (bel2 hE.bel hgl36 (.bool sp) (.slice Ap np cp))).wv ((hE.here.1.1.1.1.1.1.1.1.1.1.2).sep2 hE.here.1.1.1.1.1.1.1.1.2 rfl (.bool sp) (.slice Ap np cp) rfl)).wv ((hE.here.1.1.1.1.1.1.1.1.1.2).sep2 hE.here.1.1.1.1.1.1.1.1.2 rfl (.bool sp) (.slice Ap np cp) rfl)).blkI ((hE.here.1.1.1.1.1.1.1.1.2).s2 (.bool sp) (.slice Ap np cp))).blkI ((hE.here.1.1.1.1.1.1.1.2).far2 (R := w.heap.size) (by omega) (.bool sp) (.slice Ap np cp))).blkI ((hE.here.1.1.1.1.1.1.2).far2 (R := w.heap.size) (by omega) (.bool sp) (.slice Ap np cp))).wv ((hE.here.1.1.1.1.1.2).sep2 hE.here.1.1.1.1.1.1.1.1.2 rfl (.bool sp) (.slice Ap np cp) rfl)).wv ((hE.here.1.1.1.1.2).sep2 hE.here.1.1.1.1.1.1.1.1.2 rfl (.bool sp) (.slice Ap np cp) rfl)).wv ((hE.here.1.1.1.2).sep2 hE.here.1.1.1.1.1.1.1.1.2 rfl (.bool sp) (.slice Ap np cp) rfl)).blkI ((hE.here.1.1.2).far2 (R := w.heap.size) (by omega) (.bool sp) (.slice Ap np cp))).wv ((hE.here.1.2).sep2 hE.here.1.1.1.1.1.1.1.1.2 rfl (.bool sp) (.slice Ap np cp) rfl)).wv ((hE.here.2).sep2 hE.here.1.1.1.1.1.1.1.1.2 rfl (.bool sp) (.slice Ap np cp) rfl))
    go_upto_region 5 with (fail)
    clear x36_0 x36_1 f36_0 f36_1 hgl36
    generalize ((w35.setCell ⟨w.heap.size, 0, none⟩ (.bool sp)).setCell ⟨w.heap.size, 1, none⟩ (.slice Ap np cp)) = W36 at hE ⊢
    obtain ⟨k37, k38⟩ := (hE.here.1.1.1.1.1.1.1.2).c2
    obtain ⟨k39, k40⟩ := (hE.here.1.1.2).c2
    go_wp2_with fail
    have hc := fdivide_v (ca := cy) (cb := cg) hE.here.1.1.1.1.2 hE.here.1.1.1.2 lb lg (gcd_ne (show ((-b)) ≠ 0 by omega))
    refine hc.mono ?_
    clear hc
    clear k37 k38 k39 k40
    rintro e w41 ⟨sq, Aq, nq, cq, su, Au, nu, cu, rfl, hq, hu, hb⟩
    replace hE := hE.step hb
    clear hb
    replace hE := hE.wv hq
    clear hq
    replace hE := hE.wv hu
    clear hu
    have hgl42 : w.heap.size ≤ w.heap.size + 1 := by omega
    obtain ⟨x42_0, x42_1⟩ := (hE.here.1.1.1.1.1.1.1.1.1.2).c2
    obtain ⟨f42_0, f42_1⟩ := hE.here.1.1.1.1.1.1.1.1.1.2.f2
    replace hE := ((((((((((((((Env.again (bel2 hE.bel hgl42 (.bool sq) (.slice Aq nq cq))).wv ((hE.here.1.1.1.1.1.1.1.1.1.1.1.1.2).sep2 hE.here.1.1.1.1.1.1.1.1.1.2 rfl (.bool sq) (.slice Aq nq cq) rfl)).wv ((hE.here.1.1.1.1.1.1.1.1.1.1.1.2).sep2 hE.here.1.1.1.1.1.1.1.1.1.2 rfl (.bool sq) (.slice Aq nq cq) rfl)).blkI ((hE.here.1.1.1.1.1.1.1.1.1.1.2).far2 (R := w.heap.size + 1) (by omega) (.bool sq) (.slice Aq nq cq))).blkI ((hE.here.1.1.1.1.1.1.1.1.1.2).s2 (.bool sq) (.slice Aq nq cq))).blkI ((hE.here.1.1.1.1.1.1.1.1.2).far2 (R := w.heap.size + 1) (by omega) (.bool sq) (.slice Aq nq cq))).wv ((hE.here.1.1.1.1.1.1.1.2).sep2 hE.here.1.1.1.1.1.1.1.1.1.2 rfl (.bool sq) (.slice Aq nq cq) rfl)).wv ((hE.here.1.1.1.1.1.1.2).sep2 hE.here.1.1.1.1.1.1.1.1.1.2 rfl (.bool sq) (.slice Aq nq cq) rfl)).wv ((hE.here.1.1.1.1.1.2).sep2 hE.here.1.1.1.1.1.1.1.1.1.2 rfl (.bool sq) (.slice Aq nq cq) rfl)).blkI ((hE.here.1.1.1.1.2).far2 (R := w.heap.size + 1) (by omega) (.bool sq) (.slice Aq nq cq))).wv ((hE.here.1.1.1.2).sep2 hE.here.1.1.1.1.1.1.1.1.1.2 rfl (.bool sq) (.slice Aq nq cq) rfl)).wv ((hE.here.1.1.2).sep2 hE.here.1.1.1.1.1.1.1.1.1.2 rfl (.bool sq) (.slice Aq nq cq) rfl)).wv ((hE.here.1.2).sep2 hE.here.1.1.1.1.1.1.1.1.1.2 rfl (.bool sq) (.slice Aq nq cq) rfl)).wv ((hE.here.2).sep2 hE.here.1.1.1.1.1.1.1.1.1.2 rfl (.bool sq) (.slice Aq nq cq) rfl))
    go_upto_region 6 with (fail)
    clear x42_0 x42_1 f42_0 f42_1 hgl42
    generalize ((w41.setCell ⟨w.heap.size + 1, 0, none⟩ (.bool sq)).setCell ⟨w.heap.size + 1, 1, none⟩ (.slice Aq nq cq)) = W42 at hE ⊢
    obtain ⟨e1, e2⟩ := low_pos (n := (-a)) (d := (-b)) (show 0 < -b by omega)
    rw [low_neg] at e1 e2
    have hfv : FV W42 (Rat.divInt a b) sp Ap np sq Aq nq := ⟨by rw [e1]; exact hE.here.1.1.1.2, by rw [e2]; exact hE.here.1.2⟩
    clear e1 e2
    replace hE := hE.fv hfv
    clear hfv
    obtain ⟨k43, k44⟩ := (hE.here.1.1.1.1.1.1.1.1.1.1.1.2).c2
    obtain ⟨k45, k46⟩ := (hE.here.1.1.1.1.1.1.1.1.1.1.2).c2
    have hRl : w.heap.size ≤ w.heap.size + 1 + 1 := by omega
    obtain ⟨WW, hWW, hB, hV, hBel⟩ := ret_frac hE hE.here.1.1.1.1.1.1.1.1.1.2 hRl hE.here.2 cp cq
    obtain ⟨x0, x1, x2, x3⟩ := (hE.here.1.1.1.1.1.1.1.1.1.2).c4
    obtain ⟨fz0, fz1, fz2, fz3⟩ := hE.here.1.1.1.1.1.1.1.1.1.2.f4
    have HWW := Lib.hid hWW
    clear hWW
    go_wp2_with fail
    clear k43 k44 k45 k46
    rw [← HWW.out]
    obtain ⟨y0, y1, y2, y3⟩ := hB.c4
    refine bodyPost_ret (v := .agg #[.bool sp, .slice Ap np cp, .bool sq, .slice Aq nq cq]) (by simp [results, Tryz.results63, go_sem, y0, y1, y2, y3]) rfl ?_
    exact ⟨sp, Ap, np, cp, sq, Aq, nq, cq, rfl, hV, hBel⟩
  | false =>
    have hd : 0 < b := by have := of_decide_eq_false hb.sgn.symm; omega
    have hE := ((((Env.start w).wv ha).wv hb).blk 24 #[.bool sa, .slice Aa na ca] (g := w.heap.size) rfl).blk 24 #[.bool false, .slice Ab nb cb] (g := w.heap.size + 1) (by simp)
    have hE := hE.blk 65 #[.bool false, .slice none 0 0, .bool false, .slice none 0 0] (g := w.heap.size + 1 + 1) (by simp)
    obtain ⟨W0, hW0⟩ : ∃ W0, W0 = (((w.alloc (.cells #[.bool sa, .slice Aa na ca] 24)).alloc (.cells #[.bool false, .slice Ab nb cb] 24)).alloc (.cells #[.bool false, .slice none 0 0, .bool false, .slice none 0 0] 65)) := ⟨_, rfl⟩
    rw [← hW0] at hE
    have HW0 := Lib.hid hW0
    clear hW0
    go_enter Tryz.func63, Tryz.ntmps63
    go_upto_region 1 with (fail)
    rw [← HW0.out]
    obtain ⟨k1, k2⟩ := (hE.here.1.2).c2
    go_upto_region 3 with (fail)
    clear k1 k2
    obtain ⟨k3, k4⟩ := (hE.here.1.1.2).c2
    obtain ⟨k5, k6⟩ := (hE.here.1.2).c2
    go_wp2_with fail
    have hc := fdivisor_v (ca := ca) (cb := cb) hE.here.1.1.1.1.2 hE.here.1.1.1.2 la lb
    refine hc.mono ?_
    clear hc
    clear k3 k4 k5 k6
    rintro e w7 ⟨sg, Ag, ng, cg, rfl, hg, hb⟩
    replace hE := hE.step hb
    clear hb
    replace hE := hE.wv hg
    clear hg
    have lg := gcd_len hE.here.1.1.1.1.1.2 hE.here.1.1.1.1.2 hE.here.2 (show (b) ≠ 0 by omega) lb
    go_upto_region 4 with (fail)
    obtain ⟨g8, hg8⟩ : ∃ g8, g8 = w7.heap.size := ⟨_, rfl⟩
    have hl8_2 : w.heap.size < g8 := by rw [hg8]; exact (hE.here.1.1.1.2).lt
    have hl8_3 : w.heap.size + 1 < g8 := by rw [hg8]; exact (hE.here.1.1.2).lt
    have hl8_4 : w.heap.size + 1 + 1 < g8 := by rw [hg8]; exact (hE.here.1.2).lt
    replace hE := hE.blk 24 #[.bool sg, .slice Ag ng cg] (g := g8) hg8.symm
    generalize w7.alloc (.cells #[.bool sg, .slice Ag ng cg] 24) = W8 at hE ⊢
    rw [← hg8]
    clear hg8
    obtain ⟨k9, k10⟩ := (hE.here.1.1.1.1.2).c2
    obtain ⟨k11, k12⟩ := (hE.here.2).c2
    go_wp2_with fail
    have hc := fdivide_v (ca := ca) (cb := cg) hE.here.1.1.1.1.1.1.2 hE.here.1.2 la lg (gcd_ne (show (b) ≠ 0 by omega))
    refine hc.mono ?_
    clear hc
    clear k9 k10 k11 k12
    rintro e w13 ⟨sp, Ap, np, cp, sr, Ar, nr, cr, rfl, hp, hr, hb⟩
    replace hE := hE.step hb
    clear hb
    replace hE := hE.wv hp
    clear hp
    replace hE := hE.wv hr
    clear hr
    have hgl14 : w.heap.size ≤ w.heap.size := by omega
    obtain ⟨x14_0, x14_1⟩ := (hE.here.1.1.1.1.1.1.2).c2
    obtain ⟨f14_0, f14_1⟩ := hE.here.1.1.1.1.1.1.2.f2
    replace hE := ((((((((((Env.again (bel2 hE.bel hgl14 (.bool sp) (.slice Ap np cp))).wv ((hE.here.1.1.1.1.1.1.1.1.2).sep2 hE.here.1.1.1.1.1.1.2 rfl (.bool sp) (.slice Ap np cp) rfl)).wv ((hE.here.1.1.1.1.1.1.1.2).sep2 hE.here.1.1.1.1.1.1.2 rfl (.bool sp) (.slice Ap np cp) rfl)).blkI ((hE.here.1.1.1.1.1.1.2).s2 (.bool sp) (.slice Ap np cp))).blkI ((hE.here.1.1.1.1.1.2).far2 (R := w.heap.size) (by omega) (.bool sp) (.slice Ap np cp))).blkI ((hE.here.1.1.1.1.2).far2 (R := w.heap.size) (by omega) (.bool sp) (.slice Ap np cp))).wv ((hE.here.1.1.1.2).sep2 hE.here.1.1.1.1.1.1.2 rfl (.bool sp) (.slice Ap np cp) rfl)).blkI ((hE.here.1.1.2).far2 (R := w.heap.size) (by omega) (.bool sp) (.slice Ap np cp))).wv ((hE.here.1.2).sep2 hE.here.1.1.1.1.1.1.2 rfl (.bool sp) (.slice Ap np cp) rfl)).wv ((hE.here.2).sep2 hE.here.1.1.1.1.1.1.2 rfl (.bool sp) (.slice Ap np cp) rfl))
    go_upto_region 5 with (fail)
    clear x14_0 x14_1 f14_0 f14_1 hgl14
    generalize ((w13.setCell ⟨w.heap.size, 0, none⟩ (.bool sp)).setCell ⟨w.heap.size, 1, none⟩ (.slice Ap np cp)) = W14 at hE ⊢
    obtain ⟨k15, k16⟩ := (hE.here.1.1.1.1.1.2).c2
    obtain ⟨k17, k18⟩ := (hE.here.1.1.2).c2
    go_wp2_with fail
    have hc := fdivide_v (ca := cb) (cb := cg) hE.here.1.1.1.1.1.1.1.2 hE.here.1.1.1.2 lb lg (gcd_ne (show (b) ≠ 0 by omega))
    refine hc.mono ?_
    clear hc
    clear k15 k16 k17 k18
    rintro e w19 ⟨sq, Aq, nq, cq, su, Au, nu, cu, rfl, hq, hu, hb⟩
    replace hE := hE.step hb
    clear hb
    replace hE := hE.wv hq
    clear hq
    replace hE := hE.wv hu
    clear hu
    have hgl20 : w.heap.size ≤ w.heap.size + 1 := by omega
    obtain ⟨x20_0, x20_1⟩ := (hE.here.1.1.1.1.1.1.1.2).c2
    obtain ⟨f20_0, f20_1⟩ := hE.here.1.1.1.1.1.1.1.2.f2
    replace hE := ((((((((((((Env.again (bel2 hE.bel hgl20 (.bool sq) (.slice Aq nq cq))).wv ((hE.here.1.1.1.1.1.1.1.1.1.1.2).sep2 hE.here.1.1.1.1.1.1.1.2 rfl (.bool sq) (.slice Aq nq cq) rfl)).wv ((hE.here.1.1.1.1.1.1.1.1.1.2).sep2 hE.here.1.1.1.1.1.1.1.2 rfl (.bool sq) (.slice Aq nq cq) rfl)).blkI ((hE.here.1.1.1.1.1.1.1.1.2).far2 (R := w.heap.size + 1) (by omega) (.bool sq) (.slice Aq nq cq))).blkI ((hE.here.1.1.1.1.1.1.1.2).s2 (.bool sq) (.slice Aq nq cq))).blkI ((hE.here.1.1.1.1.1.1.2).far2 (R := w.heap.size + 1) (by omega) (.bool sq) (.slice Aq nq cq))).wv ((hE.here.1.1.1.1.1.2).sep2 hE.here.1.1.1.1.1.1.1.2 rfl (.bool sq) (.slice Aq nq cq) rfl)).blkI ((hE.here.1.1.1.1.2).far2 (R := w.heap.size + 1) (by omega) (.bool sq) (.slice Aq nq cq))).wv ((hE.here.1.1.1.2).sep2 hE.here.1.1.1.1.1.1.1.2 rfl (.bool sq) (.slice Aq nq cq) rfl)).wv ((hE.here.1.1.2).sep2 hE.here.1.1.1.1.1.1.1.2 rfl (.bool sq) (.slice Aq nq cq) rfl)).wv ((hE.here.1.2).sep2 hE.here.1.1.1.1.1.1.1.2 rfl (.bool sq) (.slice Aq nq cq) rfl)).wv ((hE.here.2).sep2 hE.here.1.1.1.1.1.1.1.2 rfl (.bool sq) (.slice Aq nq cq) rfl))
    go_upto_region 6 with (fail)
    clear x20_0 x20_1 f20_0 f20_1 hgl20
    generalize ((w19.setCell ⟨w.heap.size + 1, 0, none⟩ (.bool sq)).setCell ⟨w.heap.size + 1, 1, none⟩ (.slice Aq nq cq)) = W20 at hE ⊢
    obtain ⟨e1, e2⟩ := low_pos (n := a) (d := b) hd
    have hfv : FV W20 (Rat.divInt a b) sp Ap np sq Aq nq := ⟨by rw [e1]; exact hE.here.1.1.1.2, by rw [e2]; exact hE.here.1.2⟩
    clear e1 e2
    replace hE := hE.fv hfv
    clear hfv
    obtain ⟨k21, k22⟩ := (hE.here.1.1.1.1.1.1.1.1.1.2).c2
    obtain ⟨k23, k24⟩ := (hE.here.1.1.1.1.1.1.1.1.2).c2
    have hRl : w.heap.size ≤ w.heap.size + 1 + 1 := by omega
    obtain ⟨WW, hWW, hB, hV, hBel⟩ := ret_frac hE hE.here.1.1.1.1.1.1.1.2 hRl hE.here.2 cp cq
    obtain ⟨x0, x1, x2, x3⟩ := (hE.here.1.1.1.1.1.1.1.2).c4
    obtain ⟨fz0, fz1, fz2, fz3⟩ := hE.here.1.1.1.1.1.1.1.2.f4
    have HWW := Lib.hid hWW
    clear hWW
    go_wp2_with fail
    clear k21 k22 k23 k24
    rw [← HWW.out]
    obtain ⟨y0, y1, y2, y3⟩ := hB.c4
    refine bodyPost_ret (v := .agg #[.bool sp, .slice Ap np cp, .bool sq, .slice Aq nq cq]) (by simp [results, Tryz.results63, go_sem, y0, y1, y2, y3]) rfl ?_
    exact ⟨sp, Ap, np, cp, sq, Aq, nq, cq, rfl, hV, hBel⟩
end Go.Proofs.YtifikcemcflgjaaGreat
namespace Go.Proofs.YtifikcemcflgjaaGreat
open Go.RowKit

theorem rtrim_round {f : Nat → Nat} {k V : Nat} (hk0 : 0 < k) (hv : vs b16 f k = V) (hx : f (k - 1) = 0) : vs b16 f (k - 1) = V := by
  have h1 := vs_succ b16 f (k - 1)
  rw [show k - 1 + 1 = k by omega, hv, hx] at h1
  omega
set_option maxHeartbeats 1000000 in
theorem rtrim_any (B : Nat) (A : Option Addr) (n c : Nat) (f : Nat → Nat) (w : World) (h : Rd B .u16 w A n f) (hf : ∀ i, i < n → f i < 65536) (hc : n ≤ c) (hn : n ≤ 100000000) :
    Calls Tryz.prog 126 #[.slice A n c] w fun e w' => e = .returned (.slice A (ln b16 (vs b16 f n)) c) ∧ w = w' := by
  have HF := Lib.hid hf
  clear hf
  go_enter Tryz.func126, Tryz.ntmps126
  go_wp2_with fail
  go_loopw [3] (fun v wr => ∃ k : Nat, k ≤ n ∧ v = .int .i64 (k : Int) ∧ Hid (vs b16 f k = vs b16 f n) ∧ wr = w) (fun v _ => (intOf v).toNat)
  case atStart => exact ⟨n, Nat.le_refl _, rfl, Lib.hid rfl, rfl⟩
  case round =>
    obtain ⟨k, hk, rfl, HV, rfl⟩ := hrel
    rcases Nat.eq_zero_or_pos k with rfl | hk0
    · go_wp2_with fail
      go_ret
      exact ⟨ret_slice (by rw [← HV.out, vs_zero, ln_zero]), rfl⟩
    · obtain ⟨b, o, rfl, hb, hcell⟩ := h (by omega)
      have hx := hcell (k - 1) (by omega)
      have t0 : (0 : Int) < (k : Int) := by omega
      have e1 : (k : Int) - 1 = ((k - 1 : Nat) : Int) := by omega
      have e2 : ((k : Int) - 1).toNat = k - 1 := by omega
      have i1 : (0 : Int) ≤ (k : Int) - 1 := by omega
      have i2 : (k : Int) - 1 < (n : Int) := by omega
      have i3 : (k : Int) ≤ (c : Int) := by omega
      clear hcell
      by_cases h0 : f (k - 1) = 0
      · have t1 : (((f (k - 1) : Nat) : Int) == 0) = true := by rw [h0]; rfl
        have HN := Lib.hid (rtrim_round hk0 HV.out h0)
        clear h0
        go_wp2_with fail
        go_roundw
        case rel => exact ⟨k - 1, by omega, rfl, HN, by first | trivial | rfl⟩
        case measure => simp [intOf]; omega
      · have t1 : (((f (k - 1) : Nat) : Int) == 0) = false := beq_eq_false_iff_ne.2 (by omega)
        have H0 := Lib.hid h0
        clear h0
        go_wp2_with fail
        go_ret
        exact ⟨ret_slice (by rw [← HV.out, ln_vs b16_two (fun j hj => HF.out j (by omega)) (.inr H0.out)]), rfl⟩
def LessPost (a b : Nat) (w : World) (e : Ending) (w' : World) : Prop := e = .returned (.bool (decide (a < b))) ∧ ∃ n, w' = w.drewN n

set_option maxHeartbeats 400000 in
theorem rless_len (A B : Option Addr) (n m c d : Nat) (w : World) (h : n ≠ m) :
    Calls Tryz.prog 111 #[.slice A n c, .slice B m d] w fun e w' => e = .returned (.bool (decide (n < m))) ∧ w = w' := by
  rcases Nat.lt_or_gt_of_ne h with h1 | h1
  · have k1 : ((n : Int) != m) = true := by simp; omega
    have k2 : decide ((n : Int) < (m : Int)) = true := decide_eq_true (by omega)
    have k3 := Lib.hid (decide_eq_true h1)
    go_enter Tryz.func111, Tryz.ntmps111
    go_wp2
    go_ret
    first | exact ⟨ret_bool k3.out.symm, rfl⟩ | exact ⟨rfl, rfl⟩
  · have k1 : ((n : Int) != m) = true := by simp; omega
    have k2 : decide ((n : Int) < (m : Int)) = false := decide_eq_false (by omega)
    have k3 := Lib.hid (decide_eq_false (show ¬ n < m by omega))
    go_enter Tryz.func111, Tryz.ntmps111
    go_wp2
    go_ret
    first | exact ⟨ret_bool k3.out.symm, rfl⟩ | exact ⟨rfl, rfl⟩

set_option maxHeartbeats 400000 in
theorem rless_same (A B : Option Addr) (n c d a b : Nat) (w : World) (ha : Rd w.heap.size .u16 w A n (dgt b16 a)) (hb : Rd w.heap.size .u16 w B n (dgt b16 b)) (hn : n ≤ 100000000) (la : a < b16 ^ n) (lb : b < b16 ^ n) :
    Calls Tryz.prog 111 #[.slice A n c, .slice B n d] w (LessPost a b w) := by
  have LA := Lib.hid la
  have LB := Lib.hid lb
  clear la lb
  have hcell : ∀ j, j < n → ∃ p q p' q', A = some ⟨p, q, none⟩ ∧ B = some ⟨p', q', none⟩ ∧ (w.cell? ⟨p, q + j, none⟩ = some (.int .u16 (dgt b16 a j : Int))) ∧ (w.cell? ⟨p', q' + j, none⟩ = some (.int .u16 (dgt b16 b j : Int))) := fun j hj => by
    obtain ⟨p, q, e, _, h1⟩ := ha (by omega)
    obtain ⟨p', q', e', _, h2⟩ := hb (by omega)
    exact ⟨p, q, p', q', e, e', h1 j hj, h2 j hj⟩
  have HC := Lib.hid hcell
  clear ha hb hcell
  go_enter Tryz.func111, Tryz.ntmps111
  go_wp2
  go_loopw [5] (fun i wr => ∃ k : Nat, k ≤ n ∧ i = .int .i64 ((k : Int) - 1) ∧ (∀ j, k ≤ j → j < n → dgt b16 a j = dgt b16 b j) ∧ ∃ m, wr = w.drewN m) (fun i _ => (intOf i + 1).toNat)
  case atStart => exact ⟨n, Nat.le_refl _, rfl, fun j h1 h2 => absurd h2 (by omega), 0, rfl⟩
  case round =>
    obtain ⟨k, hk, rfl, he, m, rfl⟩ := hrel
    have HE := Lib.hid he
    clear he
    rcases Nat.eq_zero_or_pos k with rfl | hk0
    · go_wp2
      go_ret
      exact ⟨ret_bool (decide_eq_false (show ¬ a < b from fun hh => by have := eq_of_dgt LA.out LB.out fun j hj => HE.out j (by omega) hj; omega)).symm, m, rfl⟩
    · obtain ⟨p, q, p', q', rfl, rfl, h1, h2⟩ := HC.out (k - 1) (by omega)
      have ek : ((k : Int) - 1).toNat = k - 1 := by omega
      rcases Nat.lt_trichotomy (dgt b16 a (k - 1)) (dgt b16 b (k - 1)) with hlt | heq | hgt
      · have t1 : (((dgt b16 a (k - 1) : Nat) : Int) != ((dgt b16 b (k - 1) : Nat) : Int)) = true := by simp; omega
        have t2 : ((dgt b16 a (k - 1) : Nat) : Int) < ((dgt b16 b (k - 1) : Nat) : Int) := by omega
        have t3 := Lib.hid (decide_eq_true (lt_of_dgt b16_two LA.out LB.out (by omega) (fun j h1 h2 => HE.out j (by omega) h2) hlt))
        go_wp2
        go_quiet (fail)
        go_wp2
        go_quiet (fail)
        go_wp2
        go_ret
        first | exact ⟨ret_bool t3.out.symm, _, by rw [World.drewN_drewN, World.drewN_drewN]⟩ | exact ⟨ret_bool (by rw [t3.out]; first | exact decide_eq_false (by omega) | exact decide_eq_true (by omega)), _, by rw [World.drewN_drewN, World.drewN_drewN]⟩
      · have t1 : (((dgt b16 a (k - 1) : Nat) : Int) != ((dgt b16 b (k - 1) : Nat) : Int)) = false := by simp; omega
        go_wp2
        go_quiet (fail)
        go_wp2
        go_roundw
        case rel =>
          refine ⟨k - 1, by omega, by go_num, fun j h1 h2 => ?_, _, rfl⟩
          by_cases e : j = k - 1
          · rw [e]; exact heq
          · exact HE.out j (by omega) h2
        case measure => simp [intOf]; omega
      · have t1 : (((dgt b16 a (k - 1) : Nat) : Int) != ((dgt b16 b (k - 1) : Nat) : Int)) = true := by simp; omega
        have t2 : ¬ ((dgt b16 a (k - 1) : Nat) : Int) < ((dgt b16 b (k - 1) : Nat) : Int) := by omega
        have t3 := Lib.hid (decide_eq_false (Nat.lt_asymm (lt_of_dgt b16_two LB.out LA.out (by omega) (fun j h1 h2 => (HE.out j (by omega) h2).symm) hgt)))
        go_wp2
        go_quiet (fail)
        go_wp2
        go_quiet (fail)
        go_wp2
        go_ret
        first | exact ⟨ret_bool t3.out.symm, _, by rw [World.drewN_drewN, World.drewN_drewN]⟩ | exact ⟨ret_bool (by rw [t3.out]; first | exact decide_eq_false (by omega) | exact decide_eq_true (by omega)), _, by rw [World.drewN_drewN, World.drewN_drewN]⟩
theorem rless_any (A B : Option Addr) (c d a b : Nat) (w : World) (ha : Num16 w A a) (hb : Num16 w B b) (la : ln b16 a ≤ 100000000) :
    Calls Tryz.prog 111 #[.slice A (ln b16 a) c, .slice B (ln b16 b) d] w (LessPost a b w) := by
  by_cases h : ln b16 a = ln b16 b
  · unfold Num16 at ha hb
    have h1 := lt_pow_ln b16_two a
    have h2 := lt_pow_ln b16_two b
    rw [← h] at hb h2 ⊢
    exact rless_same A B _ c d a b w ha hb la h1 h2
  · refine (rless_len A B _ _ c d w h).mono fun e w' ⟨he, hw⟩ => ⟨?_, 0, hw.symm⟩
    rw [he]
    rcases Nat.lt_or_gt_of_ne h with h1 | h1
    · have : a < b := Nat.lt_of_not_le fun hle => by have := ln_mono b16_two hle; omega
      rw [decide_eq_true h1, decide_eq_true this]
    · have : b < a := Nat.lt_of_not_le fun hle => by have := ln_mono b16_two hle; omega
      rw [decide_eq_false (show ¬ ln b16 a < ln b16 b by omega), decide_eq_false (show ¬ a < b by omega)]
end Go.Proofs.YtifikcemcflgjaaGreat
namespace Go.Proofs.YtifikcemcflgjaaGreat
open Go.RowKit

theorem mul_digit16 {a b : Nat} (ha : a < 65536) (hb : b < 65536) : a * b ≤ 4294836225 := Nat.mul_le_mul (show a ≤ 65535 by omega) (show b ≤ 65535 by omega)
theorem mul_step16 {f g : Nat → Nat} {m i k x y c V : Nat} (hi : i + k < m) (hg : ∀ j, j < m → j ≠ i + k → g j = f j) (hu : g (i + k) = (x * y + f (i + k) + c) % b16) {s : Nat}
    (h : vs b16 f m + b16 ^ (i + k) * c = V + b16 ^ i * (x * s)) : vs b16 g m + b16 ^ (i + k + 1) * ((x * y + f (i + k) + c) / b16) = V + b16 ^ i * (x * (s + b16 ^ k * y)) := by
  have h1 := vs_set (B := b16) hi hg
  have h2 : b16 ^ (i + k) * ((x * y + f (i + k) + c) % b16) + b16 ^ (i + k) * (b16 * ((x * y + f (i + k) + c) / b16)) = b16 ^ (i + k) * (x * y + f (i + k) + c) := by rw [← Nat.mul_add, Nat.mod_add_div]
  have h3 : b16 ^ i * (x * (s + b16 ^ k * y)) = b16 ^ i * (x * s) + b16 ^ (i + k) * (x * y) := by
    rw [Nat.mul_add, Nat.mul_add, Nat.pow_add, Nat.mul_assoc (b16 ^ i) (b16 ^ k), Nat.mul_left_comm x (b16 ^ k) y]
  rw [hu] at h1
  rw [h3, Nat.pow_succ, Nat.mul_assoc]
  rw [Nat.mul_add, Nat.mul_add] at h2
  generalize b16 ^ (i + k) * (b16 * ((x * y + f (i + k) + c) / b16)) = z1 at *
  generalize b16 ^ (i + k) * ((x * y + f (i + k) + c) % b16) = z2 at *
  generalize b16 ^ (i + k) * (x * y) = z3 at *
  generalize b16 ^ (i + k) * f (i + k) = z4 at *
  generalize b16 ^ (i + k) * c = z5 at *
  generalize b16 ^ i * (x * s) = z6 at *
  omega


theorem Num16.of_rd {w : World} {A : Option Addr} {n : Nat} {f : Nat → Nat} (h : Rd w.heap.size .u16 w A n f) (hf : ∀ i, i < n → f i < 65536) : Num16 w A (vs b16 f n) := by
  have hl : ln b16 (vs b16 f n) ≤ n := (ln_le b16_two).2 (vs_lt hf)
  exact (h.shorter hl).congr fun i hi => (dgt_vs hf (by omega)).symm

/-- After the first i digits of a: the words are those of their product with b. -/
def MulSt16 (H a b m i : Nat) (wr : World) : Prop := ∃ f : Nat → Nat, Row wr H 48 .u16 m m f ∧ (∀ j, f j < 65536) ∧ vs b16 f m = vs b16 (dgt b16 a) i * b ∧ ∀ j, i + ln b16 b ≤ j → f j = 0
/-- Within digit i: k digits of b done, the carry c. -/
def MulIn16 (H a b m i k c : Nat) (wr : World) : Prop := ∃ f : Nat → Nat, Row wr H 48 .u16 m m f ∧ (∀ j, f j < 65536) ∧ vs b16 f m + b16 ^ (i + k) * c = vs b16 (dgt b16 a) i * b + b16 ^ i * (dgt b16 a i * vs b16 (dgt b16 b) k) ∧ c < 65536 ∧ ∀ j, i + ln b16 b ≤ j → f j = 0

theorem MulSt16.inner {H a b m i : Nat} {wr : World} (h : MulSt16 H a b m i wr) : MulIn16 H a b m i 0 0 wr := by
  obtain ⟨f, h1, h2, h3, h4⟩ := h
  exact ⟨f, h1, h2, by simpa [vs] using h3, by decide, h4⟩
theorem MulIn16.step {H a b m i k c : Nat} {wr : World} {f : Nat → Nat} (h1 : Row wr H 48 .u16 m m f) (h2 : ∀ j, f j < 65536)
    (h3 : vs b16 f m + b16 ^ (i + k) * c = vs b16 (dgt b16 a) i * b + b16 ^ i * (dgt b16 a i * vs b16 (dgt b16 b) k)) (h4 : c < 65536) (h5 : ∀ j, i + ln b16 b ≤ j → f j = 0)
    (hk : k < ln b16 b) (hm : i + ln b16 b < m) {u v : Int} (hu : u = ((dgt b16 a i : Nat) : Int) * (dgt b16 b k : Nat) + (f (i + k) : Nat) + (c : Nat)) (hv : v = u % 65536) :
    MulIn16 H a b m i (k + 1) ((u / 65536).toNat) (wr.setCell ⟨H, i + k, none⟩ (.int .u16 v)) := by
  have e : u = ((dgt b16 a i * dgt b16 b k + f (i + k) + c : Nat) : Int) := by rw [hu, Int.natCast_add, Int.natCast_add, Int.natCast_mul]
  have hp := mul_digit16 (dgt16_lt a i) (dgt16_lt b k)
  have hf := h2 (i + k)
  have ev : v = (((dgt b16 a i * dgt b16 b k + f (i + k) + c) % b16 : Nat) : Int) := by rw [hv, e]; rfl
  have et : (u / 65536).toNat = (dgt b16 a i * dgt b16 b k + f (i + k) + c) / b16 := by rw [e]; rfl
  rw [ev, et]
  refine ⟨fun j => if j = i + k then (dgt b16 a i * dgt b16 b k + f (i + k) + c) % b16 else f j, h1.set (by simp) fun j _ hj => by simp [hj], fun j => ?_, ?_, ?_, fun j hj => ?_⟩
  · by_cases hj : j = i + k
    · simp only [hj, if_true]; exact Nat.mod_lt _ (by decide)
    · simp only [hj, if_false]; exact h2 j
  · rw [vs_succ b16 (dgt b16 b) k]
    exact mul_step16 (by omega) (fun j _ hj => by simp [hj]) (by simp) h3
  · rw [Nat.div_lt_iff_lt_mul (by decide)]
    show _ < 65536 * 65536
    omega
  · simp only [show ¬ j = i + k by omega, if_false]; exact h5 j hj
theorem MulIn16.done {H a b m i c : Nat} {wr : World} (h : MulIn16 H a b m i (ln b16 b) c wr) (hm : i + ln b16 b < m) : MulSt16 H a b m (i + 1) (wr.setCell ⟨H, i + ln b16 b, none⟩ (.int .u16 (c : Int))) := by
  obtain ⟨f, h1, h2, h3, h4, h5⟩ := h
  refine ⟨fun j => if j = i + ln b16 b then c else f j, h1.set (by simp) fun j _ hj => by simp [hj], fun j => ?_, ?_, fun j hj => ?_⟩
  · by_cases hj : j = i + ln b16 b
    · simp only [hj, if_true]; exact h4
    · simp only [hj, if_false]; exact h2 j
  · have hs := vs_set (B := b16) (f := f) (g := fun j => if j = i + ln b16 b then c else f j) hm fun j _ hj => by simp [hj]
    rw [vs_dgt_ln b16_two] at h3
    rw [h5 _ (Nat.le_refl _)] at hs
    simp only [if_true] at hs
    rw [vs_succ, Nat.add_mul, Nat.mul_assoc, ← h3]
    omega
  · simp only [show ¬ j = i + ln b16 b by omega, if_false]; exact h5 j (by omega)

set_option linter.unusedSimpArgs false in
set_option maxRecDepth 100000 in
set_option maxHeartbeats 2000000 in
theorem rtimes_any (A B : Option Addr) (c d a b : Nat) (w : World) (ha : Num16 w A a) (hb : Num16 w B b) (hn : ln b16 a ≤ 1000000) (hm : ln b16 b ≤ 1000000) :
    Calls Tryz.prog 107 #[.slice A (ln b16 a) c, .slice B (ln b16 b) d] w (fun e w' => ∃ A' c', e = .returned (.slice A' (ln b16 (a * b)) c') ∧ Num16 w' A' (a * b) ∧ (∀ p, A' = some p → w.heap.size ≤ p.block) ∧ Below w.heap.size w w') := by
  have hmk := mk16 (ln b16 a + ln b16 b) (ln b16 a + ln b16 b) (Nat.le_refl _) (by omega)
  rw [show ((ln b16 a + ln b16 b : Nat) : Int) = (ln b16 a : Int) + ln b16 b by omega] at hmk
  go_enter Tryz.func107, Tryz.ntmps107
  have hws : IntKind.i64.wrap (((ln b16 a : Nat) : Int) + ((ln b16 b : Nat) : Int)) = ((ln b16 a : Nat) : Int) + ((ln b16 b : Nat) : Int) := by rw [IntKind.wrap_i64]; omega
  go_wp2_with fail
  clear hmk hws
  go_loopw [6] (fun i wr => ∃ k : Nat, k ≤ ln b16 a ∧ i = .int .i64 k ∧ MulSt16 w.heap.size a b (ln b16 a + ln b16 b) k wr ∧ Below w.heap.size w wr) (fun i _ => ln b16 a - (intOf i).toNat)
  case atStart => exact ⟨0, Nat.zero_le _, rfl, ⟨fun _ => 0, Row.made, fun _ => by show (0 : Nat) < 65536; decide, by rw [vs_zeros fun _ _ => rfl]; simp [vs], fun _ _ => rfl⟩, (Below.refl _ _).alloc (Nat.le_refl _) _⟩
  case round =>
    obtain ⟨i, hi, rfl, hst, hbel⟩ := hrel
    by_cases hlt : i < ln b16 a
    · obtain ⟨p, q, rfl, hp, hca⟩ := ha (by omega)
      have c0 := (hbel.cell (p := ⟨p, q + i, none⟩) hp).trans (hca i hlt)
      have hxi := dgt16_lt a i
      obtain ⟨wo, rfl⟩ : ∃ wo : World, wo = wr := ⟨_, rfl⟩
      go_wp2_with fail
      go_loopw [7, 8] (fun cy j wr => ∃ k y : Nat, k ≤ ln b16 b ∧ j = .int .i64 (k : Int) ∧ cy = .int .i64 (y : Int) ∧ MulIn16 w.heap.size a b (ln b16 a + ln b16 b) i k y wr ∧ Below w.heap.size w wr) (fun _ j _ => ln b16 b - (intOf j).toNat)
      case atStart => exact ⟨0, 0, Nat.zero_le _, rfl, rfl, hst.inner, hbel⟩
      case round =>
        obtain ⟨k, y, hk, rfl, rfl, hin, hbel2⟩ := hrel
        have c0' := (hbel2.cell (p := ⟨p, q + i, none⟩) hp).trans (hca i hlt)
        by_cases hkt : k < ln b16 b
        · obtain ⟨p', q', rfl, hp', hcb⟩ := hb (by omega)
          have c1 := (hbel2.cell (p := ⟨p', q' + k, none⟩) hp').trans (hcb k hkt)
          obtain ⟨f, h1, h2, h3, h4, h5⟩ := hin
          have c2 := h1.cell (i := i + k) (by omega)
          have c3 := h1.frozen (i + k)
          have hyk := dgt16_lt b k
          have hf := h2 (i + k)
          obtain ⟨P, hP⟩ : ∃ P, P = dgt b16 a i * dgt b16 b k := ⟨_, rfl⟩
          have hPl : P ≤ 4294836225 := by rw [hP]; exact mul_digit16 hxi hyk
          have hPI : ((dgt b16 a i : Nat) : Int) * ((dgt b16 b k : Nat) : Int) = (P : Int) := by rw [hP, Int.natCast_mul]
          obtain ⟨F, hF⟩ : ∃ F, f (i + k) = F := ⟨_, rfl⟩
          rw [hF] at hf c2
          obtain ⟨U, hU⟩ : ∃ U, U = y + P + F := ⟨_, rfl⟩
          have hUl : U ≤ 4294967295 := by omega
          have t0 : decide ((k : Int) < ((ln b16 b : Nat) : Int)) = true := decide_eq_true (by omega)
          have t1 : (k : Int) < ((ln b16 b : Nat) : Int) := by omega
          have t2 : (i : Int) < ((ln b16 a : Nat) : Int) := by omega
          have t3 : (i : Int) + (k : Int) < ((ln b16 a : Nat) : Int) + ((ln b16 b : Nat) : Int) := by omega
          have o1 : IntKind.i64.wrap ((dgt b16 a i : Nat) : Int) = ((dgt b16 a i : Nat) : Int) := by rw [IntKind.wrap_i64]; omega
          have o2 : IntKind.i64.wrap ((dgt b16 b k : Nat) : Int) = ((dgt b16 b k : Nat) : Int) := by rw [IntKind.wrap_i64]; omega
          have o3 : IntKind.i64.wrap (P : Int) = (P : Int) := by rw [IntKind.wrap_i64]; omega
          have o4 : IntKind.i64.wrap ((y : Int) + (P : Int)) = (y : Int) + (P : Int) := by rw [IntKind.wrap_i64]; omega
          have o5 : IntKind.i64.wrap (F : Int) = (F : Int) := by rw [IntKind.wrap_i64]; omega
          have o6 : IntKind.i64.wrap ((y : Int) + (P : Int) + (F : Int)) = (U : Int) := by rw [IntKind.wrap_i64]; omega
          have o7 : IntKind.i64.wrap ((i : Int) + (k : Int)) = (i : Int) + (k : Int) := by rw [IntKind.wrap_i64]; omega
          have H2 := Lib.hid h2
          have H3 := Lib.hid h3
          have H5 := Lib.hid h5
          have HU := Lib.hid hU
          have HP := Lib.hid hP
          have HF := Lib.hid hF
          clear h2 h3 h5 hP hF hU
          go_wp2_with fail
          go_quiet (fail)
          go_wp2_with fail
          go_roundw
          case rel =>
            have hs := MulIn16.step (H := w.heap.size) (a := a) (b := b) (m := ln b16 a + ln b16 b) (i := i) (k := k) (c := y) (wr := wr.drewN nq) (f := f) h1 H2.out H3.out h4 H5.out hkt (by omega) (u := (U : Int)) (v := (U : Int) % 65536) (by rw [HF.out, ← Int.natCast_mul, ← HP.out, HU.out]; omega) rfl
            rw [show ((U : Int) / 65536).toNat = U / 65536 by omega] at hs
            exact ⟨k + 1, U / 65536, by omega, by go_num, by congr 1, hs, (belowN hbel2 _).setCell (Nat.le_refl _) _⟩
          case measure => simp [intOf]; omega
        · obtain rfl : k = ln b16 b := by omega
          obtain ⟨f, h1, h2, h3, h4, h5⟩ := hin
          have c2 := h1.cell (i := i + ln b16 b) (by omega)
          have c3 := h1.frozen (i + ln b16 b)
          have hdone := MulIn16.done (H := w.heap.size) (a := a) (b := b) (m := ln b16 a + ln b16 b) (i := i) (c := y) (wr := wr) ⟨f, h1, h2, h3, h4, h5⟩ (by omega)
          have HD := Lib.hid hdone
          have t2 : (i : Int) < ((ln b16 a : Nat) : Int) := by omega
          have t3 : (i : Int) + ((ln b16 b : Nat) : Int) < ((ln b16 a : Nat) : Int) + ((ln b16 b : Nat) : Int) := by omega
          have o1 : IntKind.u16.wrap (y : Int) = (y : Int) := by rw [IntKind.wrap_u16]; omega
          have o7 : IntKind.i64.wrap ((i : Int) + ((ln b16 b : Nat) : Int)) = (i : Int) + ((ln b16 b : Nat) : Int) := by rw [IntKind.wrap_i64]; omega
          clear h2 h3 h5 hdone
          go_wp2_with fail
          go_roundw
          case rel => exact ⟨i + 1, by omega, by go_num, HD.out, hbel2.setCell (Nat.le_refl _) _⟩
          case measure => simp [intOf]; omega
    · obtain rfl : i = ln b16 a := by omega
      obtain ⟨f, h1, h2, h3, h4⟩ := hst
      have ht := rtrim_any wr.heap.size (some ⟨w.heap.size, 0, none⟩) _ (ln b16 a + ln b16 b) _ wr (h1.rd (Nat.le_refl _) h1.lt) (fun i _ => h2 i) (Nat.le_refl _) (by omega)
      have hnum := Num16.of_rd (h1.rd (Nat.le_refl _) h1.lt) (fun i _ => h2 i)
      rw [h3, vs_dgt_ln b16_two] at ht hnum
      have HT := Lib.hid ht
      have HNUM := Lib.hid hnum
      clear ht h2 h3 h4 hnum
      go_wp2_with fail
      refine HT.out.mono ?_
      rintro e w3 ⟨rfl, rfl⟩
      go_wp2_with fail
      go_ret
      exact ⟨_, _, rfl, HNUM.out, fun p hp => by injection hp with hp; rw [← hp]; exact Nat.le_refl _, hbel⟩
end Go.Proofs.YtifikcemcflgjaaGreat
