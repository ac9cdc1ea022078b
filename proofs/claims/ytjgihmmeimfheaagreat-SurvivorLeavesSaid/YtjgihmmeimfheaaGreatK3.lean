/-
  Several texts in one: Bits: 'or' of numbers whose bits lie apart is their sum. Moves of a walk through a drawn region, in short words.
-/
import Derived.Laws.BitsAllLaws
import Derived.WalkKit
import Derived.Test.YtjgihmmeimfheaaGreatProg
import Derived.Deep.RegionHeld
import Derived.OrdersIn
import Derived.WalkSpells
namespace Go.Proofs.YtjgihmmeimfheaaGreat
open Go

theorem nat_or_add {i a b : Nat} (hb : b < 2 ^ i) : 2 ^ i * a ||| b = 2 ^ i * a + b := (Nat.two_pow_add_eq_or_of_lt hb a).symm
theorem nat_or_add' {i a b : Nat} (hb : b < 2 ^ i) : b ||| 2 ^ i * a = b + 2 ^ i * a := by rw [Nat.or_comm, nat_or_add hb, Nat.add_comm]
theorem u32_or_add {a b : Nat} (ha : a < 65536) (hb : b < 65536) : bits .or .u32 (a : Int) ((65536 * b : Nat) : Int) = ((a + 65536 * b : Nat) : Int) := by
 rw [u32_or_nat a (65536 * b) (by omega) (by omega), show 65536 * b = 2 ^ 16 * b by rfl, nat_or_add' (by omega)]
theorem u32_or_zero {b : Nat} (hb : b < 4294967296) : bits .or .u32 0 (b : Int) = (b : Int) := by
 have := u32_or_nat 0 b (by omega) hb
 rw [Nat.zero_or] at this
 exact this
/-- Difference and borrow of 32 bits. -/
def subD (x y b : Nat) : Nat := (x + 4294967296 - y - b) % 4294967296
def subB (x y b : Nat) : Nat := if x < y + b then 1 else 0
theorem subB_le (x y b : Nat) : subB x y b ≤ 1 := by unfold subB; split <;> omega
theorem sub_eq {x y b : Nat} (hx : x < 4294967296) (hy : y < 4294967296) (hb : b ≤ 1) : x + 4294967296 * subB x y b = subD x y b + y + b := by
 unfold subD subB; split <;> omega
theorem subD_lt (x y b : Nat) : subD x y b < 4294967296 := Nat.mod_lt _ (by decide)
theorem bit_cases {p : Nat} (h : p ≤ 1) : p = 0 ∨ p = 1 := by omega
theorem sub_borrow {x y b : Nat} (hx : x < 4294967296) (hy : y < 4294967296) (hb : b ≤ 1) :
  (((4294967295 ^^^ x) &&& y) ||| ((4294967295 ^^^ (x ^^^ y)) &&& subD x y b)) / 2147483648 = subB x y b := by
 have e : ∀ n : Nat, n / 2147483648 = n >>> 31 := fun n => by rw [Nat.shiftRight_eq_div_pow]
 have hd := subD_lt x y b
 have h := sub_eq hx hy hb
 have hB := subB_le x y b
 have hxx : x >>> 31 = x / 2147483648 := (e x).symm
 have hyy : y >>> 31 = y / 2147483648 := (e y).symm
 have hdd : subD x y b >>> 31 = subD x y b / 2147483648 := (e _).symm
 rw [e, Nat.shiftRight_or_distrib, Nat.shiftRight_and_distrib, Nat.shiftRight_and_distrib, Nat.shiftRight_xor_distrib, Nat.shiftRight_xor_distrib, Nat.shiftRight_xor_distrib, hxx, hyy, hdd, show (4294967295 : Nat) >>> 31 = 1 by rfl]
 generalize hdN : subD x y b = d at *
 generalize hsN : subB x y b = s at *
 have hx1 : x / 2147483648 ≤ 1 := by omega
 have hy1 : y / 2147483648 ≤ 1 := by omega
 have hd1 : d / 2147483648 ≤ 1 := by omega
 rcases bit_cases hx1 with h1 | h1 <;> rcases bit_cases hy1 with h2 | h2 <;> rcases bit_cases hd1 with h3 | h3 <;> rw [h1, h2, h3] <;> simp <;> omega
theorem u32_max : IntKind.u32.max = ((4294967295 : Nat) : Int) := rfl
theorem sub_borrow_walk {x y b : Nat} (hx : x < 4294967296) (hy : y < 4294967296) (hb : b ≤ 1) :
  bits .or .u32 (bits .and .u32 (bits .xor .u32 IntKind.u32.max x) y) (bits .and .u32 (bits .xor .u32 IntKind.u32.max (bits .xor .u32 x y)) (((x : Int) - y - b) % 4294967296)) / 2147483648 = ((subB x y b : Nat) : Int) := by
 have ed : ((x : Int) - y - b) % 4294967296 = ((subD x y b : Nat) : Int) := by unfold subD; omega
 have hd := subD_lt x y b
 have hxy : x ^^^ y < 4294967296 := Nat.xor_lt_two_pow (n := 32) hx hy
 have h1 : 4294967295 ^^^ x < 4294967296 := Nat.xor_lt_two_pow (n := 32) (by decide) hx
 have h2 : 4294967295 ^^^ (x ^^^ y) < 4294967296 := Nat.xor_lt_two_pow (n := 32) (by decide) hxy
 rw [ed, u32_max, u32_xor_nat _ _ (by decide) hx, u32_xor_nat _ _ hx hy, u32_xor_nat _ _ (by decide) hxy, u32_and_nat _ _ h1 hy, u32_and_nat _ _ h2 hd,
  u32_or_nat _ _ (Nat.lt_of_le_of_lt Nat.and_le_right hy) (Nat.lt_of_le_of_lt Nat.and_le_right hd), ← sub_borrow hx hy hb]
 omega
theorem u64_or_add {a b : Nat} (ha : a < 4294967296) (hb : b < 4294967296) : bits .or .u64 ((4294967296 * a : Nat) : Int) (b : Int) = ((4294967296 * a + b : Nat) : Int) := by
 rw [u64_or_nat _ _ (by omega) (by omega), show 4294967296 * a = 2 ^ 32 * a by rfl, nat_or_add (by omega)]
end Go.Proofs.YtjgihmmeimfheaaGreat
namespace Go.Proofs.YtjgihmmeimfheaaGreat

section
variable {P : Program} {ops : Array Oper} {Q : Exit → Act → World → Prop} {md : Region.Mode} {S : World → Prop} {oi : Oper} {v : Value} {fuel : Nat} {listed : Array Bool} {a : Act} {w : World}
/-- An operation that yields its value in every world that holds the facts is taken first. -/
theorem tk (i : Nat) (h : wpAnyH P md ops Q S fuel (listed.setIfInBounds i true) (a.put oi.dst v) w) (hi : ops[i]? = some oi := by exact rfl)
  (hs : Region.noSelect ops = true := by kernel_rfl) (hf : Region.free md ops listed i = true := by kernel_rfl) (hr : (Region.ready md ops listed).contains i = true := by kernel_rfl)
  (hQ : ∀ c a w, Q (.panic c) (a.put oi.dst v) w → Q (.panic c) a w := by exact fun _ _ _ h => h)
  (hw : Region.wanted oi (yielded ops a.tmps) = true := by rfl)
  (hy : ∀ w, S w → (execOp a.eval oi).run P w = .ok (.value v) w := by intro w hSw; (try dsimp only at hSw); first | (go_simp; done) | (go_simp; with_reducible rfl))
  (hS : S w := by assumption) : wpAnyH P md ops Q S (fuel + 1) listed a w := wpAnyH_take hi hs hf hr hQ (Or.inl ⟨hw, hy⟩) hS h
/-- An operation whose guard is not met is passed. -/
theorem tu (i : Nat) (h : wpAnyH P md ops Q S fuel (listed.setIfInBounds i true) (a.put oi.dst undef) w) (hi : ops[i]? = some oi := by exact rfl)
  (hs : Region.noSelect ops = true := by kernel_rfl) (hf : Region.free md ops listed i = true := by kernel_rfl) (hr : (Region.ready md ops listed).contains i = true := by kernel_rfl)
  (hQ : ∀ c a w, Q (.panic c) (a.put oi.dst undef) w → Q (.panic c) a w := by exact fun _ _ _ h => h)
  (hw : Region.wanted oi (yielded ops a.tmps) = false := by rfl)
  (hS : S w := by assumption) : wpAnyH P md ops Q S (fuel + 1) listed a w := wpAnyH_take hi hs hf hr hQ (Or.inr ⟨hw, rfl⟩) hS h
/-- One operation comes up. -/
theorem r1 (i : Nat) (h : ∀ K' : Act → World → Prop, Shut (∀ a w, S w → (S w → wpAnyH P md ops Q S fuel (listed.setIfInBounds i true) a w) → K' a w) → if Region.wanted oi (yielded ops a.tmps) = true then Oper.wp P oi a w K' Q else K' (a.put oi.dst undef) w)
  (hr : Region.ready md ops listed = [i] := by kernel_rfl) (hi : ops[i]? = some oi := by exact rfl) : wpAnyH P md ops Q S (fuel + 1) listed a w :=
 wpAnyH_ready hr (by simp) (AllReadyH.cons hi h AllReadyH.nil)
end
/-- What is in a slot behind a move. -/
theorem PL : (∀ (a : Act) (d : Tmp) (v : Value), a.put (some d) v = { a with tmps := a.tmps.setIfInBounds d v }) ∧ (∀ (a : Act) (v : Value), a.put none v = a) ∧
  (∀ (l : List Value) (i : Nat) (v : Value), l.toArray.setIfInBounds i v = (l.set i v).toArray) ∧ (∀ (l : List Bool) (i : Nat) (v : Bool), l.toArray.setIfInBounds i v = (l.set i v).toArray) ∧
  (∀ (x : Value) (l : List Value) (v : Value), (x :: l).set 0 v = v :: l) ∧ (∀ (x : Value) (l : List Value) (i : Nat) (v : Value), (x :: l).set (i + 1) v = x :: l.set i v) ∧
  (∀ (x : Bool) (l : List Bool) (v : Bool), (x :: l).set 0 v = v :: l) ∧ (∀ (x : Bool) (l : List Bool) (i : Nat) (v : Bool), (x :: l).set (i + 1) v = x :: l.set i v) ∧
  (∀ (l : List Oper) (i : Nat) (h : i < l.toArray.size), l.toArray[i] = l[i]'(by simpa using h)) ∧ (∀ (x : Oper) (l : List Oper) (i : Nat) (h : i + 1 < (x :: l).length), (x :: l)[i + 1] = l[i]'(by simpa using h)) ∧
  (∀ (x : Oper) (l : List Oper) (h : 0 < (x :: l).length), (x :: l)[0] = x) :=
 ⟨fun _ _ _ => rfl, fun _ _ => rfl, fun _ _ _ => List.setIfInBounds_toArray .., fun _ _ _ => List.setIfInBounds_toArray .., fun _ _ _ => rfl, fun _ _ _ _ => rfl, fun _ _ _ => rfl, fun _ _ _ _ => rfl, fun _ _ _ => rfl, fun _ _ _ _ => rfl, fun _ _ _ => rfl⟩
end Go.Proofs.YtjgihmmeimfheaaGreat
