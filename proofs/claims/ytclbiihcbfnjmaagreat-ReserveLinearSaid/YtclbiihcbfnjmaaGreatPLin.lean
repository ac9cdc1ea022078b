/-
  Parts.
-/
import Derived.Test.YtclbiihcbfnjmaaGreatK25
import Derived.Test.YtclbiihcbfnjmaaGreatIR
namespace Go.Proofs.YtclbiihcbfnjmaaGreat
open Go.RowKit

abbrev Ct.liveOf (x : Ct) : Ct := ⟨x.E, x.Y, x.T, x.p, x.A, x.n, x.c, x.l, none, 0, 0, x.k⟩
abbrev Ct.deadOf (x : Ct) : Ct := ⟨x.E, x.Y, x.T, x.p, none, 0, 0, x.l, x.B, x.m, x.d, x.k⟩
abbrev Ct.twice (x : Ct) (h : FH) (A : Option Addr) (c : Nat) (B : Option Addr) (d : Nat) : Ct := ⟨x.E, x.Y, x.T, h, A, x.n, c, fun k => 2 * x.l k, B, x.m, d, fun k => 2 * x.k k⟩
theorem fl_div {N D : Int} {k : Nat} (h : 0 < D) (h1 : ln b16 N.natAbs ≤ k) (h2 : ln b16 D.natAbs ≤ k) : fl (Rat.divInt N D) ≤ k := by
 obtain ⟨e1, e2⟩ := low_num (n := N) h;rw [fl_le];refine ⟨?_, ?_⟩
 · rw [e1]; exact Nat.le_trans (ln_mono b16_two (Int.natAbs_ediv_le_natAbs _ _)) h1
 ·
  have e3 : (Rat.divInt N D).den = (D / ((Nat.gcd N.natAbs D.natAbs : Nat) : Int)).natAbs := by omega
  rw [e3]; exact Nat.le_trans (ln_mono b16_two (Int.natAbs_ediv_le_natAbs _ _)) h2
theorem fl_z {a : Rat} {i : Nat} (ha : fl a ≤ i) : ln b16 a.num.natAbs ≤ i ∧ ln b16 ((a.den : Int)).natAbs ≤ i := by
 rw [Int.natAbs_natCast]; exact fl_le.1 ha
theorem den_posZ (a : Rat) : 0 < (a.den : Int) := by have := a.den_pos; omega
theorem fl_times {a b : Rat} {i j : Nat} (ha : fl a ≤ i) (hb : fl b ≤ j) : fl (a * b) ≤ i + j := by
 obtain ⟨a1, a2⟩ := fl_z ha;obtain ⟨b1, b2⟩ := fl_z hb;rw [← mul_low];exact fl_div (Int.mul_pos (den_posZ a) (den_posZ b)) (ln_mulZ a1 b1) (ln_mulZ a2 b2)
theorem fl_le2 {a : Rat} {i j : Nat} (h : fl a ≤ i) (h2 : i ≤ j) : fl a ≤ j := Nat.le_trans h h2
theorem Ct.flp {x : Ct} {b : Bh} {w : World} (h : x.rd w) (ho : x.ok b) : fl x.p.q ≤ 5 := by
 obtain ⟨-, -, h1, h2⟩ := Ct.prem h ho
 have hb : ∀ {n : Nat}, n ≤ b16 ^ 4 → ln b16 n ≤ 5 := fun hn => (ln_le b16_two).2 (Nat.lt_of_le_of_lt hn (by decide))
 exact fl_le.2 ⟨hb h1, hb h2⟩
theorem amts_nil (l : Nat → Int) : Amts 0 l := ⟨by decide, fun _ h => absurd h (Nat.not_lt_zero _)⟩
section
variable {x : Ct} {b : Bh} {w : World}
theorem Ct.liveOf_rd (h : x.rd w) : x.liveOf.rd w := ⟨h.1, h.2.1, RdI.nil none⟩
theorem Ct.deadOf_rd (h : x.rd w) : x.deadOf.rd w := ⟨h.1, RdI.nil none, h.2.2⟩
theorem Ct.liveOf_bd (h : x.bd) : x.liveOf.bd := ⟨h.1, h.2.1, h.2.2.1, Nat.zero_le _⟩
theorem Ct.deadOf_bd (h : x.bd) : x.deadOf.bd := ⟨h.1, h.2.1, Nat.zero_le _, h.2.2.2⟩
theorem Ct.liveOf_ok (h : x.ok b) : x.liveOf.ok b := ⟨h.1, h.2.1, h.2.2.1, h.2.2.2.1, h.2.2.2.2.1, amts_nil _⟩
theorem Ct.deadOf_ok (h : x.ok b) : x.deadOf.ok b := ⟨h.1, h.2.1, h.2.2.1, h.2.2.2.1, amts_nil _, h.2.2.2.2.2⟩
theorem ben_parts {N t : Nat} (ht : t ≤ N) : b.ben x N t = b.ben x.liveOf N t + b.ben x.deadOf N t := by
 have h := va_lin b.v (b.rt x.E x.Y) N 1 1 (L := amt x.l x.n) (K := x.K) (L1 := amt x.l x.n) (K1 := fun _ => 0) (L2 := fun _ => 0) (K2 := x.K) (fun n _ => by grind) (fun n _ => by grind) ht;have e1 : b.ben x.liveOf N t = va b.v (b.rt x.E x.Y) N (amt x.l x.n) (fun _ => 0) t := va_congr _ _ _ (fun _ _ => rfl) (fun _ _ => by show amt x.k 0 _ = 0; unfold amt; rw [if_neg (Nat.not_lt_zero _)]) ht;have e2 : b.ben x.deadOf N t = va b.v (b.rt x.E x.Y) N (fun _ => 0) x.K t := va_congr _ _ _ (fun _ _ => by show amt x.l 0 _ = 0; unfold amt; rw [if_neg (Nat.not_lt_zero _)]) (fun _ _ => rfl) ht;rw [e1, e2];unfold Bh.ben;rw [h]
 grind
theorem amt_two (l : Nat → Int) (n k : Nat) : amt (fun j => 2 * l j) n k = 2 * amt l n k := by
 unfold amt
 split
 · rw [Rat.intCast_mul]; rfl
 · grind
theorem val_twice {N t : Nat} (ht : t ≤ N) {h : FH} {A B : Option Addr} {c d : Nat} (hq : h.q = x.p.q * 2) : b.val (x.twice h A c B d) N t = b.val x N t + b.val x N t := by
 have e := va_lin b.v (b.rt x.E x.Y) N 2 0 (L := (x.twice h A c B d).L) (K := (x.twice h A c B d).K) (L1 := x.L) (K1 := x.K) (L2 := x.L) (K2 := x.K) (fun n _ => by
  show amt (fun j => 2 * x.l j) x.n n - pay x.T.toNat h.q n = 2 * (amt x.l x.n n - pay x.T.toNat x.p.q n) + 0 * _;rw [amt_two, hq];unfold pay
  split <;> grind) (fun n _ => by
  show amt (fun j => 2 * x.k j) x.m n = 2 * amt x.k x.m n + 0 * _;rw [amt_two]
  grind) ht
 show va b.v (b.rt x.E x.Y) N (x.twice h A c B d).L (x.twice h A c B d).K t = _;rw [e];unfold Bh.val
 grind
end
end Go.Proofs.YtclbiihcbfnjmaaGreat
