/-
  Several texts in one: Lengths of sums and products; usable at one, two and three fractions. The order of fractions, in plain words. The value of a decimal numeral. The walk of whole.timesShort. The walk of whole.Parse. The walks of frac.Parse at two texts that are not in lowest terms.
-/
import Derived.Test.YtifikcemcflgjaaGreatK9
import Derived.Lib.ItoaNum
import Derived.Test.YtifikcemcflgjaaGreatK1
import Derived.Test.YtifikcemcflgjaaGreatK4
import Derived.Deep.CutRange
import Derived.WalkSpells
import Derived.Test.YtifikcemcflgjaaGreatK8
namespace Go.Proofs.YtifikcemcflgjaaGreat
open Go.RowKit

theorem fl_div {N D : Int} {k : Nat} (h : 0 < D) (h1 : ln b16 N.natAbs ≤ k) (h2 : ln b16 D.natAbs ≤ k) : fl (Rat.divInt N D) ≤ k := by
  obtain ⟨e1, e2⟩ := low_num (n := N) h
  rw [fl_le]
  refine ⟨?_, ?_⟩
  · rw [e1]; exact Nat.le_trans (ln_mono b16_two (Int.natAbs_ediv_le_natAbs _ _)) h1
  · have e3 : (Rat.divInt N D).den = (D / ((Nat.gcd N.natAbs D.natAbs : Nat) : Int)).natAbs := by omega
    rw [e3]; exact Nat.le_trans (ln_mono b16_two (Int.natAbs_ediv_le_natAbs _ _)) h2
theorem fl_z {a : Rat} {i : Nat} (ha : fl a ≤ i) : ln b16 a.num.natAbs ≤ i ∧ ln b16 ((a.den : Int)).natAbs ≤ i := by
  rw [Int.natAbs_natCast]; exact fl_le.1 ha
theorem den_posZ (a : Rat) : 0 < (a.den : Int) := by have := a.den_pos; omega
theorem fl_plus {a b : Rat} {i j : Nat} (ha : fl a ≤ i) (hb : fl b ≤ j) : fl (a + b) ≤ i + j + 1 := by
  obtain ⟨a1, a2⟩ := fl_z ha
  obtain ⟨b1, b2⟩ := fl_z hb
  rw [← add_low]
  refine fl_div (Int.mul_pos (den_posZ a) (den_posZ b)) (ln_addZ (m := i + j) (ln_mulZ a1 b2) (Nat.le_trans (ln_mulZ b1 a2) (by omega))) (Nat.le_trans (ln_mulZ a2 b2) (by omega))
theorem fl_minus {a b : Rat} {i j : Nat} (ha : fl a ≤ i) (hb : fl b ≤ j) : fl (a - b) ≤ i + j + 1 := by
  obtain ⟨a1, a2⟩ := fl_z ha
  obtain ⟨b1, b2⟩ := fl_z hb
  rw [← sub_low]
  refine fl_div (Int.mul_pos (den_posZ a) (den_posZ b)) (ln_addZ (m := i + j) (ln_mulZ a1 b2) (by rw [Int.natAbs_neg]; exact Nat.le_trans (ln_mulZ b1 a2) (by omega))) (Nat.le_trans (ln_mulZ a2 b2) (by omega))
theorem fl_times {a b : Rat} {i j : Nat} (ha : fl a ≤ i) (hb : fl b ≤ j) : fl (a * b) ≤ i + j := by
  obtain ⟨a1, a2⟩ := fl_z ha
  obtain ⟨b1, b2⟩ := fl_z hb
  rw [← mul_low]
  exact fl_div (Int.mul_pos (den_posZ a) (den_posZ b)) (ln_mulZ a1 b1) (ln_mulZ a2 b2)
theorem fl_over {a b : Rat} {i j : Nat} (ha : fl a ≤ i) (hb : fl b ≤ j) (h0 : b.num ≠ 0) : fl (a / b) ≤ i + j := by
  obtain ⟨a1, a2⟩ := fl_z ha
  obtain ⟨b1, b2⟩ := fl_z hb
  rw [← div_low]
  rcases Int.lt_trichotomy b.num 0 with h | h | h
  · rw [← low_neg]
    refine fl_div ?_ (by rw [Int.natAbs_neg]; exact ln_mulZ a1 b2) (by rw [Int.natAbs_neg]; exact ln_mulZ a2 b1)
    rw [← Int.mul_neg]
    exact Int.mul_pos (den_posZ a) (by omega)
  · exact absurd h h0
  · exact fl_div (Int.mul_pos (den_posZ a) h) (ln_mulZ a1 b2) (ln_mulZ a2 b1)
theorem fl_le2 {a : Rat} {i j : Nat} (h : fl a ≤ i) (h2 : i ≤ j) : fl a ≤ j := Nat.le_trans h h2
/-- Three fractions in a row. -/
def sel3 (a b c : Fc) (k : Nat) : Fc := if k = 0 then a else if k = 1 then b else c
theorem rowC3 {w : World} {T : TypeId} {g n : Nat} {a b c : Fc} {cs : Array Value} (hB : Blk T g cs w)
    (hc : ∀ k, k < n → cs[k * 4]? = some (.bool (sel3 a b c k).s) ∧ cs[k * 4 + 1]? = some (.slice (sel3 a b c k).A (sel3 a b c k).n (sel3 a b c k).c) ∧ cs[k * 4 + 2]? = some (.bool (sel3 a b c k).t) ∧ cs[k * 4 + 3]? = some (.slice (sel3 a b c k).B (sel3 a b c k).m (sel3 a b c k).d))
    (hr : ∀ k, k < n → (sel3 a b c k).rd w) : RowC g 0 n (sel3 a b c) w := ⟨hB.lt, fun k hk => by
  obtain ⟨h1, h2, h3, h4⟩ := hc k hk
  refine ⟨?_, hr k hk⟩
  unfold Fc.cells
  simp only [Nat.zero_add]
  exact ⟨(hB.cell _).trans h1, (hB.cell _).trans h2, (hB.cell _).trans h3, (hB.cell _).trans h4⟩⟩
def UseC (P : Prop) (w : World) (e : Ending) (w' : World) : Prop := ∃ v, e = .returned (.bool v) ∧ (v = true → P) ∧ Below w.heap.size w w'
theorem usable3 (a b c : Fc) (w : World) (ra : a.rd w) (rb : b.rd w) (rc : c.rd w) :
    Calls Tryz.prog 28 #[.slice (some ⟨w.heap.size, 0, none⟩) 3 3] (w.alloc (.cells #[.bool a.s, .slice a.A a.n a.c, .bool a.t, .slice a.B a.m a.d, .bool b.s, .slice b.A b.n b.c, .bool b.t, .slice b.B b.m b.d, .bool c.s, .slice c.A c.n c.c, .bool c.t, .slice c.B c.m c.d] 26)) (UseC (a.us ∧ b.us ∧ c.us) w) := by
  have hb : ∀ o, Below w.heap.size w (w.alloc o) := fun o => (Below.refl _ _).alloc (Nat.le_refl _) _
  refine (usable_v2 w.heap.size 0 3 3 (sel3 a b c) _ (by decide) (rowC3 (Blk.new w 26 _) ?_ ?_)).mono ?_
  · intro k hk
    rcases (show k = 0 ∨ k = 1 ∨ k = 2 by omega) with rfl | rfl | rfl <;> exact ⟨rfl, rfl, rfl, rfl⟩
  · intro k hk
    rcases (show k = 0 ∨ k = 1 ∨ k = 2 by omega) with rfl | rfl | rfl
    · exact FRd.below ra (hb _)
    · exact FRd.below rb (hb _)
    · exact FRd.below rc (hb _)
  · rintro e w' ⟨v, rfl, hv, hbb⟩
    exact ⟨v, rfl, fun h => ⟨hv h 0 (by decide), hv h 1 (by decide), hv h 2 (by decide)⟩, (hb _).trans (hbb.mono (hb _).size)⟩
theorem usable2 (a b : Fc) (w : World) (ra : a.rd w) (rb : b.rd w) :
    Calls Tryz.prog 28 #[.slice (some ⟨w.heap.size, 0, none⟩) 2 2] (w.alloc (.cells #[.bool a.s, .slice a.A a.n a.c, .bool a.t, .slice a.B a.m a.d, .bool b.s, .slice b.A b.n b.c, .bool b.t, .slice b.B b.m b.d] 26)) (UseC (a.us ∧ b.us) w) := by
  have hb : ∀ o, Below w.heap.size w (w.alloc o) := fun o => (Below.refl _ _).alloc (Nat.le_refl _) _
  refine (usable_v2 w.heap.size 0 2 2 (sel3 a b b) _ (by decide) (rowC3 (Blk.new w 26 _) ?_ ?_)).mono ?_
  · intro k hk
    rcases (show k = 0 ∨ k = 1 by omega) with rfl | rfl <;> exact ⟨rfl, rfl, rfl, rfl⟩
  · intro k hk
    rcases (show k = 0 ∨ k = 1 by omega) with rfl | rfl
    · exact FRd.below ra (hb _)
    · exact FRd.below rb (hb _)
  · rintro e w' ⟨v, rfl, hv, hbb⟩
    exact ⟨v, rfl, fun h => ⟨hv h 0 (by decide), hv h 1 (by decide)⟩, (hb _).trans (hbb.mono (hb _).size)⟩
theorem usable1 (a : Fc) (w : World) (ra : a.rd w) :
    Calls Tryz.prog 28 #[.slice (some ⟨w.heap.size, 0, none⟩) 1 1] (w.alloc (.cells #[.bool a.s, .slice a.A a.n a.c, .bool a.t, .slice a.B a.m a.d] 26)) (UseC a.us w) := by
  have hb : ∀ o, Below w.heap.size w (w.alloc o) := fun o => (Below.refl _ _).alloc (Nat.le_refl _) _
  refine (usable_v2 w.heap.size 0 1 1 (sel3 a a a) _ (by decide) (rowC3 (Blk.new w 26 _) ?_ ?_)).mono ?_
  · intro k hk
    obtain rfl : k = 0 := by omega
    exact ⟨rfl, rfl, rfl, rfl⟩
  · intro k hk
    obtain rfl : k = 0 := by omega
    exact FRd.below ra (hb _)
  · rintro e w' ⟨v, rfl, hv, hbb⟩
    exact ⟨v, rfl, fun h => hv h 0 (by decide), (hb _).trans (hbb.mono (hb _).size)⟩
theorem short2 (a b : Fc) (most : Int) (w : World) (ra : a.rd w) (rb : b.rd w) :
    Calls Tryz.prog 12 #[.int .i64 most, .slice (some ⟨w.heap.size, 0, none⟩) 2 2] (w.alloc (.cells #[.bool a.s, .slice a.A a.n a.c, .bool a.t, .slice a.B a.m a.d, .bool b.s, .slice b.A b.n b.c, .bool b.t, .slice b.B b.m b.d] 26)) (UseC (a.sh most ∧ b.sh most) w) := by
  have hb : ∀ o, Below w.heap.size w (w.alloc o) := fun o => (Below.refl _ _).alloc (Nat.le_refl _) _
  refine (short_v w.heap.size 0 2 2 (sel3 a b b) _ most (by decide) (rowC3 (Blk.new w 26 _) ?_ ?_)).mono ?_
  · intro k hk
    rcases (show k = 0 ∨ k = 1 by omega) with rfl | rfl <;> exact ⟨rfl, rfl, rfl, rfl⟩
  · intro k hk
    rcases (show k = 0 ∨ k = 1 by omega) with rfl | rfl
    · exact FRd.below ra (hb _)
    · exact FRd.below rb (hb _)
  · rintro e w' ⟨v, rfl, hv, hbb⟩
    exact ⟨v, rfl, fun h => ⟨hv h 0 (by decide), hv h 1 (by decide)⟩, (hb _).trans (hbb.mono (hb _).size)⟩
/-- A usable fraction is a number with parts of at most 40 limbs. -/
theorem us_fv {s t : Bool} {A B : Option Addr} {n c m d : Nat} {f g : Nat → Nat} {w : World} (h : (Fc.mk s A n c f t B m d g).us) (hr : FRd w A n f B m g) : ∃ q : Rat, FV w q s A n t B m ∧ fl q ≤ 40 := by
  obtain ⟨⟨h1, h2⟩, h3⟩ := h
  dsimp only at h1 h2
  obtain ⟨q, hq, -, -, -⟩ := okF_fv hr h3
  refine ⟨q, hq, fl_le.2 ⟨?_, ?_⟩⟩
  · rw [← hq.1.len]; omega
  · have := hq.2.len
    rw [Int.natAbs_natCast] at this
    rw [← this]; omega
theorem FRd.stable (A : Option Addr) (n : Nat) (f : Nat → Nat) (B : Option Addr) (m : Nat) (g : Nat → Nat) : Stable (fun w => FRd w A n f B m g) := fun _ _ hb h => h.below hb
theorem Env.frd {w W : World} {P : World → Prop} {A B : Option Addr} {n m : Nat} {f g : Nat → Nat} (h : Env w P W) (hr : FRd W A n f B m g) : Env w (fun V => P V ∧ FRd V A n f B m g) W := h.and (FRd.stable A n f B m g) hr
end Go.Proofs.YtifikcemcflgjaaGreat
namespace Go.Proofs.YtifikcemcflgjaaGreat
open Go.RowKit

theorem cmpQ_val (a b : Rat) : cmpQ a b = if a < b then -1 else if a = b then 0 else 1 := by
  unfold cmpQ cmpZ
  simp only [← cmp_lt, ← cmp_eq]
  generalize a.num * (b.den : Int) = x
  generalize b.num * (a.den : Int) = y
  grind
theorem cmpQ_b (a b : Rat) : -1 ≤ cmpQ a b ∧ cmpQ a b ≤ 1 := by
  rw [cmpQ_val]; split
  · omega
  · split <;> omega
theorem cmpQ_swap (a b : Rat) : cmpQ b a = -cmpQ a b := by
  rw [cmpQ_val, cmpQ_val]
  split <;> split <;> (try split) <;> first | rfl | grind
theorem cmpQ_less (a b : Rat) : cmpQ (a - b) ((0 : Int) : Rat) = cmpQ a b := by
  rw [cmpQ_val, cmpQ_val]
  have h0 : ((0 : Int) : Rat) = 0 := rfl
  rw [h0]
  split <;> split <;> (try split) <;> (try split) <;> first | rfl | grind
theorem cmpQ_plus (a b c : Rat) : cmpQ (a + c) (b + c) = cmpQ a b := by
  rw [cmpQ_val, cmpQ_val]
  split <;> split <;> (try split) <;> (try split) <;> first | rfl | grind
theorem cmpQ_trans {a b c : Rat} (h : cmpQ a b = cmpQ b c) : cmpQ a c = cmpQ a b := by
  rw [cmpQ_val, cmpQ_val] at h
  rw [cmpQ_val, cmpQ_val]
  grind
theorem cmpQ_times (a b c : Rat) : cmpQ (a * c) (b * c) = cmpQ a b * cmpQ c ((0 : Int) : Rat) := by
  have h0 : ((0 : Int) : Rat) = 0 := rfl
  rw [h0, cmpQ_val, cmpQ_val, cmpQ_val]
  rcases (show a < b ∨ a = b ∨ b < a by grind) with h | rfl | h <;> rcases (show c < 0 ∨ c = 0 ∨ 0 < c by grind) with k | rfl | k
  · have := Rat.mul_pos (show (0 : Rat) < b - a by grind) (show (0 : Rat) < -c by grind)
    grind
  · grind
  · have := Rat.mul_pos (show (0 : Rat) < b - a by grind) k
    grind
  · grind
  · grind
  · grind
  · have := Rat.mul_pos (show (0 : Rat) < a - b by grind) (show (0 : Rat) < -c by grind)
    grind
  · grind
  · have := Rat.mul_pos (show (0 : Rat) < a - b by grind) k
    grind
end Go.Proofs.YtifikcemcflgjaaGreat
namespace Go.Proofs.YtifikcemcflgjaaGreat

/-- The value of a list of digits. -/
def pv (l : List UInt8) : Nat := l.foldl (fun s c => s * 10 + (c.toNat - 48)) 0
def isDg (c : UInt8) : Bool := decide (48 ≤ c.toNat) && decide (c.toNat ≤ 57)
theorem pv_nil : pv [] = 0 := rfl
theorem pv_snoc (l : List UInt8) (c : UInt8) : pv (l ++ [c]) = pv l * 10 + (c.toNat - 48) := by simp [pv]
theorem pv_append (l m : List UInt8) : pv (l ++ m) = pv l * 10 ^ m.length + pv m := by
  rw [← List.reverse_reverse m]
  generalize m.reverse = r
  induction r with
  | nil => simp [pv]
  | cons c r ih =>
    rw [List.reverse_cons, ← List.append_assoc, pv_snoc, pv_snoc, ih, List.length_append, List.length_singleton, Nat.pow_succ, Nat.add_mul, ← Nat.mul_assoc, Nat.add_assoc]
theorem pv_lt (l : List UInt8) (h : ∀ c ∈ l, c.toNat ≤ 57) : pv l < 10 ^ l.length := by
  rw [← List.reverse_reverse l] at h ⊢
  generalize l.reverse = r at h ⊢
  induction r with
  | nil => simp [pv]
  | cons c r ih =>
    rw [List.reverse_cons] at h ⊢
    have h1 := ih fun d hd => h d (by simp [List.mem_reverse.1 hd])
    have h2 := h c (by simp)
    rw [pv_snoc, List.length_append, List.length_singleton, Nat.pow_succ]
    have h3 : (pv r.reverse + 1) * 10 ≤ 10 ^ r.reverse.length * 10 := Nat.mul_le_mul_right _ h1
    omega
theorem ofNat_dg {k : Nat} (h : k < 10) : (UInt8.ofNat (48 + k)).toNat = 48 + k := by rw [UInt8.toNat_ofNat']; omega
theorem dec_dg (u : Nat) : ∀ c ∈ Lib.decDigits u, 48 ≤ c.toNat ∧ c.toNat ≤ 57 := by
  intro c hc
  rw [Lib.decDigits_eq] at hc
  obtain ⟨t, -, rfl⟩ := List.mem_map.1 hc
  unfold Lib.dg
  rw [ofNat_dg (Nat.mod_lt _ (by decide))]
  have := Nat.mod_lt (u / 10 ^ (Lib.nDigits u - 1 - t)) (show 0 < 10 by decide)
  omega
theorem pv_dec (u : Nat) : pv (Lib.decDigits u) = u := by
  induction u using Nat.strongRecOn with
  | _ u ih =>
    rw [Lib.decDigits]
    by_cases h : u < 10
    · rw [dif_pos h]
      show 0 * 10 + _ = _
      rw [ofNat_dg h]; omega
    · rw [dif_neg h, pv_snoc, ih (u / 10) (by omega), ofNat_dg (Nat.mod_lt _ (by decide))]; omega
theorem dec_head_pos {u : Nat} (h : 0 < u) : (Lib.decDigits u).head? ≠ some 48 := by
  induction u using Nat.strongRecOn with
  | _ u ih =>
    rw [Lib.decDigits]
    by_cases h10 : u < 10
    · rw [dif_pos h10]
      simp only [List.head?_cons, ne_eq, Option.some.injEq]
      intro e
      have := congrArg UInt8.toNat e
      rw [ofNat_dg h10] at this
      have e48 : (48 : UInt8).toNat = 48 := rfl
      omega
    · rw [dif_neg h10, List.head?_append]
      have := ih (u / 10) (by omega) (by omega)
      cases hd : (Lib.decDigits (u / 10)).head? with
      | none => have h0 : Lib.decDigits (u / 10) = [] := by simpa using hd
                have := Lib.nDigits_pos (u / 10); rw [← Lib.decDigits_length, h0] at this; simp at this
      | some c => rw [hd] at this; simpa using this
theorem u8_of {c : UInt8} (h1 : 48 ≤ c.toNat) (h2 : c.toNat ≤ 57) : UInt8.ofNat (48 + (c.toNat - 48)) = c := by
  apply UInt8.toNat.inj
  rw [ofNat_dg (by omega)]; omega
/-- A text without a leading zero is the numeral of its value. -/
theorem dec_pv (l : List UInt8) (hd : ∀ c ∈ l, 48 ≤ c.toNat ∧ c.toNat ≤ 57) (h0 : l.head? ≠ some 48) (hl : l ≠ []) : Lib.decDigits (pv l) = l ∧ 0 < pv l := by
  rw [← List.reverse_reverse l] at hd h0 hl ⊢
  generalize l.reverse = r at hd h0 hl ⊢
  induction r with
  | nil => simp at hl
  | cons c r ih =>
    rw [List.reverse_cons] at hd h0 ⊢
    have hc := hd c (by simp)
    rw [pv_snoc]
    by_cases hr : r.reverse = []
    · rw [hr] at h0 ⊢
      have hne : c ≠ 48 := by simpa using h0
      have hp : c.toNat ≠ 48 := fun e => hne (UInt8.toNat.inj e)
      have e0 : pv [] * 10 + (c.toNat - 48) = c.toNat - 48 := by simp [pv]
      rw [e0, Lib.decDigits_one (by omega), u8_of hc.1 hc.2]
      exact ⟨rfl, by omega⟩
    · obtain ⟨h1, h2⟩ := ih (fun d hd' => hd d (by simp [List.mem_reverse.1 hd'])) (by
        rw [List.head?_append] at h0
        cases hh : r.reverse.head? with
        | none => simp at hh hr; exact absurd hh hr
        | some d => rw [hh] at h0; simpa using h0) hr
      refine ⟨?_, by omega⟩
      rw [Lib.decDigits, dif_neg (by omega), show (pv r.reverse * 10 + (c.toNat - 48)) / 10 = pv r.reverse by omega, show (pv r.reverse * 10 + (c.toNat - 48)) % 10 = c.toNat - 48 by omega, h1, u8_of hc.1 hc.2]
end Go.Proofs.YtifikcemcflgjaaGreat
namespace Go.Proofs.YtifikcemcflgjaaGreat
open Go.RowKit

set_option maxHeartbeats 400000 in
theorem timesShort_any (A : Option Addr) (c x m p : Nat) (w : World) (hx : Num32 w A x) (hm : m < 4294967296) (hp : p < 4294967296) (hn : ln b32 x ≤ 1000000) :
    Calls Tryz.prog 120 #[.slice A (ln b32 x) c, .int .u32 (m : Int), .int .u32 (p : Int)] w (W32 w (x * m + p)) := by
  have HN := Lib.hid (@tdg_total x m p hm hp)
  have hmk := mk32 0 (ln b32 x + 1) (by omega) (by omega)
  rw [show ((ln b32 x + 1 : Nat) : Int) = (ln b32 x : Int) + 1 by omega, show ((0 : Nat) : Int) = 0 by rfl] at hmk
  go_enter Tryz.func120, Tryz.ntmps120
  go_wp2_with fail
  refine (collector_any _ _).mono ?_
  rintro e w1 ⟨rfl, rfl⟩
  go_wp2_with fail
  clear hmk
  go_loopw [9, 21] (fun e i wr => ∃ k : Nat, k ≤ ln b32 x ∧ i = .int .i64 k ∧ e = .int .u64 (ex p k : Nat) ∧ Coll w.heap.size (w.heap.size + 1 + 1 + 1) (w.heap.size + 1 + 1) (w.heap.size + 1) w.heap.size (ln b32 x + 1) (tdg (dgt b32 x) m p) wr k (tcry (dgt b32 x) m p k) ∧ Below w.heap.size w wr) (fun _ i _ => ln b32 x - (intOf i).toNat)
  case atStart => exact ⟨0, Nat.zero_le _, rfl, rfl, coll_start _ _ _, coll_below _ _ _ _ _⟩
  case round =>
    obtain ⟨k, hk, rfl, rfl, hcoll, hbel⟩ := hrel
    have hcr := tcry_lt (fun i => dgt32_lt x i) hm hp k
    have hex := ex_lt (k := k) hp
    by_cases hlt : k < ln b32 x
    · have hxk := dgt32_lt x k
      obtain ⟨b, o, rfl, hb, hca⟩ := hx (by omega)
      have c0 := (hbel.cell (p := ⟨b, o + k, none⟩) hb).trans (hca k hlt)
      have hmul := mul_digit hxk hm
      have hmulI : ((dgt b32 x k : Nat) : Int) * (m : Int) ≤ 18446744065119617025 := by rw [← Int.natCast_mul]; omega
      have hmul0 : 0 ≤ ((dgt b32 x k : Nat) : Int) * (m : Int) := by rw [← Int.natCast_mul]; omega
      have hsum : dgt b32 x k * m + ex p k + tcry (dgt b32 x) m p k < 18446744073709551616 := by omega
      have hcol := collect_int _ _ _ _ _ _ _ _ _ (dgt b32 x k * m + ex p k) (((dgt b32 x k : Nat) : Int) * (m : Int) + (ex p k : Nat)) _ hcoll (by omega) hsum rfl (by rw [Int.natCast_add, Int.natCast_mul])
      have HC := Lib.hid hcol
      clear hcol hmul hsum
      go_wp2_with fail
      refine HC.out.mono ?_
      rintro e w2 ⟨rfl, hcoll2, hbel2⟩
      go_wp2
      go_roundw
      case rel => exact ⟨k + 1, by omega, by go_num, rfl, hcoll2, hbel.trans hbel2⟩
      case measure => simp [intOf]; omega
    · obtain rfl : k = ln b32 x := by omega
      have h0 : dgt b32 x (ln b32 x) = 0 := dgt_of_lt (lt_pow_ln b32_two x)
      have hcol := collect_int _ _ _ _ _ _ _ _ _ (ex p (ln b32 x)) ((ex p (ln b32 x) : Nat) : Int) _ hcoll (by omega) (by omega) (by rw [tdg, h0, Nat.zero_mul, Nat.zero_add]) rfl
      have HC := Lib.hid hcol
      clear hcol h0
      go_wp2_with fail
      refine HC.out.mono ?_
      rintro e w2 ⟨rfl, hcoll2, hbel2⟩
      have c3 := cell_of_one hcoll2.var
      have ht := trim_any (some ⟨w.heap.size, 0, none⟩) _ (ln b32 x + 1) _ w2 (hcoll2.row.rd (Nat.le_refl _) hcoll2.row.lt) (fun i _ => tdg_lt ..) (Nat.le_refl _) (by omega)
      rw [HN.out] at ht
      have HT := Lib.hid ht
      clear ht
      go_wp2_with fail
      refine HT.out.mono ?_
      rintro e w3 ⟨rfl, rfl, hnum, hlc⟩
      go_wp2
      go_ret
      exact ⟨_, _, rfl, hlc, hnum, hbel.trans hbel2⟩
end Go.Proofs.YtifikcemcflgjaaGreat
namespace Go.Proofs.YtifikcemcflgjaaGreat
open Go.RowKit

def str (l : List UInt8) : ByteArray := ⟨l.toArray⟩
theorem str_size (l : List UInt8) : (str l).size = l.length := by simp [str, ByteArray.size]
theorem idx_at {l : List UInt8} {k : Nat} (h : k < l.length) (W : World) : (Instr.index 9 (.string (str l)) (.int .i64 (k : Int))).run Tryz.prog W = .ok (.int .u8 ((l[k].toNat : Nat) : Int)) W := by
  have hs := str_size l
  rw [run_index_string W 9 (str l) .i64 (k : Int) Tryz.underlying9, dif_pos (by omega)]
  congr 1
theorem slice_at {l : List UInt8} {k : Nat} (h : k ≤ l.length) (W : World) : (Instr.slice 9 (.string (str l)) (some (.int .i64 (k : Int))) none none).run Tryz.prog W = .ok (.string (str (l.drop k))) W := by
  have hs := str_size l
  rw [run_slice_string_l W 9 (str l) Tryz.underlying9 .i64 (k : Int) (by omega) (by omega)]
  have e : (str l).extract (k : Int).toNat (str l).size = str (l.drop k) := by
    apply ByteArray.ext
    rw [ByteArray.data_extract, hs, Int.toNat_natCast]
    simp [str, List.take_of_length_le]
  rw [e]
/-- Does a text open with a minus sign? -/
def negT (l : List UInt8) : Bool := l.head? == some 45
def bodyT (l : List UInt8) : List UInt8 := if negT l then l.drop 1 else l
def badHead (g : Bool) (d : List UInt8) : Bool := d.isEmpty || (d.head? == some 48 && (g || decide (1 < d.length)))
def allDg (d : List UInt8) (k : Nat) : Prop := ∀ i, i < k → ∀ c, d[i]? = some c → 48 ≤ c.toNat ∧ c.toNat ≤ 57
def numOK (l : List UInt8) : Prop := badHead (negT l) (bodyT l) = false ∧ allDg (bodyT l) (bodyT l).length
/-- What whole.Parse returns. -/
def ParseR (l : List UInt8) (w : World) (e : Ending) (w' : World) : Prop :=
  (¬ numOK l ∧ ErrW1 10 w e w') ∨ (numOK l ∧ 4933 < (bodyT l).length ∧ ErrW1 3 w e w') ∨ (numOK l ∧ (bodyT l).length ≤ 4933 ∧ RI w (toI (negT l) (pv (bodyT l))) e w')
def lenS : Value → Nat
  | .string s => s.size
  | _ => 0
theorem str_drop {l : List UInt8} {k : Nat} (_ : k ≤ l.length) : (str l).extract k l.length = str (l.drop k) := by
  have hs := str_size l
  apply ByteArray.ext
  rw [ByteArray.data_extract]
  simp [str, List.take_of_length_le]
theorem u8_eq (c d : UInt8) : (((c.toNat : Nat) : Int) == ((d.toNat : Nat) : Int)) = (c == d) := by
  by_cases h : c = d
  · subst h; simp
  · have h1 : c.toNat ≠ d.toNat := fun e => h (UInt8.toNat.inj e)
    rw [beq_eq_false_iff_ne.2 (show ((c.toNat : Nat) : Int) ≠ ((d.toNat : Nat) : Int) by omega), beq_eq_false_iff_ne.2 h]
theorem neg_cons (c : UInt8) (r : List UInt8) : negT (c :: r) = (c == 45) := by simp [negT]
theorem badHead_cons (g : Bool) (c : UInt8) (r : List UInt8) : badHead g (c :: r) = (c == 48 && (g || decide (0 < r.length))) := by simp [badHead]
set_option linter.unusedSimpArgs false in
set_option maxRecDepth 100000 in
set_option maxHeartbeats 4000000 in
theorem parse_walk (l : List UInt8) (w : World) (hl : l.length ≤ 1000000) : Calls Tryz.prog 90 #[.string (str l)] w (ParseR l w) := by
  have hb0 : Below w.heap.size w (w.alloc (.cells #[.bool false, .slice none 0 0] 24)) := (Below.refl _ w).alloc (Nat.le_refl _) _
  have hR0 := WholeAt.new w false (.slice none 0 0)
  obtain ⟨w0, hw0⟩ : ∃ w0, w0 = w.alloc (.cells #[.bool false, .slice none 0 0] 24) := ⟨_, rfl⟩
  rw [← hw0] at hb0 hR0
  have HW0 := Lib.hid hw0
  clear hw0
  have hs := str_size l
  go_enter Tryz.func90, Tryz.ntmps90
  go_upto_region 2 with (fail)
  rw [← HW0.out]
  go_cut [5] from 13 to 20 (fun v wx => v = .bool (negT l) ∧ wx = w0)
  case first =>
    by_cases h0 : l = []
    · subst h0
      go_wp2_with fail
      go_meet
      exact ⟨rfl, rfl⟩
    · have hp : 0 < l.length := List.length_pos_iff.2 h0
      have hi := idx_at (l := l) (k := 0) hp
      have t0 : (0 : Int) < (l.length : Int) := by omega
      obtain ⟨c, r, rfl⟩ := List.exists_cons_of_ne_nil h0
      go_wp2_with fail
      go_meet
      exact ⟨by rw [neg_cons, ← u8_eq]; rfl, rfl⟩
  case rest =>
  obtain ⟨rfl, rfl⟩ := hcut
  go_upto_if 21 with (fail)
  go_cut [4, 5] from 21 to 23 (fun v u wx => v = .string (str (bodyT l)) ∧ u = .bool (negT l) ∧ wx = wc)
  case first =>
    cases hn : negT l
    · go_wp2_with fail
      go_meet
      exact ⟨by unfold bodyT; rw [hn]; rfl, by rw [hn], rfl⟩
    · have hp : 1 ≤ l.length := by
        cases l with
        | nil => simp [negT] at hn
        | cons c r => simp
      have hsl := slice_at (l := l) (k := 1) hp
      have t1 : (1 : Int) ≤ (l.length : Int) := by omega
      go_wp2_with fail
      go_meet
      refine ⟨?_, by rw [hn], rfl⟩
      unfold bodyT
      rw [hn]
      first | rfl | exact congrArg Value.string (str_drop hp)
  case rest =>
  obtain ⟨rfl, rfl, rfl⟩ := hcut
  obtain ⟨d, hd⟩ : ∃ d, d = bodyT l := ⟨_, rfl⟩
  obtain ⟨g, hg⟩ : ∃ g, g = negT l := ⟨_, rfl⟩
  rw [← hd, ← hg]
  have hdl : d.length ≤ 1000000 := by
    rw [hd]; unfold bodyT
    split
    · rw [List.length_drop]; omega
    · exact hl
  have HD := Lib.hid hd
  have HG := Lib.hid hg
  clear hd hg hl hs
  have hs := str_size d
  obtain ⟨r0, r1⟩ := hR0.cells
  have g0 := hR0.frozen 0
  have g1 := hR0.frozen 1
  go_upto_region 5 with (fail)
  go_cut [39, 5] from 24 to 39 (fun v u wx => v = .bool (badHead g d) ∧ u = .bool g ∧ wx = wc)
  case first =>
    by_cases h0 : d = []
    · subst h0
      go_wp2_with fail
      go_meet
      exact ⟨rfl, rfl, rfl⟩
    · obtain ⟨c, r, rfl⟩ := List.exists_cons_of_ne_nil h0
      have hz : (str (c :: r))[0]'(by rw [str_size]; simp) = c := rfl
      have t0 : (0 : Int) < ((c :: r).length : Int) := by simp only [List.length_cons]; omega
      have t1 : ((r.length : Int) + 1 == 0) = false := beq_eq_false_iff_ne.2 (by omega)
      by_cases hc : c = 48
      · subst hc
        cases g
        · go_wp2_with fail
          go_meet
          exact ⟨by rw [badHead_cons, show ((48 : UInt8) == 48) = true from rfl, Bool.true_and, Bool.false_or]; exact congrArg Value.bool (decide_eq_decide.2 (by omega)), rfl, rfl⟩
        · go_wp2_with fail
          go_meet
          exact ⟨by rw [badHead_cons]; rfl, rfl, rfl⟩
      · have t2 : (((c.toNat : Nat) : Int) == 48) = false := (u8_eq c 48).trans (beq_eq_false_iff_ne.2 hc)
        go_wp2_with fail
        go_meet
        exact ⟨by rw [badHead_cons, beq_eq_false_iff_ne.2 hc, Bool.false_and], rfl, rfl⟩
  case rest =>
  obtain ⟨rfl, rfl, rfl⟩ := hcut
  cases hbad : badHead g d
  · go_wp2_with fail
    go_loopw [43] (fun i wr => ∃ k : Nat, k ≤ d.length ∧ i = .int .i64 (k : Int) ∧ Hid (allDg d k) ∧ wr = wc) (fun i _ => d.length - (intOf i).toNat)
    case atStart => exact ⟨0, Nat.zero_le _, rfl, Lib.hid (fun i hi => absurd hi (by omega)), rfl⟩
    case round =>
      obtain ⟨k, hk, rfl, hdg, rfl⟩ := hrel
      by_cases hlt : k < d.length
      · obtain ⟨c, hc⟩ : ∃ c, d[k] = c := ⟨_, rfl⟩
        have hix := fun W => idx_at (l := d) hlt W
        rw [hc] at hix
        have hz : (str d)[k]'(by rw [hs]; exact hlt) = c := hc
        have t0 : (k : Int) < (d.length : Int) := by omega
        by_cases h1 : 48 ≤ c.toNat
        · by_cases h2 : c.toNat ≤ 57
          · have t1 : decide (((c.toNat : Nat) : Int) < 48) = false := decide_eq_false (by omega)
            have t2 : decide ((57 : Int) < ((c.toNat : Nat) : Int)) = false := decide_eq_false (by omega)
            have n1 : ¬ c.toNat < 48 := by omega
            have n2 : ¬ 57 < c.toNat := by omega
            have n3 : decide (c.toNat < 48) = false := decide_eq_false n1
            have n4 : decide (57 < c.toNat) = false := decide_eq_false n2
            have hnext : allDg d (k + 1) := fun i hi x hx => by
              rcases Nat.lt_or_ge i k with h3 | h3
              · exact hdg.out i h3 x hx
              · obtain rfl : i = k := by omega
                rw [List.getElem?_eq_getElem hlt, hc] at hx
                obtain rfl := Option.some.inj hx
                exact ⟨h1, h2⟩
            have HN := Lib.hid hnext
            clear hnext
            go_wp2_with fail
            go_roundw
            case rel => exact ⟨k + 1, by omega, by go_num, HN, by first | trivial | rfl⟩
            case measure => simp [intOf]; omega
          · have n1 : ¬ c.toNat < 48 := by omega
            have t1 : decide (((c.toNat : Nat) : Int) < 48) = false := decide_eq_false (by omega)
            have t2 : decide ((57 : Int) < ((c.toNat : Nat) : Int)) = true := decide_eq_true (by omega)
            have hno : ¬ numOK l := fun h => by
              have h3 := h.2
              rw [← HD.out] at h3
              have h4 := h3 k hlt c (by rw [List.getElem?_eq_getElem hlt, hc])
              omega
            obtain ⟨hW, hbW⟩ := store_whole hR0 hb0 (Nat.le_refl _) false (.slice none 0 0)
            have HW := Lib.hid hW
            clear hW
            go_wp2_with fail
            have hW := HW.out
            clear HW
            generalize ((wr.setCell ⟨w.heap.size, 0, none⟩ (.bool false)).setCell ⟨w.heap.size, 1, none⟩ (.slice none 0 0)) = WW at *
            obtain ⟨y0, y1⟩ := hW.cells
            refine bodyPost_ret (v := .tuple #[.agg #[.bool false, .slice none 0 0], .int .i64 10]) (by simp [results, Tryz.results90, go_sem, y0, y1]) rfl ?_
            exact .inl ⟨hno, rfl, hbW⟩
        · have t1 : decide (((c.toNat : Nat) : Int) < 48) = true := decide_eq_true (by omega)
          have hno : ¬ numOK l := fun h => by
            have h3 := h.2
            rw [← HD.out] at h3
            have h4 := h3 k hlt c (by rw [List.getElem?_eq_getElem hlt, hc])
            omega
          obtain ⟨hW, hbW⟩ := store_whole hR0 hb0 (Nat.le_refl _) false (.slice none 0 0)
          have HW := Lib.hid hW
          clear hW
          go_wp2_with fail
          have hW := HW.out
          clear HW
          generalize ((wr.setCell ⟨w.heap.size, 0, none⟩ (.bool false)).setCell ⟨w.heap.size, 1, none⟩ (.slice none 0 0)) = WW at *
          obtain ⟨y0, y1⟩ := hW.cells
          refine bodyPost_ret (v := .tuple #[.agg #[.bool false, .slice none 0 0], .int .i64 10]) (by simp [results, Tryz.results90, go_sem, y0, y1]) rfl ?_
          exact .inl ⟨hno, rfl, hbW⟩
      · obtain rfl : k = d.length := by omega
        have hok : numOK l := by
          unfold numOK
          rw [← HD.out, ← HG.out]
          exact ⟨hbad, hdg.out⟩
        have HOK := Lib.hid hok
        clear hok
        by_cases h5 : d.length ≤ 4933
        · have t1 : decide ((4933 : Int) < (d.length : Int)) = false := decide_eq_false (by omega)
          have hdgs := hdg.out
          have HDG := Lib.hid hdgs
          clear hdgs hdg hlt
          go_wp2_with fail
          go_loopw [4, 7] (fun v y wx => ∃ (k : Nat) (A : Option Addr) (c : Nat), k ≤ d.length ∧ v = .string (str (d.drop k)) ∧ y = .slice A (ln b32 (pv (d.take k))) c ∧ Num32 wx A (pv (d.take k)) ∧ ln b32 (pv (d.take k)) ≤ c ∧ WholeAt wx w.heap.size false (.slice none 0 0) ∧ Below w.heap.size w wx) (fun v _ _ => lenS v)
          case atStart =>
            refine ⟨0, none, 0, Nat.zero_le _, by simp, ?_, ?_, ?_, hR0, hb0⟩
            · rw [List.take_zero, pv_nil, ln_zero]
            · rw [List.take_zero, pv_nil]; exact Num32.zero _ _
            · rw [List.take_zero, pv_nil, ln_zero]; exact Nat.le_refl _
          case round =>
            obtain ⟨k, A, cc, hk2, rfl, rfl, hn, hcc, hRx, hbx⟩ := hrel
            by_cases hlt2 : k < d.length
            · have hs2 := str_size (d.drop k)
              rw [List.length_drop] at hs2
              obtain ⟨m, hm⟩ : ∃ m, m = d.length - k := ⟨_, rfl⟩
              rw [← hm] at hs2
              have t2 : (0 : Int) < (m : Int) := by omega
              obtain ⟨cnt, hcnt⟩ : ∃ cnt, cnt = min 9 m := ⟨_, rfl⟩
              have hc9 : cnt ≤ 9 := by omega
              have hcm : cnt ≤ m := by omega
              have hcp : 0 < cnt := by omega
              have hmin : min (9 : Int) (m : Int) = (cnt : Int) := by omega
              have HM := Lib.hid hm
              clear hm hcnt
              go_wp2_with fail
              obtain ⟨e, he⟩ : ∃ e, e = d.drop k := ⟨_, rfl⟩
              rw [← he] at hs2 ⊢
              have hel : e.length = m := by rw [he, List.length_drop, HM.out]
              have hed : ∀ j, j < m → ∀ x, e[j]? = some x → 48 ≤ x.toNat ∧ x.toNat ≤ 57 := by
                intro j hj x hx
                rw [he, List.getElem?_drop] at hx
                exact HDG.out (k + j) (by have := HM.out; omega) x hx
              have HE := Lib.hid he
              clear he
              go_loopw [9, 10, 69] (fun x y i wy => ∃ j : Nat, j ≤ cnt ∧ i = .int .i64 (j : Int) ∧ x = .int .u32 ((10 ^ j : Nat) : Int) ∧ y = .int .u32 ((pv (e.take j) : Nat) : Int) ∧ wy = wr) (fun _ _ i _ => cnt - (intOf i).toNat)
              case atStart => exact ⟨0, Nat.zero_le _, rfl, rfl, by rw [List.take_zero]; rfl, rfl⟩
              case round =>
                obtain ⟨j, hj, rfl, rfl, rfl, rfl⟩ := hrel
                by_cases hj2 : j < cnt
                · have hje : j < e.length := by omega
                  obtain ⟨c, hc⟩ : ∃ c, e[j] = c := ⟨_, rfl⟩
                  have hc2 := hed j (by omega) c (by rw [List.getElem?_eq_getElem hje, hc])
                  have hix := fun W => idx_at (l := e) hje W
                  rw [hc] at hix
                  have t3 : (j : Int) < (cnt : Int) := by omega
                  have t4 : (j : Int) < (m : Int) := by omega
                  have hp10 : 10 ^ j ≤ 100000000 := Nat.pow_le_pow_right (n := 10) (by decide) (show j ≤ 8 by omega)
                  have htk : pv (e.take j) < 100000000 := by
                    have h6 := pv_lt (e.take j) (fun x hx => by
                      obtain ⟨i, hi, rfl⟩ := List.mem_take_iff_getElem.1 hx
                      exact (hed i (by omega) _ (List.getElem?_eq_getElem _)).2)
                    rw [List.length_take, Nat.min_eq_left (by omega)] at h6
                    omega
                  have hstep : pv (e.take (j + 1)) = pv (e.take j) * 10 + (c.toNat - 48) := by
                    rw [List.take_succ_eq_append_getElem hje, pv_snoc, hc]
                  have HST := Lib.hid hstep
                  obtain ⟨V, hV⟩ : ∃ V, V = pv (e.take j) := ⟨_, rfl⟩
                  rw [← hV] at htk ⊢
                  have HV := Lib.hid hV
                  obtain ⟨T, hT⟩ : ∃ T, T = 10 ^ j := ⟨_, rfl⟩
                  rw [← hT] at hp10 ⊢
                  have HT := Lib.hid hT
                  clear hstep hV hT
                  have o1 : IntKind.u32.wrap ((T : Int) * 10) = (T : Int) * 10 := by rw [IntKind.wrap_u32]; omega
                  have o2 : IntKind.u32.wrap ((V : Int) * 10) = (V : Int) * 10 := by rw [IntKind.wrap_u32]; omega
                  have o3 : IntKind.u8.wrap (((c.toNat : Nat) : Int) - 48) = ((c.toNat : Nat) : Int) - 48 := by rw [IntKind.wrap_u8]; omega
                  have o4 : IntKind.u32.wrap (((c.toNat : Nat) : Int) - 48) = ((c.toNat : Nat) : Int) - 48 := by rw [IntKind.wrap_u32]; omega
                  have o5 : IntKind.u32.wrap ((V : Int) * 10 + (((c.toNat : Nat) : Int) - 48)) = (V : Int) * 10 + (((c.toNat : Nat) : Int) - 48) := by rw [IntKind.wrap_u32]; omega
                  go_wp2_with fail
                  go_roundw
                  case rel => exact ⟨j + 1, by omega, by go_num, by rw [Nat.pow_succ, ← HT.out]; go_num, by rw [HST.out, ← HV.out]; congr 1; omega, by first | trivial | rfl⟩
                  case measure => simp [intOf]; omega
                · obtain rfl : j = cnt := by omega
                  have hxl : ln b32 (pv (d.take k)) ≤ 1000000 := by
                    have h6 := pv_lt (d.take k) (fun x hx => by
                      obtain ⟨i, hi, rfl⟩ := List.mem_take_iff_getElem.1 hx
                      exact (HDG.out i (by omega) _ (List.getElem?_eq_getElem _)).2)
                    have h7 : ln b32 (pv (d.take k)) ≤ (d.take k).length := (ln_le b32_two).2 (Nat.lt_of_lt_of_le h6 (Nat.pow_le_pow_left (by decide) _))
                    rw [List.length_take] at h7
                    omega
                  have hpl : pv (e.take j) < 4294967296 := by
                    have h6 := pv_lt (e.take j) (fun x hx => by
                      obtain ⟨i, hi, rfl⟩ := List.mem_take_iff_getElem.1 hx
                      exact (hed i (by omega) _ (List.getElem?_eq_getElem _)).2)
                    rw [List.length_take, Nat.min_eq_left (by omega)] at h6
                    have h8 : 10 ^ j ≤ 1000000000 := Nat.pow_le_pow_right (n := 10) (by decide) hc9
                    omega
                  have hFl : 10 ^ j < 4294967296 := by
                    have h8 : 10 ^ j ≤ 1000000000 := Nat.pow_le_pow_right (n := 10) (by decide) hc9
                    omega
                  have hval : pv (d.take (k + j)) = pv (d.take k) * 10 ^ j + pv (e.take j) := by
                    rw [List.take_add, ← HE.out, pv_append, List.length_take, Nat.min_eq_left (by omega)]
                  have hdr : e.drop j = d.drop (k + j) := by rw [HE.out, List.drop_drop]
                  have hsd := str_drop (l := e) (k := j) (by omega)
                  have hsl := fun W => slice_at (l := e) (k := j) (by omega) W
                  rw [hdr] at hsd hsl
                  rw [hel] at hsd
                  obtain ⟨F, hF⟩ : ∃ F, F = 10 ^ j := ⟨_, rfl⟩
                  obtain ⟨p, hp⟩ : ∃ p, p = pv (e.take j) := ⟨_, rfl⟩
                  obtain ⟨x, hx⟩ : ∃ x, x = pv (d.take k) := ⟨_, rfl⟩
                  rw [← hF] at hFl hval ⊢
                  rw [← hp] at hpl hval ⊢
                  rw [← hx] at hxl hval hn hcc ⊢
                  have HVAL := Lib.hid hval
                  clear hF hp hx hval hed
                  have t4 : (j : Int) ≤ (m : Int) := by omega
                  go_wp2_with fail
                  refine (timesShort_any A cc x F p wr hn hFl hpl hxl).mono ?_
                  rintro e2 w7 ⟨A7, c7, rfl, hc7, hn7, hb7⟩
                  go_wp2_with fail
                  go_roundw
                  case rel => exact ⟨k + j, A7, c7, by have := HM.out; omega, rfl, by rw [HVAL.out], by rw [HVAL.out]; exact hn7, by rw [HVAL.out]; exact hc7, hRx.below hb7 hRx.lt, hbx.trans (hb7.mono hbx.size)⟩
                  case measure =>
                    show (str (List.drop (k + j) d)).size < (str (List.drop k d)).size
                    rw [str_size, str_size, List.length_drop, List.length_drop]
                    omega
            · obtain rfl : k = d.length := by omega
              rw [List.take_length] at hn hcc ⊢
              rw [List.drop_length]
              have hs3 := str_size []
              have hxl : ln b32 (pv d) ≤ 1000000 := by
                have h6 := pv_lt d (fun x hx => by
                  obtain ⟨i, hi, rfl⟩ := List.mem_iff_getElem.1 hx
                  exact (HDG.out i hi _ (List.getElem?_eq_getElem _)).2)
                have h7 : ln b32 (pv d) ≤ d.length := (ln_le b32_two).2 (Nat.lt_of_lt_of_le h6 (Nat.pow_le_pow_left (by decide) _))
                omega
              go_wp2_with fail
              refine (result_any g A cc (pv d) wr hn hcc hxl).mono ?_
              rintro e2 w8 hri
              obtain ⟨s', A', n', c', kk, rfl, hv, hb8⟩ := hri.vals
              have hR8 := hRx.below hb8 hRx.lt
              have hbl8 := hbx.trans (hb8.mono hbx.size)
              obtain ⟨q0, q1⟩ := hR8.cells
              have g2 := hR8.frozen 0
              have g3 := hR8.frozen 1
              obtain ⟨hW, hbW⟩ := store_whole hR8 hbl8 (Nat.le_refl _) s' (.slice A' n' c')
              have hv2 := (hv.store hRx.lt s' (.slice A' n' c')).lower hbx.size
              have HW := Lib.hid hW
              have HV2 := Lib.hid hv2
              clear hv hri hW hv2
              go_wp2_with fail
              have hW := HW.out
              have hv2 := HV2.out
              clear HW HV2
              generalize ((w8.setCell ⟨w.heap.size, 0, none⟩ (.bool s')).setCell ⟨w.heap.size, 1, none⟩ (.slice A' n' c')) = WW at *
              obtain ⟨y0, y1⟩ := hW.cells
              refine bodyPost_ret (v := .tuple #[.agg #[.bool s', .slice A' n' c'], .int .i64 kk]) (by simp [results, Tryz.results90, go_sem, y0, y1]) rfl ?_
              refine .inr (.inr ⟨HOK.out, by rw [← HD.out]; exact h5, ?_⟩)
              rw [← HD.out, ← HG.out]
              exact hv2.ri hbW
        · have t1 : decide ((4933 : Int) < (d.length : Int)) = true := decide_eq_true (by omega)
          have hlong : 4933 < (bodyT l).length := by rw [← HD.out]; omega
          have HLO := Lib.hid hlong
          clear hlong
          obtain ⟨hW, hbW⟩ := store_whole hR0 hb0 (Nat.le_refl _) false (.slice none 0 0)
          have HW := Lib.hid hW
          clear hW
          go_wp2_with fail
          have hW := HW.out
          clear HW
          generalize ((wr.setCell ⟨w.heap.size, 0, none⟩ (.bool false)).setCell ⟨w.heap.size, 1, none⟩ (.slice none 0 0)) = WW at *
          obtain ⟨y0, y1⟩ := hW.cells
          refine bodyPost_ret (v := .tuple #[.agg #[.bool false, .slice none 0 0], .int .i64 3]) (by simp [results, Tryz.results90, go_sem, y0, y1]) rfl ?_
          exact .inr (.inl ⟨HOK.out, HLO.out, rfl, hbW⟩)
  · have hno : ¬ numOK l := fun h => by
      have h1 := h.1
      rw [← HD.out, ← HG.out, hbad] at h1
      cases h1
    obtain ⟨hW, hbW⟩ := store_whole hR0 hb0 (Nat.le_refl _) false (.slice none 0 0)
    have HW := Lib.hid hW
    clear hW
    go_wp2_with fail
    have hW := HW.out
    clear HW
    generalize ((wc.setCell ⟨w.heap.size, 0, none⟩ (.bool false)).setCell ⟨w.heap.size, 1, none⟩ (.slice none 0 0)) = WW at *
    obtain ⟨y0, y1⟩ := hW.cells
    refine bodyPost_ret (v := .tuple #[.agg #[.bool false, .slice none 0 0], .int .i64 10]) (by simp [results, Tryz.results90, go_sem, y0, y1]) rfl ?_
    exact .inl ⟨hno, rfl, hbW⟩
end Go.Proofs.YtifikcemcflgjaaGreat
namespace Go.Proofs.YtifikcemcflgjaaGreat
open Go.RowKit

theorem below_drewN (B n : Nat) (w : World) : Below B w (w.drewN n) := by
  induction n with
  | zero => exact Below.refl _ _
  | succ n ih => exact ih.trans (⟨rfl, rfl, rfl, Nat.le_refl _, fun _ _ => rfl⟩ : Below B (w.drewN n) (w.drewN n).drew)
theorem parse_w {l : List UInt8} {z : Int} (w : World) (hl : l.length ≤ 1000000) (hok : numOK l) (hlen : (bodyT l).length ≤ 4933) (hz : toI (negT l) (pv (bodyT l)) = z) (hln : ln b16 z.natAbs ≤ 1024) :
    Calls Tryz.prog 90 #[.string (str l)] w (WOK z w) := by
  refine (parse_walk l w hl).mono ?_
  rintro e w' (⟨h, _⟩ | ⟨_, h, _⟩ | ⟨_, _, h⟩)
  · exact absurd hok h
  · omega
  · rw [hz] at h
    rcases h with ⟨_, A, c, he, ho, hb⟩ | ⟨h, _⟩
    · exact ⟨_, A, _, c, he, ⟨rfl, rfl, ho.num⟩, hb⟩
    · omega
theorem numOK_digit (c : UInt8) (h : 48 ≤ c.toNat ∧ c.toNat ≤ 57) : numOK [c] := by
  have hn : negT [c] = false := by
    unfold negT
    show (some c == some 45) = false
    rw [beq_eq_false_iff_ne]
    intro e
    injection e with e
    subst e
    exact absurd h.1 (by decide)
  have hbd : bodyT [c] = [c] := by unfold bodyT; rw [hn]; rfl
  refine ⟨?_, ?_⟩
  · rw [hbd, hn]
    simp [badHead]
  · rw [hbd]
    intro i hi d hd
    match i, hi with
    | 0, _ =>
      have : c = d := by simpa using hd
      subst this
      exact h
    | i + 1, hi => simp at hi
set_option linter.unusedSimpArgs false in
set_option maxRecDepth 100000 in
set_option maxHeartbeats 4000000 in
theorem fparse_24 (w : World) {k : Int} (hm : w.cell? ⟨0, 0, none⟩ = some (.int .i64 k)) (hlt : 0 < w.heap.size) :
    Calls Tryz.prog 51 #[.string ⟨#[50, 47, 52]⟩] w (FErr 21 w) := by
  have hE := (Env.start w).blk 26 #[.bool false, .slice none 0 0, .bool false, .slice none 0 0] (g := w.heap.size) rfl
  have hm0 : (w.alloc (.cells #[.bool false, .slice none 0 0, .bool false, .slice none 0 0] 26)).cell? ⟨0, 0, none⟩ = some (.int .i64 k) := (((Below.refl _ w).alloc (Nat.le_refl _) _).cell (p := ⟨0, 0, none⟩) hlt).trans hm
  obtain ⟨W0, hW0⟩ : ∃ W0, W0 = w.alloc (.cells #[.bool false, .slice none 0 0, .bool false, .slice none 0 0] 26) := ⟨_, rfl⟩
  rw [← hW0] at hE hm0
  have HW0 := Lib.hid hW0
  clear hW0 hm hlt
  go_enter Tryz.func51, Tryz.ntmps51
  go_upto_region 1 with (fail)
  rw [← HW0.out]
  go_wp2_with fail
  have hc := Tryz.strings_Cut ⟨#[50, 47, 52]⟩ ⟨#[47]⟩ k W0 (by decide) hm0
  rw [show Lib.cut (ByteArray.mk #[50, 47, 52]).data.toList (ByteArray.mk #[47]).data.toList = ([50], [52], true) by decide] at hc
  refine hc.mono ?_
  clear hc hm0
  rintro e w1 ⟨rfl, j, rfl⟩
  replace hE := hE.step (below_drewN _ j W0)
  generalize W0.drewN j = w1 at hE ⊢
  go_wp2_with fail
  have hc : Calls Tryz.prog 90 #[.string ⟨#[50]⟩] _ (WOK 2 _) := parse_w (l := [50]) (z := 2) w1 (by decide) (numOK_digit 50 (by decide)) (by decide) (by decide) (by decide)
  refine hc.mono ?_
  clear hc
  rintro e w1 ⟨sx, Ax, nx, cx, rfl, hx, hb⟩
  replace hE := hE.step hb
  clear hb
  replace hE := hE.wv hx
  clear hx
  go_upto_region 3 with (fail)
  obtain ⟨g2, hg2⟩ : ∃ g2, g2 = w1.heap.size := ⟨_, rfl⟩
  have hl2_0 : w.heap.size < g2 := by rw [hg2]; exact (hE.here.1.2).lt
  replace hE := hE.blk 24 #[.bool sx, .slice Ax nx cx] (g := g2) hg2.symm
  generalize w1.alloc (.cells #[.bool sx, .slice Ax nx cx] 24) = W2 at hE ⊢
  rw [← hg2]
  clear hg2
  go_wp2_with fail
  have hc := fromInt_v 1 W2 (by decide) (by decide)
  refine hc.mono ?_
  clear hc
  rintro e w3 ⟨so, Ao, no, co, rfl, ho, hb⟩
  replace hE := hE.step hb
  clear hb
  replace hE := hE.wv ho
  clear ho
  go_upto_region 4 with (fail)
  obtain ⟨g4, hg4⟩ : ∃ g4, g4 = w3.heap.size := ⟨_, rfl⟩
  have hl4_0 : w.heap.size < g4 := by rw [hg4]; exact (hE.here.1.1.1.2).lt
  have hl4_2 : g2 < g4 := by rw [hg4]; exact (hE.here.1.2).lt
  replace hE := hE.blk 24 #[.bool so, .slice Ao no co] (g := g4) hg4.symm
  generalize w3.alloc (.cells #[.bool so, .slice Ao no co] 24) = W4 at hE ⊢
  rw [← hg4]
  clear hg4
  go_wp2_with fail
  have hc : Calls Tryz.prog 90 #[.string ⟨#[52]⟩] _ (WOK 4 _) := parse_w (l := [52]) (z := 4) W4 (by decide) (numOK_digit 52 (by decide)) (by decide) (by decide) (by decide)
  refine hc.mono ?_
  clear hc
  rintro e w5 ⟨sy, Ay, ny, cy, rfl, hy, hb⟩
  replace hE := hE.step hb
  clear hb
  replace hE := hE.wv hy
  clear hy
  have hgl6 : w.heap.size ≤ g4 := by omega
  obtain ⟨x6_0, x6_1⟩ := (hE.here.1.2).c2
  have f6_0 := (hE.here.1.2).frozen 0
  have f6_1 := (hE.here.1.2).frozen 1
  replace hE := (((((((Env.again (bel2 hE.bel hgl6 (.bool sy) (.slice Ay ny cy))).blkI ((hE.here.1.1.1.1.1.2).far2 (R := g4) (by omega) (.bool sy) (.slice Ay ny cy))).wv ((hE.here.1.1.1.1.2).sep2 hE.here.1.2 rfl (.bool sy) (.slice Ay ny cy) rfl)).blkI ((hE.here.1.1.1.2).far2 (R := g4) (by omega) (.bool sy) (.slice Ay ny cy))).wv ((hE.here.1.1.2).sep2 hE.here.1.2 rfl (.bool sy) (.slice Ay ny cy) rfl)).blkI ((hE.here.1.2).s2 (.bool sy) (.slice Ay ny cy))).wv ((hE.here.2).sep2 hE.here.1.2 rfl (.bool sy) (.slice Ay ny cy) rfl))
  go_upto_region 6 with (fail)
  clear x6_0 x6_1 f6_0 f6_1 hgl6
  generalize ((w5.setCell ⟨g4, 0, none⟩ (.bool sy)).setCell ⟨g4, 1, none⟩ (.slice Ay ny cy)) = W6 at hE ⊢
  go_upto_region 10 with (fail)
  obtain ⟨k7, k8⟩ := (hE.here.1.1.1.2).c2
  obtain ⟨k9, k10⟩ := (hE.here.1.2).c2
  go_upto_region 11 with (fail)
  clear k7 k8 k9 k10
  obtain ⟨g11, hg11⟩ : ∃ g11, g11 = W6.heap.size := ⟨_, rfl⟩
  have hl11_0 : w.heap.size < g11 := by rw [hg11]; exact (hE.here.1.1.1.1.1.2).lt
  have hl11_2 : g2 < g11 := by rw [hg11]; exact (hE.here.1.1.1.2).lt
  have hl11_4 : g4 < g11 := by rw [hg11]; exact (hE.here.1.2).lt
  replace hE := hE.blk 65 #[.bool sx, .slice Ax nx cx, .bool sy, .slice Ay ny cy] (g := g11) hg11.symm
  generalize W6.alloc (.cells #[.bool sx, .slice Ax nx cx, .bool sy, .slice Ay ny cy] 65) = W11 at hE ⊢
  rw [← hg11]
  clear hg11
  obtain ⟨k12, k13, k14, k15⟩ := (hE.here.2).c4
  go_wp2_with fail
  refine (flong_r sx sy Ax Ay nx ny cx cy _ false (by rw [(hE.here.1.1.1.1.1.2).len, (hE.here.1.2).len]; decide)).mono ?_
  clear k12 k13 k14 k15
  rintro e w8 ⟨rfl, hb⟩
  replace hE := hE.step hb
  clear hb
  obtain ⟨k16, k17, k18, k19⟩ := (hE.here.2).c4
  go_wp2_with fail
  have hx := hE.here.1.1.1.1.1.2
  have hy := hE.here.1.2
  have hok : okF sx nx (dgt b16 2) sy ny (dgt b16 4) = false := by rw [hx.sgn, hy.sgn, hx.len, hy.len]; decide +kernel
  have hrd : FRd w8 Ax nx (dgt b16 2) Ay ny (dgt b16 4) := ⟨by have := hx.2.2; unfold Num16 at this; rw [← hx.2.1] at this; exact this, by have := hy.2.2; unfold Num16 at this; rw [← hy.2.1] at this; exact this, fun j _ => dgt16_lt _ j, fun j _ => dgt16_lt _ j⟩
  have l1 : nx ≤ 1000000 := by rw [hx.len]; decide
  have l2 : ny ≤ 1000000 := by rw [hy.len]; decide
  refine (ftvalid_r sx sy Ax Ay nx ny cx cy _ _ _ hrd l1 l2 false hok).mono ?_
  clear k16 k17 k18 k19
  clear hx hy hok hrd l1 l2
  rintro e w9 ⟨rfl, hb⟩
  replace hE := hE.step hb
  clear hb
  obtain ⟨k20, k21, k22, k23⟩ := (hE.here.1.1.1.1.1.1.2).c4
  have z0 := (hE.here.1.1.1.1.1.1.2).frozen 0
  have z1 := (hE.here.1.1.1.1.1.1.2).frozen 1
  have z2 := (hE.here.1.1.1.1.1.1.2).frozen 2
  have z3 := (hE.here.1.1.1.1.1.1.2).frozen 3
  have hbl := bel4 hE.bel (Nat.le_refl _) (.bool false) (.slice none 0 0) (.bool false) (.slice none 0 0)
  have hB := (hE.here.1.1.1.1.1.1.2).s4 (.bool false) (.slice none 0 0) (.bool false) (.slice none 0 0)
  clear hE
  go_wp2_with fail
  obtain ⟨y0, y1, y2, y3⟩ := hB.c4
  refine bodyPost_ret (v := .tuple #[.agg #[.bool false, .slice none 0 0, .bool false, .slice none 0 0], .int .i64 21]) (by simp [results, Tryz.results51, go_sem, y0, y1, y2, y3]) rfl ?_
  exact ⟨rfl, hbl⟩
set_option linter.unusedSimpArgs false in
set_option maxRecDepth 100000 in
set_option maxHeartbeats 4000000 in
theorem fparse_02 (w : World) {k : Int} (hm : w.cell? ⟨0, 0, none⟩ = some (.int .i64 k)) (hlt : 0 < w.heap.size) :
    Calls Tryz.prog 51 #[.string ⟨#[48, 47, 50]⟩] w (FErr 21 w) := by
  have hE := (Env.start w).blk 26 #[.bool false, .slice none 0 0, .bool false, .slice none 0 0] (g := w.heap.size) rfl
  have hm0 : (w.alloc (.cells #[.bool false, .slice none 0 0, .bool false, .slice none 0 0] 26)).cell? ⟨0, 0, none⟩ = some (.int .i64 k) := (((Below.refl _ w).alloc (Nat.le_refl _) _).cell (p := ⟨0, 0, none⟩) hlt).trans hm
  obtain ⟨W0, hW0⟩ : ∃ W0, W0 = w.alloc (.cells #[.bool false, .slice none 0 0, .bool false, .slice none 0 0] 26) := ⟨_, rfl⟩
  rw [← hW0] at hE hm0
  have HW0 := Lib.hid hW0
  clear hW0 hm hlt
  go_enter Tryz.func51, Tryz.ntmps51
  go_upto_region 1 with (fail)
  rw [← HW0.out]
  go_wp2_with fail
  have hc := Tryz.strings_Cut ⟨#[48, 47, 50]⟩ ⟨#[47]⟩ k W0 (by decide) hm0
  rw [show Lib.cut (ByteArray.mk #[48, 47, 50]).data.toList (ByteArray.mk #[47]).data.toList = ([48], [50], true) by decide] at hc
  refine hc.mono ?_
  clear hc hm0
  rintro e w1 ⟨rfl, j, rfl⟩
  replace hE := hE.step (below_drewN _ j W0)
  generalize W0.drewN j = w1 at hE ⊢
  go_wp2_with fail
  have hc : Calls Tryz.prog 90 #[.string ⟨#[48]⟩] _ (WOK 0 _) := parse_w (l := [48]) (z := 0) w1 (by decide) (numOK_digit 48 (by decide)) (by decide) (by decide) (by decide)
  refine hc.mono ?_
  clear hc
  rintro e w1 ⟨sx, Ax, nx, cx, rfl, hx, hb⟩
  replace hE := hE.step hb
  clear hb
  replace hE := hE.wv hx
  clear hx
  go_upto_region 3 with (fail)
  obtain ⟨g2, hg2⟩ : ∃ g2, g2 = w1.heap.size := ⟨_, rfl⟩
  have hl2_0 : w.heap.size < g2 := by rw [hg2]; exact (hE.here.1.2).lt
  replace hE := hE.blk 24 #[.bool sx, .slice Ax nx cx] (g := g2) hg2.symm
  generalize w1.alloc (.cells #[.bool sx, .slice Ax nx cx] 24) = W2 at hE ⊢
  rw [← hg2]
  clear hg2
  go_wp2_with fail
  have hc := fromInt_v 1 W2 (by decide) (by decide)
  refine hc.mono ?_
  clear hc
  rintro e w3 ⟨so, Ao, no, co, rfl, ho, hb⟩
  replace hE := hE.step hb
  clear hb
  replace hE := hE.wv ho
  clear ho
  go_upto_region 4 with (fail)
  obtain ⟨g4, hg4⟩ : ∃ g4, g4 = w3.heap.size := ⟨_, rfl⟩
  have hl4_0 : w.heap.size < g4 := by rw [hg4]; exact (hE.here.1.1.1.2).lt
  have hl4_2 : g2 < g4 := by rw [hg4]; exact (hE.here.1.2).lt
  replace hE := hE.blk 24 #[.bool so, .slice Ao no co] (g := g4) hg4.symm
  generalize w3.alloc (.cells #[.bool so, .slice Ao no co] 24) = W4 at hE ⊢
  rw [← hg4]
  clear hg4
  go_wp2_with fail
  have hc : Calls Tryz.prog 90 #[.string ⟨#[50]⟩] _ (WOK 2 _) := parse_w (l := [50]) (z := 2) W4 (by decide) (numOK_digit 50 (by decide)) (by decide) (by decide) (by decide)
  refine hc.mono ?_
  clear hc
  rintro e w5 ⟨sy, Ay, ny, cy, rfl, hy, hb⟩
  replace hE := hE.step hb
  clear hb
  replace hE := hE.wv hy
  clear hy
  have hgl6 : w.heap.size ≤ g4 := by omega
  obtain ⟨x6_0, x6_1⟩ := (hE.here.1.2).c2
  have f6_0 := (hE.here.1.2).frozen 0
  have f6_1 := (hE.here.1.2).frozen 1
  replace hE := (((((((Env.again (bel2 hE.bel hgl6 (.bool sy) (.slice Ay ny cy))).blkI ((hE.here.1.1.1.1.1.2).far2 (R := g4) (by omega) (.bool sy) (.slice Ay ny cy))).wv ((hE.here.1.1.1.1.2).sep2 hE.here.1.2 rfl (.bool sy) (.slice Ay ny cy) rfl)).blkI ((hE.here.1.1.1.2).far2 (R := g4) (by omega) (.bool sy) (.slice Ay ny cy))).wv ((hE.here.1.1.2).sep2 hE.here.1.2 rfl (.bool sy) (.slice Ay ny cy) rfl)).blkI ((hE.here.1.2).s2 (.bool sy) (.slice Ay ny cy))).wv ((hE.here.2).sep2 hE.here.1.2 rfl (.bool sy) (.slice Ay ny cy) rfl))
  go_upto_region 6 with (fail)
  clear x6_0 x6_1 f6_0 f6_1 hgl6
  generalize ((w5.setCell ⟨g4, 0, none⟩ (.bool sy)).setCell ⟨g4, 1, none⟩ (.slice Ay ny cy)) = W6 at hE ⊢
  go_upto_region 10 with (fail)
  obtain ⟨k7, k8⟩ := (hE.here.1.1.1.2).c2
  obtain ⟨k9, k10⟩ := (hE.here.1.2).c2
  go_upto_region 11 with (fail)
  clear k7 k8 k9 k10
  obtain ⟨g11, hg11⟩ : ∃ g11, g11 = W6.heap.size := ⟨_, rfl⟩
  have hl11_0 : w.heap.size < g11 := by rw [hg11]; exact (hE.here.1.1.1.1.1.2).lt
  have hl11_2 : g2 < g11 := by rw [hg11]; exact (hE.here.1.1.1.2).lt
  have hl11_4 : g4 < g11 := by rw [hg11]; exact (hE.here.1.2).lt
  replace hE := hE.blk 65 #[.bool sx, .slice Ax nx cx, .bool sy, .slice Ay ny cy] (g := g11) hg11.symm
  generalize W6.alloc (.cells #[.bool sx, .slice Ax nx cx, .bool sy, .slice Ay ny cy] 65) = W11 at hE ⊢
  rw [← hg11]
  clear hg11
  obtain ⟨k12, k13, k14, k15⟩ := (hE.here.2).c4
  go_wp2_with fail
  refine (flong_r sx sy Ax Ay nx ny cx cy _ false (by rw [(hE.here.1.1.1.1.1.2).len, (hE.here.1.2).len]; decide)).mono ?_
  clear k12 k13 k14 k15
  rintro e w8 ⟨rfl, hb⟩
  replace hE := hE.step hb
  clear hb
  obtain ⟨k16, k17, k18, k19⟩ := (hE.here.2).c4
  go_wp2_with fail
  have hx := hE.here.1.1.1.1.1.2
  have hy := hE.here.1.2
  have hok : okF sx nx (dgt b16 0) sy ny (dgt b16 2) = false := by rw [hx.sgn, hy.sgn, hx.len, hy.len]; decide +kernel
  have hrd : FRd w8 Ax nx (dgt b16 0) Ay ny (dgt b16 2) := ⟨by have := hx.2.2; unfold Num16 at this; rw [← hx.2.1] at this; exact this, by have := hy.2.2; unfold Num16 at this; rw [← hy.2.1] at this; exact this, fun j _ => dgt16_lt _ j, fun j _ => dgt16_lt _ j⟩
  have l1 : nx ≤ 1000000 := by rw [hx.len]; decide
  have l2 : ny ≤ 1000000 := by rw [hy.len]; decide
  refine (ftvalid_r sx sy Ax Ay nx ny cx cy _ _ _ hrd l1 l2 false hok).mono ?_
  clear k16 k17 k18 k19
  clear hx hy hok hrd l1 l2
  rintro e w9 ⟨rfl, hb⟩
  replace hE := hE.step hb
  clear hb
  obtain ⟨k20, k21, k22, k23⟩ := (hE.here.1.1.1.1.1.1.2).c4
  have z0 := (hE.here.1.1.1.1.1.1.2).frozen 0
  have z1 := (hE.here.1.1.1.1.1.1.2).frozen 1
  have z2 := (hE.here.1.1.1.1.1.1.2).frozen 2
  have z3 := (hE.here.1.1.1.1.1.1.2).frozen 3
  have hbl := bel4 hE.bel (Nat.le_refl _) (.bool false) (.slice none 0 0) (.bool false) (.slice none 0 0)
  have hB := (hE.here.1.1.1.1.1.1.2).s4 (.bool false) (.slice none 0 0) (.bool false) (.slice none 0 0)
  clear hE
  go_wp2_with fail
  obtain ⟨y0, y1, y2, y3⟩ := hB.c4
  refine bodyPost_ret (v := .tuple #[.agg #[.bool false, .slice none 0 0, .bool false, .slice none 0 0], .int .i64 21]) (by simp [results, Tryz.results51, go_sem, y0, y1, y2, y3]) rfl ?_
  exact ⟨rfl, hbl⟩
end Go.Proofs.YtifikcemcflgjaaGreat
