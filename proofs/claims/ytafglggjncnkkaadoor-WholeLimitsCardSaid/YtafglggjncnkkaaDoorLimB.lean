/-
  Several texts in one: The value of a decimal numeral. The walk of whole.timesShort. The walk of whole.Parse. Texts and the numbers that they stand for: plain laws. The walk of annuitantkit's Pick. The walk of the law's same, at equal numbers and equal errors. Numbers whose limbs are all equal; long decimal forms; the functions of two numbers with arguments of any length: contracts that say the number and the error. The reference's Add, Sub and Mul with an argument that is too long: contracts for arguments of any length. The walk of WholeLimits.
-/
import Derived.Lib.ItoaNum
import Derived.Test.YtafglggjncnkkaaDoorMath1
import Derived.Test.YtafglggjncnkkaaDoorTrim
import Derived.Test.YtafglggjncnkkaaDoorCollect
import Derived.Test.YtafglggjncnkkaaDoorV
import Derived.Deep.CutRange
import Derived.WalkSpells
import Derived.Test.YtafglggjncnkkaaDoorTextV
import Derived.Test.YtafglggjncnkkaaDoorNum
import Derived.WalkKit
import Derived.Test.YtafglggjncnkkaaDoorLimA
import Derived.Deep.DrawnRows
namespace Go.Proofs.YtafglggjncnkkaaDoor

/-- The value of a list of digits. -/
def pv (l : List UInt8) : Nat := l.foldl (fun s c => s * 10 + (c.toNat - 48)) 0
def isDg (c : UInt8) : Bool := decide (48 ≤ c.toNat) && decide (c.toNat ≤ 57)
theorem pv_nil : pv [] = 0 := rfl
theorem pv_snoc (l : List UInt8) (c : UInt8) : pv (l ++ [c]) = pv l * 10 + (c.toNat - 48) := by simp [pv]
theorem pv_append (l m : List UInt8) : pv (l ++ m) = pv l * 10 ^ m.length + pv m := by
  rw [← List.reverse_reverse m]
  generalize m.reverse = r
  induction r with
  | nil => simp [pv]
  | cons c r ih =>
    rw [List.reverse_cons, ← List.append_assoc, pv_snoc, pv_snoc, ih, List.length_append, List.length_singleton, Nat.pow_succ, Nat.add_mul, ← Nat.mul_assoc, Nat.add_assoc]
theorem pv_lt (l : List UInt8) (h : ∀ c ∈ l, c.toNat ≤ 57) : pv l < 10 ^ l.length := by
  rw [← List.reverse_reverse l] at h ⊢
  generalize l.reverse = r at h ⊢
  induction r with
  | nil => simp [pv]
  | cons c r ih =>
    rw [List.reverse_cons] at h ⊢
    have h1 := ih fun d hd => h d (by simp [List.mem_reverse.1 hd])
    have h2 := h c (by simp)
    rw [pv_snoc, List.length_append, List.length_singleton, Nat.pow_succ]
    have h3 : (pv r.reverse + 1) * 10 ≤ 10 ^ r.reverse.length * 10 := Nat.mul_le_mul_right _ h1
    omega
theorem ofNat_dg {k : Nat} (h : k < 10) : (UInt8.ofNat (48 + k)).toNat = 48 + k := by rw [UInt8.toNat_ofNat']; omega
theorem dec_dg (u : Nat) : ∀ c ∈ Lib.decDigits u, 48 ≤ c.toNat ∧ c.toNat ≤ 57 := by
  intro c hc
  rw [Lib.decDigits_eq] at hc
  obtain ⟨t, -, rfl⟩ := List.mem_map.1 hc
  unfold Lib.dg
  rw [ofNat_dg (Nat.mod_lt _ (by decide))]
  have := Nat.mod_lt (u / 10 ^ (Lib.nDigits u - 1 - t)) (show 0 < 10 by decide)
  omega
theorem pv_dec (u : Nat) : pv (Lib.decDigits u) = u := by
  induction u using Nat.strongRecOn with
  | _ u ih =>
    rw [Lib.decDigits]
    by_cases h : u < 10
    · rw [dif_pos h]
      show 0 * 10 + _ = _
      rw [ofNat_dg h]; omega
    · rw [dif_neg h, pv_snoc, ih (u / 10) (by omega), ofNat_dg (Nat.mod_lt _ (by decide))]; omega
theorem dec_head_pos {u : Nat} (h : 0 < u) : (Lib.decDigits u).head? ≠ some 48 := by
  induction u using Nat.strongRecOn with
  | _ u ih =>
    rw [Lib.decDigits]
    by_cases h10 : u < 10
    · rw [dif_pos h10]
      simp only [List.head?_cons, ne_eq, Option.some.injEq]
      intro e
      have := congrArg UInt8.toNat e
      rw [ofNat_dg h10] at this
      have e48 : (48 : UInt8).toNat = 48 := rfl
      omega
    · rw [dif_neg h10, List.head?_append]
      have := ih (u / 10) (by omega) (by omega)
      cases hd : (Lib.decDigits (u / 10)).head? with
      | none => have h0 : Lib.decDigits (u / 10) = [] := by simpa using hd
                have := Lib.nDigits_pos (u / 10); rw [← Lib.decDigits_length, h0] at this; simp at this
      | some c => rw [hd] at this; simpa using this
theorem u8_of {c : UInt8} (h1 : 48 ≤ c.toNat) (h2 : c.toNat ≤ 57) : UInt8.ofNat (48 + (c.toNat - 48)) = c := by
  apply UInt8.toNat.inj
  rw [ofNat_dg (by omega)]; omega
/-- A text without a leading zero is the numeral of its value. -/
theorem dec_pv (l : List UInt8) (hd : ∀ c ∈ l, 48 ≤ c.toNat ∧ c.toNat ≤ 57) (h0 : l.head? ≠ some 48) (hl : l ≠ []) : Lib.decDigits (pv l) = l ∧ 0 < pv l := by
  rw [← List.reverse_reverse l] at hd h0 hl ⊢
  generalize l.reverse = r at hd h0 hl ⊢
  induction r with
  | nil => simp at hl
  | cons c r ih =>
    rw [List.reverse_cons] at hd h0 ⊢
    have hc := hd c (by simp)
    rw [pv_snoc]
    by_cases hr : r.reverse = []
    · rw [hr] at h0 ⊢
      have hne : c ≠ 48 := by simpa using h0
      have hp : c.toNat ≠ 48 := fun e => hne (UInt8.toNat.inj e)
      have e0 : pv [] * 10 + (c.toNat - 48) = c.toNat - 48 := by simp [pv]
      rw [e0, Lib.decDigits_one (by omega), u8_of hc.1 hc.2]
      exact ⟨rfl, by omega⟩
    · obtain ⟨h1, h2⟩ := ih (fun d hd' => hd d (by simp [List.mem_reverse.1 hd'])) (by
        rw [List.head?_append] at h0
        cases hh : r.reverse.head? with
        | none => simp at hh hr; exact absurd hh hr
        | some d => rw [hh] at h0; simpa using h0) hr
      refine ⟨?_, by omega⟩
      rw [Lib.decDigits, dif_neg (by omega), show (pv r.reverse * 10 + (c.toNat - 48)) / 10 = pv r.reverse by omega, show (pv r.reverse * 10 + (c.toNat - 48)) % 10 = c.toNat - 48 by omega, h1, u8_of hc.1 hc.2]
end Go.Proofs.YtafglggjncnkkaaDoor
namespace Go.Proofs.YtafglggjncnkkaaDoor
open Go.RowKit

set_option maxHeartbeats 400000 in
theorem timesShort_any (A : Option Addr) (c x m p : Nat) (w : World) (hx : Num32 w A x) (hm : m < 4294967296) (hp : p < 4294967296) (hn : ln b32 x ≤ 1000000) :
    Calls Tryd.prog 47 #[.slice A (ln b32 x) c, .int .u32 (m : Int), .int .u32 (p : Int)] w (W32 w (x * m + p)) := by
  have HN := Lib.hid (@tdg_total x m p hm hp)
  have hmk := mk32 0 (ln b32 x + 1) (by omega) (by omega)
  rw [show ((ln b32 x + 1 : Nat) : Int) = (ln b32 x : Int) + 1 by omega, show ((0 : Nat) : Int) = 0 by rfl] at hmk
  go_enter Tryd.func47, Tryd.ntmps47
  go_wp2_with fail
  refine (collector_any _ _).mono ?_
  rintro e w1 ⟨rfl, rfl⟩
  go_wp2_with fail
  clear hmk
  go_loopw [9, 21] (fun e i wr => ∃ k : Nat, k ≤ ln b32 x ∧ i = .int .i64 k ∧ e = .int .u64 (ex p k : Nat) ∧ Coll w.heap.size (w.heap.size + 1 + 1 + 1) (w.heap.size + 1 + 1) (w.heap.size + 1) w.heap.size (ln b32 x + 1) (tdg (dgt b32 x) m p) wr k (tcry (dgt b32 x) m p k) ∧ Below w.heap.size w wr) (fun _ i _ => ln b32 x - (intOf i).toNat)
  case atStart => exact ⟨0, Nat.zero_le _, rfl, rfl, coll_start _ _ _, coll_below _ _ _ _ _⟩
  case round =>
    obtain ⟨k, hk, rfl, rfl, hcoll, hbel⟩ := hrel
    have hcr := tcry_lt (fun i => dgt32_lt x i) hm hp k
    have hex := ex_lt (k := k) hp
    by_cases hlt : k < ln b32 x
    · have hxk := dgt32_lt x k
      obtain ⟨b, o, rfl, hb, hca⟩ := hx (by omega)
      have c0 := (hbel.cell (p := ⟨b, o + k, none⟩) hb).trans (hca k hlt)
      have hmul := mul_digit hxk hm
      have hmulI : ((dgt b32 x k : Nat) : Int) * (m : Int) ≤ 18446744065119617025 := by rw [← Int.natCast_mul]; omega
      have hmul0 : 0 ≤ ((dgt b32 x k : Nat) : Int) * (m : Int) := by rw [← Int.natCast_mul]; omega
      have hsum : dgt b32 x k * m + ex p k + tcry (dgt b32 x) m p k < 18446744073709551616 := by omega
      have hcol := collect_int _ _ _ _ _ _ _ _ _ (dgt b32 x k * m + ex p k) (((dgt b32 x k : Nat) : Int) * (m : Int) + (ex p k : Nat)) _ hcoll (by omega) hsum rfl (by rw [Int.natCast_add, Int.natCast_mul])
      have HC := Lib.hid hcol
      clear hcol hmul hsum
      go_wp2_with fail
      refine HC.out.mono ?_
      rintro e w2 ⟨rfl, hcoll2, hbel2⟩
      go_wp2
      go_roundw
      case rel => exact ⟨k + 1, by omega, by go_num, rfl, hcoll2, hbel.trans hbel2⟩
      case measure => simp [intOf]; omega
    · obtain rfl : k = ln b32 x := by omega
      have h0 : dgt b32 x (ln b32 x) = 0 := dgt_of_lt (lt_pow_ln b32_two x)
      have hcol := collect_int _ _ _ _ _ _ _ _ _ (ex p (ln b32 x)) ((ex p (ln b32 x) : Nat) : Int) _ hcoll (by omega) (by omega) (by rw [tdg, h0, Nat.zero_mul, Nat.zero_add]) rfl
      have HC := Lib.hid hcol
      clear hcol h0
      go_wp2_with fail
      refine HC.out.mono ?_
      rintro e w2 ⟨rfl, hcoll2, hbel2⟩
      have c3 := cell_of_one hcoll2.var
      have ht := trim_any (some ⟨w.heap.size, 0, none⟩) _ (ln b32 x + 1) _ w2 (hcoll2.row.rd (Nat.le_refl _) hcoll2.row.lt) (fun i _ => tdg_lt ..) (Nat.le_refl _) (by omega)
      rw [HN.out] at ht
      have HT := Lib.hid ht
      clear ht
      go_wp2_with fail
      refine HT.out.mono ?_
      rintro e w3 ⟨rfl, rfl, hnum, hlc⟩
      go_wp2
      go_ret
      exact ⟨_, _, rfl, hlc, hnum, hbel.trans hbel2⟩
end Go.Proofs.YtafglggjncnkkaaDoor
namespace Go.Proofs.YtafglggjncnkkaaDoor
open Go.RowKit

def str (l : List UInt8) : ByteArray := ⟨l.toArray⟩
theorem str_size (l : List UInt8) : (str l).size = l.length := by simp [str, ByteArray.size]
theorem idx_at {l : List UInt8} {k : Nat} (h : k < l.length) (W : World) : (Instr.index 9 (.string (str l)) (.int .i64 (k : Int))).run Tryd.prog W = .ok (.int .u8 ((l[k].toNat : Nat) : Int)) W := by
  have hs := str_size l
  rw [run_index_string W 9 (str l) .i64 (k : Int) Tryd.underlying9, dif_pos (by omega)]
  congr 1
theorem slice_at {l : List UInt8} {k : Nat} (h : k ≤ l.length) (W : World) : (Instr.slice 9 (.string (str l)) (some (.int .i64 (k : Int))) none none).run Tryd.prog W = .ok (.string (str (l.drop k))) W := by
  have hs := str_size l
  rw [run_slice_string_l W 9 (str l) Tryd.underlying9 .i64 (k : Int) (by omega) (by omega)]
  have e : (str l).extract (k : Int).toNat (str l).size = str (l.drop k) := by
    apply ByteArray.ext
    rw [ByteArray.data_extract, hs, Int.toNat_natCast]
    simp [str, List.take_of_length_le]
  rw [e]
/-- Does a text open with a minus sign? -/
def negT (l : List UInt8) : Bool := l.head? == some 45
def bodyT (l : List UInt8) : List UInt8 := if negT l then l.drop 1 else l
def badHead (g : Bool) (d : List UInt8) : Bool := d.isEmpty || (d.head? == some 48 && (g || decide (1 < d.length)))
def allDg (d : List UInt8) (k : Nat) : Prop := ∀ i, i < k → ∀ c, d[i]? = some c → 48 ≤ c.toNat ∧ c.toNat ≤ 57
def numOK (l : List UInt8) : Prop := badHead (negT l) (bodyT l) = false ∧ allDg (bodyT l) (bodyT l).length
/-- What whole.Parse returns. -/
def ParseR (l : List UInt8) (w : World) (e : Ending) (w' : World) : Prop :=
  (¬ numOK l ∧ ErrW1 10 w e w') ∨ (numOK l ∧ 4933 < (bodyT l).length ∧ ErrW1 3 w e w') ∨ (numOK l ∧ (bodyT l).length ≤ 4933 ∧ RI w (toI (negT l) (pv (bodyT l))) e w')
def lenS : Value → Nat
  | .string s => s.size
  | _ => 0
theorem str_drop {l : List UInt8} {k : Nat} (_ : k ≤ l.length) : (str l).extract k l.length = str (l.drop k) := by
  have hs := str_size l
  apply ByteArray.ext
  rw [ByteArray.data_extract]
  simp [str, List.take_of_length_le]
theorem u8_eq (c d : UInt8) : (((c.toNat : Nat) : Int) == ((d.toNat : Nat) : Int)) = (c == d) := by
  by_cases h : c = d
  · subst h; simp
  · have h1 : c.toNat ≠ d.toNat := fun e => h (UInt8.toNat.inj e)
    rw [beq_eq_false_iff_ne.2 (show ((c.toNat : Nat) : Int) ≠ ((d.toNat : Nat) : Int) by omega), beq_eq_false_iff_ne.2 h]
theorem neg_cons (c : UInt8) (r : List UInt8) : negT (c :: r) = (c == 45) := by simp [negT]
theorem badHead_cons (g : Bool) (c : UInt8) (r : List UInt8) : badHead g (c :: r) = (c == 48 && (g || decide (0 < r.length))) := by simp [badHead]
set_option linter.unusedSimpArgs false in
set_option maxRecDepth 100000 in
set_option maxHeartbeats 4000000 in
theorem parse_walk (l : List UInt8) (w : World) (hl : l.length ≤ 1000000) : Calls Tryd.prog 22 #[.string (str l)] w (ParseR l w) := by
  have hb0 : Below w.heap.size w (w.alloc (.cells #[.bool false, .slice none 0 0] 24)) := (Below.refl _ w).alloc (Nat.le_refl _) _
  have hR0 := WholeAt.new w false (.slice none 0 0)
  obtain ⟨w0, hw0⟩ : ∃ w0, w0 = w.alloc (.cells #[.bool false, .slice none 0 0] 24) := ⟨_, rfl⟩
  rw [← hw0] at hb0 hR0
  have HW0 := Lib.hid hw0
  clear hw0
  have hs := str_size l
  go_enter Tryd.func22, Tryd.ntmps22
  go_upto_region 2 with (fail)
  rw [← HW0.out]
  go_cut [5] from 13 to 20 (fun v wx => v = .bool (negT l) ∧ wx = w0)
  case first =>
    by_cases h0 : l = []
    · subst h0
      go_wp2_with fail
      go_meet
      exact ⟨rfl, rfl⟩
    · have hp : 0 < l.length := List.length_pos_iff.2 h0
      have hi := idx_at (l := l) (k := 0) hp
      have t0 : (0 : Int) < (l.length : Int) := by omega
      obtain ⟨c, r, rfl⟩ := List.exists_cons_of_ne_nil h0
      go_wp2_with fail
      go_meet
      exact ⟨by rw [neg_cons, ← u8_eq]; rfl, rfl⟩
  case rest =>
  obtain ⟨rfl, rfl⟩ := hcut
  go_upto_if 21 with (fail)
  go_cut [4, 5] from 21 to 23 (fun v u wx => v = .string (str (bodyT l)) ∧ u = .bool (negT l) ∧ wx = wc)
  case first =>
    cases hn : negT l
    · go_wp2_with fail
      go_meet
      exact ⟨by unfold bodyT; rw [hn]; rfl, by rw [hn], rfl⟩
    · have hp : 1 ≤ l.length := by
        cases l with
        | nil => simp [negT] at hn
        | cons c r => simp
      have hsl := slice_at (l := l) (k := 1) hp
      have t1 : (1 : Int) ≤ (l.length : Int) := by omega
      go_wp2_with fail
      go_meet
      refine ⟨?_, by rw [hn], rfl⟩
      unfold bodyT
      rw [hn]
      first | rfl | exact congrArg Value.string (str_drop hp)
  case rest =>
  obtain ⟨rfl, rfl, rfl⟩ := hcut
  obtain ⟨d, hd⟩ : ∃ d, d = bodyT l := ⟨_, rfl⟩
  obtain ⟨g, hg⟩ : ∃ g, g = negT l := ⟨_, rfl⟩
  rw [← hd, ← hg]
  have hdl : d.length ≤ 1000000 := by
    rw [hd]; unfold bodyT
    split
    · rw [List.length_drop]; omega
    · exact hl
  have HD := Lib.hid hd
  have HG := Lib.hid hg
  clear hd hg hl hs
  have hs := str_size d
  obtain ⟨r0, r1⟩ := hR0.cells
  have g0 := hR0.frozen 0
  have g1 := hR0.frozen 1
  go_upto_region 5 with (fail)
  go_cut [39, 5] from 24 to 39 (fun v u wx => v = .bool (badHead g d) ∧ u = .bool g ∧ wx = wc)
  case first =>
    by_cases h0 : d = []
    · subst h0
      go_wp2_with fail
      go_meet
      exact ⟨rfl, rfl, rfl⟩
    · obtain ⟨c, r, rfl⟩ := List.exists_cons_of_ne_nil h0
      have hz : (str (c :: r))[0]'(by rw [str_size]; simp) = c := rfl
      have t0 : (0 : Int) < ((c :: r).length : Int) := by simp only [List.length_cons]; omega
      have t1 : ((r.length : Int) + 1 == 0) = false := beq_eq_false_iff_ne.2 (by omega)
      by_cases hc : c = 48
      · subst hc
        cases g
        · go_wp2_with fail
          go_meet
          exact ⟨by rw [badHead_cons, show ((48 : UInt8) == 48) = true from rfl, Bool.true_and, Bool.false_or]; exact congrArg Value.bool (decide_eq_decide.2 (by omega)), rfl, rfl⟩
        · go_wp2_with fail
          go_meet
          exact ⟨by rw [badHead_cons]; rfl, rfl, rfl⟩
      · have t2 : (((c.toNat : Nat) : Int) == 48) = false := (u8_eq c 48).trans (beq_eq_false_iff_ne.2 hc)
        go_wp2_with fail
        go_meet
        exact ⟨by rw [badHead_cons, beq_eq_false_iff_ne.2 hc, Bool.false_and], rfl, rfl⟩
  case rest =>
  obtain ⟨rfl, rfl, rfl⟩ := hcut
  cases hbad : badHead g d
  · go_wp2_with fail
    go_loopw [43] (fun i wr => ∃ k : Nat, k ≤ d.length ∧ i = .int .i64 (k : Int) ∧ Hid (allDg d k) ∧ wr = wc) (fun i _ => d.length - (intOf i).toNat)
    case atStart => exact ⟨0, Nat.zero_le _, rfl, Lib.hid (fun i hi => absurd hi (by omega)), rfl⟩
    case round =>
      obtain ⟨k, hk, rfl, hdg, rfl⟩ := hrel
      by_cases hlt : k < d.length
      · obtain ⟨c, hc⟩ : ∃ c, d[k] = c := ⟨_, rfl⟩
        have hix := fun W => idx_at (l := d) hlt W
        rw [hc] at hix
        have hz : (str d)[k]'(by rw [hs]; exact hlt) = c := hc
        have t0 : (k : Int) < (d.length : Int) := by omega
        by_cases h1 : 48 ≤ c.toNat
        · by_cases h2 : c.toNat ≤ 57
          · have t1 : decide (((c.toNat : Nat) : Int) < 48) = false := decide_eq_false (by omega)
            have t2 : decide ((57 : Int) < ((c.toNat : Nat) : Int)) = false := decide_eq_false (by omega)
            have n1 : ¬ c.toNat < 48 := by omega
            have n2 : ¬ 57 < c.toNat := by omega
            have n3 : decide (c.toNat < 48) = false := decide_eq_false n1
            have n4 : decide (57 < c.toNat) = false := decide_eq_false n2
            have hnext : allDg d (k + 1) := fun i hi x hx => by
              rcases Nat.lt_or_ge i k with h3 | h3
              · exact hdg.out i h3 x hx
              · obtain rfl : i = k := by omega
                rw [List.getElem?_eq_getElem hlt, hc] at hx
                obtain rfl := Option.some.inj hx
                exact ⟨h1, h2⟩
            have HN := Lib.hid hnext
            clear hnext
            go_wp2_with fail
            go_roundw
            case rel => exact ⟨k + 1, by omega, by go_num, HN, by first | trivial | rfl⟩
            case measure => simp [intOf]; omega
          · have n1 : ¬ c.toNat < 48 := by omega
            have t1 : decide (((c.toNat : Nat) : Int) < 48) = false := decide_eq_false (by omega)
            have t2 : decide ((57 : Int) < ((c.toNat : Nat) : Int)) = true := decide_eq_true (by omega)
            have hno : ¬ numOK l := fun h => by
              have h3 := h.2
              rw [← HD.out] at h3
              have h4 := h3 k hlt c (by rw [List.getElem?_eq_getElem hlt, hc])
              omega
            obtain ⟨hW, hbW⟩ := store_whole hR0 hb0 (Nat.le_refl _) false (.slice none 0 0)
            have HW := Lib.hid hW
            clear hW
            go_wp2_with fail
            have hW := HW.out
            clear HW
            generalize ((wr.setCell ⟨w.heap.size, 0, none⟩ (.bool false)).setCell ⟨w.heap.size, 1, none⟩ (.slice none 0 0)) = WW at *
            obtain ⟨y0, y1⟩ := hW.cells
            refine bodyPost_ret (v := .tuple #[.agg #[.bool false, .slice none 0 0], .int .i64 10]) (by simp [results, Tryd.results22, go_sem, y0, y1]) rfl ?_
            exact .inl ⟨hno, rfl, hbW⟩
        · have t1 : decide (((c.toNat : Nat) : Int) < 48) = true := decide_eq_true (by omega)
          have hno : ¬ numOK l := fun h => by
            have h3 := h.2
            rw [← HD.out] at h3
            have h4 := h3 k hlt c (by rw [List.getElem?_eq_getElem hlt, hc])
            omega
          obtain ⟨hW, hbW⟩ := store_whole hR0 hb0 (Nat.le_refl _) false (.slice none 0 0)
          have HW := Lib.hid hW
          clear hW
          go_wp2_with fail
          have hW := HW.out
          clear HW
          generalize ((wr.setCell ⟨w.heap.size, 0, none⟩ (.bool false)).setCell ⟨w.heap.size, 1, none⟩ (.slice none 0 0)) = WW at *
          obtain ⟨y0, y1⟩ := hW.cells
          refine bodyPost_ret (v := .tuple #[.agg #[.bool false, .slice none 0 0], .int .i64 10]) (by simp [results, Tryd.results22, go_sem, y0, y1]) rfl ?_
          exact .inl ⟨hno, rfl, hbW⟩
      · obtain rfl : k = d.length := by omega
        have hok : numOK l := by
          unfold numOK
          rw [← HD.out, ← HG.out]
          exact ⟨hbad, hdg.out⟩
        have HOK := Lib.hid hok
        clear hok
        by_cases h5 : d.length ≤ 4933
        · have t1 : decide ((4933 : Int) < (d.length : Int)) = false := decide_eq_false (by omega)
          have hdgs := hdg.out
          have HDG := Lib.hid hdgs
          clear hdgs hdg hlt
          go_wp2_with fail
          go_loopw [4, 7] (fun v y wx => ∃ (k : Nat) (A : Option Addr) (c : Nat), k ≤ d.length ∧ v = .string (str (d.drop k)) ∧ y = .slice A (ln b32 (pv (d.take k))) c ∧ Num32 wx A (pv (d.take k)) ∧ ln b32 (pv (d.take k)) ≤ c ∧ WholeAt wx w.heap.size false (.slice none 0 0) ∧ Below w.heap.size w wx) (fun v _ _ => lenS v)
          case atStart =>
            refine ⟨0, none, 0, Nat.zero_le _, by simp, ?_, ?_, ?_, hR0, hb0⟩
            · rw [List.take_zero, pv_nil, ln_zero]
            · rw [List.take_zero, pv_nil]; exact Num32.zero _ _
            · rw [List.take_zero, pv_nil, ln_zero]; exact Nat.le_refl _
          case round =>
            obtain ⟨k, A, cc, hk2, rfl, rfl, hn, hcc, hRx, hbx⟩ := hrel
            by_cases hlt2 : k < d.length
            · have hs2 := str_size (d.drop k)
              rw [List.length_drop] at hs2
              obtain ⟨m, hm⟩ : ∃ m, m = d.length - k := ⟨_, rfl⟩
              rw [← hm] at hs2
              have t2 : (0 : Int) < (m : Int) := by omega
              obtain ⟨cnt, hcnt⟩ : ∃ cnt, cnt = min 9 m := ⟨_, rfl⟩
              have hc9 : cnt ≤ 9 := by omega
              have hcm : cnt ≤ m := by omega
              have hcp : 0 < cnt := by omega
              have hmin : min (9 : Int) (m : Int) = (cnt : Int) := by omega
              have HM := Lib.hid hm
              clear hm hcnt
              go_wp2_with fail
              obtain ⟨e, he⟩ : ∃ e, e = d.drop k := ⟨_, rfl⟩
              rw [← he] at hs2 ⊢
              have hel : e.length = m := by rw [he, List.length_drop, HM.out]
              have hed : ∀ j, j < m → ∀ x, e[j]? = some x → 48 ≤ x.toNat ∧ x.toNat ≤ 57 := by
                intro j hj x hx
                rw [he, List.getElem?_drop] at hx
                exact HDG.out (k + j) (by have := HM.out; omega) x hx
              have HE := Lib.hid he
              clear he
              go_loopw [9, 10, 69] (fun x y i wy => ∃ j : Nat, j ≤ cnt ∧ i = .int .i64 (j : Int) ∧ x = .int .u32 ((10 ^ j : Nat) : Int) ∧ y = .int .u32 ((pv (e.take j) : Nat) : Int) ∧ wy = wr) (fun _ _ i _ => cnt - (intOf i).toNat)
              case atStart => exact ⟨0, Nat.zero_le _, rfl, rfl, by rw [List.take_zero]; rfl, rfl⟩
              case round =>
                obtain ⟨j, hj, rfl, rfl, rfl, rfl⟩ := hrel
                by_cases hj2 : j < cnt
                · have hje : j < e.length := by omega
                  obtain ⟨c, hc⟩ : ∃ c, e[j] = c := ⟨_, rfl⟩
                  have hc2 := hed j (by omega) c (by rw [List.getElem?_eq_getElem hje, hc])
                  have hix := fun W => idx_at (l := e) hje W
                  rw [hc] at hix
                  have t3 : (j : Int) < (cnt : Int) := by omega
                  have t4 : (j : Int) < (m : Int) := by omega
                  have hp10 : 10 ^ j ≤ 100000000 := Nat.pow_le_pow_right (n := 10) (by decide) (show j ≤ 8 by omega)
                  have htk : pv (e.take j) < 100000000 := by
                    have h6 := pv_lt (e.take j) (fun x hx => by
                      obtain ⟨i, hi, rfl⟩ := List.mem_take_iff_getElem.1 hx
                      exact (hed i (by omega) _ (List.getElem?_eq_getElem _)).2)
                    rw [List.length_take, Nat.min_eq_left (by omega)] at h6
                    omega
                  have hstep : pv (e.take (j + 1)) = pv (e.take j) * 10 + (c.toNat - 48) := by
                    rw [List.take_succ_eq_append_getElem hje, pv_snoc, hc]
                  have HST := Lib.hid hstep
                  obtain ⟨V, hV⟩ : ∃ V, V = pv (e.take j) := ⟨_, rfl⟩
                  rw [← hV] at htk ⊢
                  have HV := Lib.hid hV
                  obtain ⟨T, hT⟩ : ∃ T, T = 10 ^ j := ⟨_, rfl⟩
                  rw [← hT] at hp10 ⊢
                  have HT := Lib.hid hT
                  clear hstep hV hT
                  have o1 : IntKind.u32.wrap ((T : Int) * 10) = (T : Int) * 10 := by rw [IntKind.wrap_u32]; omega
                  have o2 : IntKind.u32.wrap ((V : Int) * 10) = (V : Int) * 10 := by rw [IntKind.wrap_u32]; omega
                  have o3 : IntKind.u8.wrap (((c.toNat : Nat) : Int) - 48) = ((c.toNat : Nat) : Int) - 48 := by rw [IntKind.wrap_u8]; omega
                  have o4 : IntKind.u32.wrap (((c.toNat : Nat) : Int) - 48) = ((c.toNat : Nat) : Int) - 48 := by rw [IntKind.wrap_u32]; omega
                  have o5 : IntKind.u32.wrap ((V : Int) * 10 + (((c.toNat : Nat) : Int) - 48)) = (V : Int) * 10 + (((c.toNat : Nat) : Int) - 48) := by rw [IntKind.wrap_u32]; omega
                  go_wp2_with fail
                  go_roundw
                  case rel => exact ⟨j + 1, by omega, by go_num, by rw [Nat.pow_succ, ← HT.out]; go_num, by rw [HST.out, ← HV.out]; congr 1; omega, by first | trivial | rfl⟩
                  case measure => simp [intOf]; omega
                · obtain rfl : j = cnt := by omega
                  have hxl : ln b32 (pv (d.take k)) ≤ 1000000 := by
                    have h6 := pv_lt (d.take k) (fun x hx => by
                      obtain ⟨i, hi, rfl⟩ := List.mem_take_iff_getElem.1 hx
                      exact (HDG.out i (by omega) _ (List.getElem?_eq_getElem _)).2)
                    have h7 : ln b32 (pv (d.take k)) ≤ (d.take k).length := (ln_le b32_two).2 (Nat.lt_of_lt_of_le h6 (Nat.pow_le_pow_left (by decide) _))
                    rw [List.length_take] at h7
                    omega
                  have hpl : pv (e.take j) < 4294967296 := by
                    have h6 := pv_lt (e.take j) (fun x hx => by
                      obtain ⟨i, hi, rfl⟩ := List.mem_take_iff_getElem.1 hx
                      exact (hed i (by omega) _ (List.getElem?_eq_getElem _)).2)
                    rw [List.length_take, Nat.min_eq_left (by omega)] at h6
                    have h8 : 10 ^ j ≤ 1000000000 := Nat.pow_le_pow_right (n := 10) (by decide) hc9
                    omega
                  have hFl : 10 ^ j < 4294967296 := by
                    have h8 : 10 ^ j ≤ 1000000000 := Nat.pow_le_pow_right (n := 10) (by decide) hc9
                    omega
                  have hval : pv (d.take (k + j)) = pv (d.take k) * 10 ^ j + pv (e.take j) := by
                    rw [List.take_add, ← HE.out, pv_append, List.length_take, Nat.min_eq_left (by omega)]
                  have hdr : e.drop j = d.drop (k + j) := by rw [HE.out, List.drop_drop]
                  have hsd := str_drop (l := e) (k := j) (by omega)
                  have hsl := fun W => slice_at (l := e) (k := j) (by omega) W
                  rw [hdr] at hsd hsl
                  rw [hel] at hsd
                  obtain ⟨F, hF⟩ : ∃ F, F = 10 ^ j := ⟨_, rfl⟩
                  obtain ⟨p, hp⟩ : ∃ p, p = pv (e.take j) := ⟨_, rfl⟩
                  obtain ⟨x, hx⟩ : ∃ x, x = pv (d.take k) := ⟨_, rfl⟩
                  rw [← hF] at hFl hval ⊢
                  rw [← hp] at hpl hval ⊢
                  rw [← hx] at hxl hval hn hcc ⊢
                  have HVAL := Lib.hid hval
                  clear hF hp hx hval hed
                  have t4 : (j : Int) ≤ (m : Int) := by omega
                  go_wp2_with fail
                  refine (timesShort_any A cc x F p wr hn hFl hpl hxl).mono ?_
                  rintro e2 w7 ⟨A7, c7, rfl, hc7, hn7, hb7⟩
                  go_wp2_with fail
                  go_roundw
                  case rel => exact ⟨k + j, A7, c7, by have := HM.out; omega, rfl, by rw [HVAL.out], by rw [HVAL.out]; exact hn7, by rw [HVAL.out]; exact hc7, hRx.below hb7 hRx.lt, hbx.trans (hb7.mono hbx.size)⟩
                  case measure =>
                    show (str (List.drop (k + j) d)).size < (str (List.drop k d)).size
                    rw [str_size, str_size, List.length_drop, List.length_drop]
                    omega
            · obtain rfl : k = d.length := by omega
              rw [List.take_length] at hn hcc ⊢
              rw [List.drop_length]
              have hs3 := str_size []
              have hxl : ln b32 (pv d) ≤ 1000000 := by
                have h6 := pv_lt d (fun x hx => by
                  obtain ⟨i, hi, rfl⟩ := List.mem_iff_getElem.1 hx
                  exact (HDG.out i hi _ (List.getElem?_eq_getElem _)).2)
                have h7 : ln b32 (pv d) ≤ d.length := (ln_le b32_two).2 (Nat.lt_of_lt_of_le h6 (Nat.pow_le_pow_left (by decide) _))
                omega
              go_wp2_with fail
              refine (result_any g A cc (pv d) wr hn hcc hxl).mono ?_
              rintro e2 w8 hri
              obtain ⟨s', A', n', c', kk, rfl, hv, hb8⟩ := hri.vals
              have hR8 := hRx.below hb8 hRx.lt
              have hbl8 := hbx.trans (hb8.mono hbx.size)
              obtain ⟨q0, q1⟩ := hR8.cells
              have g2 := hR8.frozen 0
              have g3 := hR8.frozen 1
              obtain ⟨hW, hbW⟩ := store_whole hR8 hbl8 (Nat.le_refl _) s' (.slice A' n' c')
              have hv2 := (hv.store hRx.lt s' (.slice A' n' c')).lower hbx.size
              have HW := Lib.hid hW
              have HV2 := Lib.hid hv2
              clear hv hri hW hv2
              go_wp2_with fail
              have hW := HW.out
              have hv2 := HV2.out
              clear HW HV2
              generalize ((w8.setCell ⟨w.heap.size, 0, none⟩ (.bool s')).setCell ⟨w.heap.size, 1, none⟩ (.slice A' n' c')) = WW at *
              obtain ⟨y0, y1⟩ := hW.cells
              refine bodyPost_ret (v := .tuple #[.agg #[.bool s', .slice A' n' c'], .int .i64 kk]) (by simp [results, Tryd.results22, go_sem, y0, y1]) rfl ?_
              refine .inr (.inr ⟨HOK.out, by rw [← HD.out]; exact h5, ?_⟩)
              rw [← HD.out, ← HG.out]
              exact hv2.ri hbW
        · have t1 : decide ((4933 : Int) < (d.length : Int)) = true := decide_eq_true (by omega)
          have hlong : 4933 < (bodyT l).length := by rw [← HD.out]; omega
          have HLO := Lib.hid hlong
          clear hlong
          obtain ⟨hW, hbW⟩ := store_whole hR0 hb0 (Nat.le_refl _) false (.slice none 0 0)
          have HW := Lib.hid hW
          clear hW
          go_wp2_with fail
          have hW := HW.out
          clear HW
          generalize ((wr.setCell ⟨w.heap.size, 0, none⟩ (.bool false)).setCell ⟨w.heap.size, 1, none⟩ (.slice none 0 0)) = WW at *
          obtain ⟨y0, y1⟩ := hW.cells
          refine bodyPost_ret (v := .tuple #[.agg #[.bool false, .slice none 0 0], .int .i64 3]) (by simp [results, Tryd.results22, go_sem, y0, y1]) rfl ?_
          exact .inr (.inl ⟨HOK.out, HLO.out, rfl, hbW⟩)
  · have hno : ¬ numOK l := fun h => by
      have h1 := h.1
      rw [← HD.out, ← HG.out, hbad] at h1
      cases h1
    obtain ⟨hW, hbW⟩ := store_whole hR0 hb0 (Nat.le_refl _) false (.slice none 0 0)
    have HW := Lib.hid hW
    clear hW
    go_wp2_with fail
    have hW := HW.out
    clear HW
    generalize ((wc.setCell ⟨w.heap.size, 0, none⟩ (.bool false)).setCell ⟨w.heap.size, 1, none⟩ (.slice none 0 0)) = WW at *
    obtain ⟨y0, y1⟩ := hW.cells
    refine bodyPost_ret (v := .tuple #[.agg #[.bool false, .slice none 0 0], .int .i64 10]) (by simp [results, Tryd.results22, go_sem, y0, y1]) rfl ?_
    exact .inl ⟨hno, rfl, hbW⟩
end Go.Proofs.YtafglggjncnkkaaDoor
namespace Go.Proofs.YtafglggjncnkkaaDoor
open Go.RowKit

theorem pow_up {B m t j n k : Nat} (h : B ^ m ≤ t ^ j) (ht : 0 < t) (hk : j * n ≤ k) : B ^ (m * n) ≤ t ^ k := by
  rw [Nat.pow_mul]
  refine Nat.le_trans (Nat.pow_le_pow_left h n) ?_
  rw [← Nat.pow_mul]
  exact Nat.pow_le_pow_right ht hk
theorem pow_a (k : Nat) (hk : 100 * 5 ≤ k) : b16 ^ 100 ≤ 10 ^ k := pow_up (B := b16) (m := 20) (t := 10) (j := 100) (n := 5) (by decide) (by decide) hk
theorem pow_dn {t j B m n k : Nat} (h : t ^ j ≤ B ^ m) (ht : 0 < t) (hk : k ≤ j * n) : t ^ k ≤ B ^ (m * n) := by
  rw [Nat.pow_mul B]
  refine Nat.le_trans (Nat.pow_le_pow_right ht hk) ?_
  rw [Nat.pow_mul]
  exact Nat.pow_le_pow_left h n
theorem pow_b (k : Nat) (hk : k ≤ 4 * 100) : 10 ^ k ≤ b16 ^ 100 := pow_dn (t := 10) (j := 4) (B := b16) (m := 1) (n := 100) (by decide) (by decide) hk
theorem dg_cons (u : Nat) : ∃ c r, Lib.decDigits u = c :: r ∧ 48 ≤ c.toNat ∧ c.toNat ≤ 57 := by
  have hl := Lib.nDigits_pos u
  rw [← Lib.decDigits_length] at hl
  cases h : Lib.decDigits u with
  | nil => rw [h] at hl; simp at hl
  | cons c r => exact ⟨c, r, rfl, dec_dg u c (by rw [h]; simp)⟩
theorem itoa_num (z : Int) : Lib.itoa z = (if decide (z < 0) then [45] else []) ++ Lib.decDigits z.natAbs := (numeral_itoa z).symm
theorem neg_dg {c : UInt8} (h : 48 ≤ c.toNat) : (c == 45) = false := beq_eq_false_iff_ne.2 fun e => by subst e; exact absurd h (by decide)
theorem itoa_shape (z : Int) (m : List UInt8) : negT (Lib.itoa z ++ m) = decide (z < 0) ∧ bodyT (Lib.itoa z ++ m) = Lib.decDigits z.natAbs ++ m := by
  obtain ⟨c, r, hc, h1, h2⟩ := dg_cons z.natAbs
  rw [itoa_num, hc]
  cases decide (z < 0)
  · have hn : negT ((if false = true then [45] else []) ++ c :: r ++ m) = false := by
      show negT (c :: (r ++ m)) = false
      rw [neg_cons, neg_dg h1]
    refine ⟨hn, ?_⟩
    unfold bodyT
    rw [hn]
    rfl
  · have hn : negT ((if true = true then [45] else []) ++ c :: r ++ m) = true := rfl
    refine ⟨hn, ?_⟩
    unfold bodyT
    rw [hn]
    rfl
theorem allDg_of {d : List UInt8} (h : ∀ c ∈ d, 48 ≤ c.toNat ∧ c.toNat ≤ 57) (k : Nat) : allDg d k := fun _ _ c hc => h c (List.mem_of_getElem? hc)
theorem head_zero {u : Nat} {r : List UInt8} (h : Lib.decDigits u = 48 :: r) : u = 0 ∧ r = [] := by
  have h0 : u = 0 := by
    rcases Nat.eq_zero_or_pos u with h1 | h1
    · exact h1
    · exact absurd (by rw [h]; rfl) (dec_head_pos h1)
  subst h0
  rw [Lib.decDigits_one (by decide)] at h
  exact ⟨rfl, (List.cons.inj h).2.symm⟩
theorem numOK_itoa (z : Int) : numOK (Lib.itoa z) := by
  have hs := itoa_shape z []
  rw [List.append_nil, List.append_nil] at hs
  unfold numOK
  rw [hs.1, hs.2]
  refine ⟨?_, allDg_of (dec_dg _) _⟩
  obtain ⟨c, r, hc, h1, h2⟩ := dg_cons z.natAbs
  rw [hc, badHead_cons]
  by_cases hz : c = 48
  · subst hz
    obtain ⟨h3, rfl⟩ := head_zero hc
    rw [decide_eq_false (show ¬ z < 0 by omega)]
    rfl
  · rw [beq_eq_false_iff_ne.2 hz, Bool.false_and]
theorem numOK_more {z : Int} (hz : z ≠ 0) {c' : UInt8} (h : 48 ≤ c'.toNat ∧ c'.toNat ≤ 57) : numOK (Lib.itoa z ++ [c']) := by
  have hs := itoa_shape z [c']
  unfold numOK
  rw [hs.1, hs.2]
  refine ⟨?_, allDg_of (fun x hx => ?_) _⟩
  · obtain ⟨c, r, hc, h1, h2⟩ := dg_cons z.natAbs
    rw [hc, List.cons_append, badHead_cons]
    have hne : c ≠ 48 := fun e => by subst e; have := (head_zero hc).1; omega
    rw [beq_eq_false_iff_ne.2 hne, Bool.false_and]
  · rcases List.mem_append.1 hx with h3 | h3
    · exact dec_dg _ x h3
    · rw [List.mem_singleton.1 h3]; exact h
theorem pv_cons_ge {c : UInt8} {r : List UInt8} (h : 49 ≤ c.toNat) : 10 ^ r.length ≤ pv (c :: r) := by
  have h1 := pv_append [c] r
  rw [show [c] ++ r = c :: r from rfl] at h1
  rw [h1]
  have h2 : pv [c] = c.toNat - 48 := by simp [pv]
  rw [h2]
  have h3 : 1 * 10 ^ r.length ≤ (c.toNat - 48) * 10 ^ r.length := Nat.mul_le_mul_right _ (by omega)
  omega
theorem dec_len {u k : Nat} (h : u < 10 ^ k) (hk : 0 < k) : (Lib.decDigits u).length ≤ k := by
  obtain ⟨c, r, hc, h1, h2⟩ := dg_cons u
  rw [hc]
  by_cases hz : c = 48
  · subst hz
    obtain ⟨_, rfl⟩ := head_zero hc
    exact hk
  · have h3 : c.toNat ≠ 48 := fun e => hz (UInt8.toNat.inj e)
    have h4 := pv_cons_ge (c := c) (r := r) (by omega)
    rw [← hc, pv_dec] at h4
    have h5 : 10 ^ r.length < 10 ^ k := Nat.lt_of_le_of_lt h4 h
    have h6 := (Nat.pow_lt_pow_iff_right (by decide : 1 < 10)).1 h5
    rw [List.length_cons]
    omega
theorem text_len {z : Int} (h : ln b16 z.natAbs ≤ 100) : (Lib.decDigits z.natAbs).length ≤ 500 := by
  obtain ⟨k, hk⟩ : ∃ k, k = 500 := ⟨_, rfl⟩
  have h1 := dec_len (k := k) (Nat.lt_of_lt_of_le ((ln_le b16_two).1 h) (pow_a k (by omega))) (by omega)
  omega
/-- A text that is parsed is the text of its value. -/
theorem itoa_back {l : List UInt8} (h : numOK l) : Lib.itoa (toI (negT l) (pv (bodyT l))) = l := by
  obtain ⟨h1, h2⟩ := h
  have hl : l = (if negT l then [45] else []) ++ bodyT l := by
    unfold bodyT
    cases hn : negT l
    · rfl
    · cases l with
      | nil => cases hn
      | cons c r =>
        rw [neg_cons] at hn
        rw [LawfulBEq.eq_of_beq hn]
        rfl
  generalize negT l = g at *
  generalize bodyT l = d at *
  cases d with
  | nil => cases g <;> cases h1
  | cons c r =>
    rw [badHead_cons] at h1
    by_cases hc : c = 48
    · subst hc
      have h3 : (g || decide (0 < r.length)) = false := h1
      rw [Bool.or_eq_false_iff] at h3
      obtain ⟨rfl, h4⟩ := h3
      have h5 : r = [] := List.eq_nil_of_length_eq_zero (by have := of_decide_eq_false h4; omega)
      subst h5
      rw [hl, show toI false (pv [48]) = 0 from rfl, itoa_num, show (0 : Int).natAbs = 0 from rfl, Lib.decDigits_one (by decide)]
      rfl
    · have h3 := dec_pv (c :: r) (fun x hx => by
        obtain ⟨i, hi, rfl⟩ := List.mem_iff_getElem.1 hx
        exact h2 i hi _ (List.getElem?_eq_getElem _)) (by simpa using hc) (by simp)
      rw [itoa_num, toI_neg, toI_abs, h3.1, decide_eq_true h3.2, Bool.and_true]
      exact hl.symm
theorem pv_len {l : List UInt8} (h : numOK l) {k : Nat} (hk : l.length ≤ k) : pv (bodyT l) < 10 ^ k := by
  have h1 := pv_lt (bodyT l) (fun x hx => by
    obtain ⟨i, hi, rfl⟩ := List.mem_iff_getElem.1 hx
    exact (h.2 i hi _ (List.getElem?_eq_getElem _)).2)
  have h2 : (bodyT l).length ≤ l.length := by
    unfold bodyT
    split
    · rw [List.length_drop]; omega
    · exact Nat.le_refl _
  exact Nat.lt_of_lt_of_le h1 (Nat.pow_le_pow_right (by decide) (by omega))
theorem ln_text {l : List UInt8} (h : numOK l) (hk : l.length ≤ 400) : ln b16 (toI (negT l) (pv (bodyT l))).natAbs ≤ 100 := by
  rw [toI_abs]
  exact (ln_le b16_two).2 (Nat.lt_of_lt_of_le (pv_len h (Nat.le_refl _)) (pow_b _ hk))
/-- The value of a text with one digit more. -/
theorem val_more (z : Int) (c' : UInt8) : toI (negT (Lib.itoa z ++ [c'])) (pv (bodyT (Lib.itoa z ++ [c']))) = z * 10 + (if z < 0 then -((c'.toNat - 48 : Nat) : Int) else ((c'.toNat - 48 : Nat) : Int)) := by
  have hs := itoa_shape z [c']
  rw [hs.1, hs.2, pv_snoc, pv_dec]
  unfold toI
  by_cases h : z < 0
  · rw [decide_eq_true h, if_pos rfl, if_pos h]; omega
  · rw [decide_eq_false h, if_neg (by decide), if_neg h]; omega
theorem val_itoa (z : Int) : toI (negT (Lib.itoa z)) (pv (bodyT (Lib.itoa z))) = z := by
  have hs := itoa_shape z []
  rw [List.append_nil, List.append_nil] at hs
  rw [hs.1, hs.2, pv_dec, toI_int]
theorem len_body_itoa {z : Int} (h : ln b16 z.natAbs ≤ 100) (m : List UInt8) (hm : m.length ≤ 1) : (bodyT (Lib.itoa z ++ m)).length ≤ 501 ∧ (Lib.itoa z ++ m).length ≤ 502 ∧ 0 < (Lib.itoa z).length := by
  have h1 := text_len h
  have h2 := itoa_shape z m
  obtain ⟨c, r, hc, -, -⟩ := dg_cons z.natAbs
  refine ⟨by rw [h2.2, List.length_append]; omega, ?_, ?_⟩
  · rw [itoa_num, List.length_append, List.length_append]
    split <;> simp <;> omega
  · rw [itoa_num, hc, List.length_append, List.length_cons]; omega
/-- The first sign of a number's text. -/
theorem itoa_first (z : Int) : ∃ c r, Lib.itoa z = c :: r ∧ (c == 45) = decide (z < 0) := by
  have hs := itoa_shape z []
  rw [List.append_nil] at hs
  cases h : Lib.itoa z with
  | nil =>
    obtain ⟨c, r, hc, -, -⟩ := dg_cons z.natAbs
    rw [itoa_num, hc] at h
    simp at h
  | cons c r => exact ⟨c, r, rfl, by rw [← hs.1, h, neg_cons]⟩
end Go.Proofs.YtafglggjncnkkaaDoor
namespace Go.Proofs.YtafglggjncnkkaaDoor
open Go.RowKit

theorem pick_any (x n : Int) (w : World) (h1 : 1 ≤ n) (h2 : n ≤ 1000000) : Calls Tryd.prog 23 #[.int .i64 x, .int .i64 n] w fun e w' => (∃ r : Int, e = .returned (.int .i64 r) ∧ 0 ≤ r ∧ r < n) ∧ w = w' := by
  have t1 : decide (n < 1) = false := decide_eq_false (by omega)
  have hm : (x.tmod n).natAbs < n.natAbs := by rw [Int.natAbs_tmod]; exact Nat.mod_lt _ (by omega)
  have hn0 : (n == 0) = false := beq_eq_false_iff_ne.2 (by omega)
  have hn1 : ¬ n = 0 := by omega
  obtain ⟨r, hr⟩ : ∃ r, x.tmod n = r := ⟨_, rfl⟩
  rw [hr] at hm
  have o1 : IntKind.i64.wrap r = r := by rw [IntKind.wrap_i64]; omega
  go_enter Tryd.func23, Tryd.ntmps23
  by_cases h : r < 0
  · have t2 : decide (r < 0) = true := decide_eq_true h
    have o2 : IntKind.i64.wrap (r + n) = r + n := by rw [IntKind.wrap_i64]; omega
    go_wp2_with fail
    go_ret
    exact ⟨⟨r + n, rfl, by omega, by omega⟩, rfl⟩
  · have t2 : decide (r < 0) = false := decide_eq_false h
    go_wp2_with fail
    go_ret
    exact ⟨⟨r, rfl, by omega, by omega⟩, rfl⟩
end Go.Proofs.YtafglggjncnkkaaDoor
namespace Go.Proofs.YtafglggjncnkkaaDoor
open Go.RowKit

set_option linter.unusedSimpArgs false in
set_option maxRecDepth 100000 in
theorem law_same_t {a b : Int} {s t : Bool} {A B : Option Addr} {n m c d : Nat} {k : Int} {w : World} (ha : WV w a s A n) (hv : WV w b t B m) (la : n ≤ 1000000) (lb : m ≤ 1000000) (hab : a = b) :
    Calls Tryd.prog 30 #[.agg #[.bool s, .slice A n c], .int .i64 k, .agg #[.bool t, .slice B m d], .int .i64 k] w fun e w' => e = .returned (.bool true) ∧ Below w.heap.size w w' := by
  have hT := TwoP.start w s t A B n m c d
  have hc := refSame_v (c := c) (d := d) (ha.below hT.bel) (hv.below hT.bel) la lb
  rw [decide_eq_true hab] at hc
  have HC := Lib.hid hc
  clear hc ha hv
  go_enter Tryd.func30, Tryd.ntmps30
  go_wp2_with fail
  refine HC.out.mono ?_
  rintro e w1 ⟨rfl, hb1⟩
  go_wp2_with fail
  go_ret
  exact ⟨by simp, hT.bel.trans (hb1.mono hT.bel.size)⟩
end Go.Proofs.YtafglggjncnkkaaDoor
namespace Go.Proofs.YtafglggjncnkkaaDoor
open Go.RowKit

/-- The number with n limbs that are all X. -/
def repN (X n : Nat) : Nat := vs b16 (fun _ => X) n
theorem repN_ln {X n : Nat} (h0 : 0 < X) (h : X < 65536) : ln b16 (repN X n) = n := ln_vs b16_two (fun _ _ => h) (.inr (by show X ≠ 0; omega))
theorem repN_dgt {X n j : Nat} (h : X < 65536) (hj : j < n) : dgt b16 (repN X n) j = X := dgt_vs (fun _ _ => h) hj
theorem repN_pos {X n : Nat} (h0 : 0 < X) (h : X < 65536) (hn : 0 < n) : 0 < repN X n := (ln_pos b16_two).1 (by rw [repN_ln h0 h]; exact hn)
theorem repN_wv {X n : Nat} {s : Bool} {A : Option Addr} {w : World} (h0 : 0 < X) (h : X < 65536) (hs : s = false ∨ 0 < n) (hr : Rd w.heap.size .u16 w A n (fun _ => X)) : WV w (toI s (repN X n)) s A n := by
  refine ⟨?_, by rw [toI_abs, repN_ln h0 h], ?_⟩
  · rw [toI_neg]
    rcases hs with rfl | hn
    · rfl
    · rw [decide_eq_true (repN_pos h0 h hn), Bool.and_true]
  · rw [toI_abs]
    unfold Num16
    rw [repN_ln h0 h]
    exact hr.congr fun j hj => (repN_dgt h hj).symm

/-- The number and the error of a function of two numbers with n and m limbs whose result without limits is z. -/
def limZ (n m : Nat) (z : Int) : Int := if n ≤ 1024 ∧ m ≤ 1024 ∧ ln b16 z.natAbs ≤ 1024 then z else 0
def limE (n m : Nat) (z : Int) : Int := if n ≤ 1024 ∧ m ≤ 1024 then (if ln b16 z.natAbs ≤ 1024 then 0 else 3) else 2
/-- The call returned the number z with the error k. -/
def VE (z k : Int) (w : World) (e : Ending) (w' : World) : Prop := ∃ s A n c, e = .returned (.tuple #[.agg #[.bool s, .slice A n c], .int .i64 k]) ∧ WV w' z s A n ∧ n ≤ 1024 ∧ Below w.heap.size w w'
theorem lv0 (w : World) : WV w 0 false none 0 := ⟨rfl, ln_zero.symm, fun h => absurd h (by rw [show (0 : Int).natAbs = 0 from rfl, ln_zero]; exact Nat.lt_irrefl 0)⟩
theorem limZ_ok {n m : Nat} {z : Int} (h1 : n ≤ 1024) (h2 : m ≤ 1024) (h3 : ln b16 z.natAbs ≤ 1024) : limZ n m z = z ∧ limE n m z = 0 := by
  unfold limZ limE
  exact ⟨if_pos ⟨h1, h2, h3⟩, by rw [if_pos ⟨h1, h2⟩, if_pos h3]⟩
theorem limZ_long {n m : Nat} {z : Int} (h1 : n ≤ 1024) (h2 : m ≤ 1024) (h3 : 1024 < ln b16 z.natAbs) : limZ n m z = 0 ∧ limE n m z = 3 := by
  unfold limZ limE
  exact ⟨if_neg (by omega), by rw [if_pos ⟨h1, h2⟩, if_neg (by omega)]⟩
theorem limZ_bad {n m : Nat} {z : Int} (h : ¬ (n ≤ 1024 ∧ m ≤ 1024)) : limZ n m z = 0 ∧ limE n m z = 2 := by
  unfold limZ limE
  exact ⟨if_neg (by omega), if_neg h⟩
theorem ve_zero {k : Int} {w w' : World} {e : Ending} (h : e = .returned (.tuple #[.agg #[.bool false, .slice none 0 0], .int .i64 k]) ∧ Below w.heap.size w w') : VE 0 k w e w' :=
  ⟨_, _, _, _, h.1, lv0 _, by omega, h.2⟩
theorem ve_ri {n m : Nat} {z : Int} {w w' : World} {e : Ending} (h1 : n ≤ 1024) (h2 : m ≤ 1024) (h : RI w z e w') : VE (limZ n m z) (limE n m z) w e w' := by
  rcases Nat.lt_or_ge 1024 (ln b16 z.natAbs) with hl | hl
  · obtain ⟨e1, e2⟩ := limZ_long h1 h2 hl
    rw [e1, e2]
    rcases h with ⟨h3, _⟩ | ⟨_, h4, h5⟩
    · omega
    · exact ve_zero ⟨h4, h5⟩
  · obtain ⟨e1, e2⟩ := limZ_ok h1 h2 hl
    rw [e1, e2]
    obtain ⟨s, A, n', c, he, ho, hb⟩ := h.vr hl
    exact ⟨s, A, n', c, he, ho.v, by rw [ho.len]; exact hl, hb⟩
theorem ve_ref {n m : Nat} {z : Int} {w w' : World} {e : Ending} (h1 : n ≤ 1024) (h2 : m ≤ 1024) (h : RefR z w e w') : VE (limZ n m z) (limE n m z) w e w' := by
  rcases h with ⟨hl, s, A, n', c, he, hv, hb⟩ | ⟨hl, h4, h5⟩
  · obtain ⟨e1, e2⟩ := limZ_ok h1 h2 hl
    rw [e1, e2]
    exact ⟨s, A, n', c, he, hv, by rw [hv.len]; exact hl, hb⟩
  · obtain ⟨e1, e2⟩ := limZ_long h1 h2 hl
    rw [e1, e2]
    exact ve_zero ⟨h4, h5⟩
theorem okW_long {s : Bool} {n : Nat} {f : Nat → Nat} (h : 1024 < n) : okW s n f = false := by
  unfold okW
  rw [if_neg (by omega), decide_eq_false (by omega), Bool.false_and]
theorem okW_or {s t : Bool} {n m : Nat} {f g : Nat → Nat} (h : ¬ (n ≤ 1024 ∧ m ≤ 1024)) : (okW s n f && okW t m g) = false := by
  rcases Nat.lt_or_ge 1024 n with h1 | h1
  · rw [okW_long h1, Bool.false_and]
  · rw [okW_long (n := m) (by omega), Bool.and_false]

section
variable {a b : Int} {s t : Bool} {A B : Option Addr} {n m c d : Nat} {w : World}
theorem add_lim (ha : WV w a s A n) (hb : WV w b t B m) (la : n ≤ 2000) (lb : m ≤ 2000) :
    Calls Tryd.prog 24 #[.agg #[.bool s, .slice A n c], .agg #[.bool t, .slice B m d]] w (VE (limZ n m (a + b)) (limE n m (a + b)) w) := by
  obtain ⟨rfl, rfl, hA⟩ := ha
  obtain ⟨rfl, rfl, hB⟩ := hb
  by_cases h : ln b16 a.natAbs ≤ 1024 ∧ ln b16 b.natAbs ≤ 1024
  · exact (add_any a b A B c d w hA hB h.1 h.2).mono fun _ _ hr => ve_ri h.1 h.2 hr
  · refine (add_bad (decide (a < 0)) (decide (b < 0)) A B _ _ c d _ _ w hA hB (fun i => dgt16_lt _ i) (fun i => dgt16_lt _ i) (by omega) (by omega) (okW_or h)).mono fun _ _ hr => ?_
    rw [(limZ_bad h).1, (limZ_bad h).2]
    exact ve_zero hr
theorem sub_lim (ha : WV w a s A n) (hb : WV w b t B m) (la : n ≤ 2000) (lb : m ≤ 2000) :
    Calls Tryd.prog 25 #[.agg #[.bool s, .slice A n c], .agg #[.bool t, .slice B m d]] w (VE (limZ n m (a - b)) (limE n m (a - b)) w) := by
  obtain ⟨rfl, rfl, hA⟩ := ha
  obtain ⟨rfl, rfl, hB⟩ := hb
  by_cases h : ln b16 a.natAbs ≤ 1024 ∧ ln b16 b.natAbs ≤ 1024
  · exact (sub_any a b A B c d w hA hB h.1 h.2).mono fun _ _ hr => ve_ri h.1 h.2 hr
  · refine (sub_bad (decide (a < 0)) (decide (b < 0)) A B _ _ c d _ _ w hA hB (fun i => dgt16_lt _ i) (fun i => dgt16_lt _ i) (by omega) (by omega) (okW_or h)).mono fun _ _ hr => ?_
    rw [(limZ_bad h).1, (limZ_bad h).2]
    exact ve_zero hr
theorem mul_lim (ha : WV w a s A n) (hb : WV w b t B m) (la : n ≤ 2000) (lb : m ≤ 2000) :
    Calls Tryd.prog 26 #[.agg #[.bool s, .slice A n c], .agg #[.bool t, .slice B m d]] w (VE (limZ n m (a * b)) (limE n m (a * b)) w) := by
  obtain ⟨rfl, rfl, hA⟩ := ha
  obtain ⟨rfl, rfl, hB⟩ := hb
  by_cases h : ln b16 a.natAbs ≤ 1024 ∧ ln b16 b.natAbs ≤ 1024
  · exact (mul_any a b A B c d w hA hB h.1 h.2).mono fun _ _ hr => ve_ri h.1 h.2 hr
  · refine (mul_bad (decide (a < 0)) (decide (b < 0)) A B _ _ c d _ _ w hA hB (fun i => dgt16_lt _ i) (fun i => dgt16_lt _ i) (by omega) (by omega) (okW_or h)).mono fun _ _ hr => ?_
    rw [(limZ_bad h).1, (limZ_bad h).2]
    exact ve_zero hr
end

/-! Long decimal forms. -/
theorem pow_up16 {m n : Nat} (h : m ≤ n) : b16 ^ m ≤ b16 ^ n := Nat.pow_le_pow_right (by decide) h
theorem pow_up10 {m n : Nat} (h : m ≤ n) : 10 ^ m ≤ 10 ^ n := Nat.pow_le_pow_right (by decide) h
theorem pow_dn2 {t j B m n k q : Nat} (h : t ^ j ≤ B ^ m) (ht : 0 < t) (hB : 0 < B) (hk : k ≤ j * n) (hq : m * n ≤ q) : t ^ k ≤ B ^ q := Nat.le_trans (pow_dn h ht hk) (Nat.pow_le_pow_right hB hq)
theorem pow_c (k q : Nat) (hk : k ≤ 183 * 26) (hq : 38 * 26 ≤ q) : 10 ^ k ≤ b16 ^ q := pow_dn2 (t := 10) (j := 183) (B := b16) (m := 38) (n := 26) (by decide) (by decide) (by decide) hk hq
theorem pow_three (B t a b c x y z m k : Nat) (h : B ^ a * B ^ b * B ^ c ≤ t ^ x * t ^ y * t ^ z) (hm : m = a + b + c) (hk : k = x + y + z) : B ^ m ≤ t ^ k := by
  subst hm hk
  rw [Nat.pow_add, Nat.pow_add, Nat.pow_add, Nat.pow_add]
  exact h
theorem pow_nine (B t m k m' k' p q : Nat) (h : B ^ m ≤ t ^ k) (h' : B ^ m' ≤ t ^ k') (hp : p = m * 9 + m') (hq : q = k * 9 + k') : B ^ p ≤ t ^ q := by
  subst hp hq
  rw [Nat.pow_add, Nat.pow_add, Nat.pow_mul, Nat.pow_mul]
  exact Nat.mul_le_mul (Nat.pow_le_pow_left h 9) h'
theorem pow_f (t k p : Nat) (ht : t = 10) (hk : k = 4933) (hp : p = 1024) : b16 ^ p ≤ t ^ k := by
  refine pow_nine b16 t 109 525 43 208 p k (pow_three b16 t 49 49 11 255 255 15 109 525 ?_ rfl rfl) ?_ hp hk
  · subst ht; decide
  · subst ht; decide
theorem dec_low {u k : Nat} (h : 10 ^ k ≤ u) : k < (Lib.decDigits u).length := by
  have h1 := pv_lt (Lib.decDigits u) (fun c hc => (dec_dg u c hc).2)
  rw [pv_dec] at h1
  exact (Nat.pow_lt_pow_iff_right (by decide : 1 < 10)).1 (Nat.lt_of_le_of_lt h h1)
theorem numOK_zeros {z : Int} (hz : z ≠ 0) (k : Nat) : numOK (Lib.itoa z ++ List.replicate k 48) := by
  have hs := itoa_shape z (List.replicate k 48)
  unfold numOK
  rw [hs.1, hs.2]
  refine ⟨?_, allDg_of (fun x hx => ?_) _⟩
  · obtain ⟨c, r, hc, h1, h2⟩ := dg_cons z.natAbs
    rw [hc, List.cons_append, badHead_cons]
    have hne : c ≠ 48 := fun e => by subst e; have := (head_zero hc).1; omega
    rw [beq_eq_false_iff_ne.2 hne, Bool.false_and]
  · rcases List.mem_append.1 hx with h3 | h3
    · exact dec_dg _ x h3
    · rw [List.eq_of_mem_replicate h3]; decide
theorem big_text {z : Int} (h1 : 1000 ≤ ln b16 z.natAbs) (h2 : ln b16 z.natAbs ≤ 1024) : z ≠ 0 ∧ (Lib.itoa z).length ≤ 5000 ∧ (bodyT (Lib.itoa z)).length ≤ 4933 ∧ 4933 < (bodyT (Lib.itoa z ++ List.replicate 200 48)).length := by
  have hs := itoa_shape z (List.replicate 200 48)
  have hs0 := itoa_shape z []
  rw [List.append_nil, List.append_nil] at hs0
  obtain ⟨q, hq⟩ : ∃ q, q = 999 := ⟨_, rfl⟩
  obtain ⟨p, hp⟩ : ∃ p, p = 1024 := ⟨_, rfl⟩
  obtain ⟨r, hr⟩ : ∃ r, r = 4933 := ⟨_, rfl⟩
  have h3 : b16 ^ q ≤ z.natAbs := (ln_lt b16_two).1 (by omega)
  have h4 := dec_low (Nat.le_trans (pow_c 4758 q (by decide) (by omega)) h3)
  have h5 := dec_len (k := r) (Nat.lt_of_lt_of_le ((ln_le (x := z.natAbs) (k := p) b16_two).1 (by omega)) (pow_f 10 r p rfl hr hp)) (by omega)
  rw [hr] at h5
  clear hq hp hr
  refine ⟨fun e => ?_, ?_, by rw [hs0.2]; exact h5, ?_⟩
  · subst e
    rw [show (0 : Int).natAbs = 0 from rfl, ln_zero] at h1
    omega
  · rw [itoa_num, List.length_append]
    have : (if decide (z < 0) = true then [45] else [] : List UInt8).length ≤ 1 := by split <;> simp
    omega
  · rw [hs.2, List.length_append, List.length_replicate]; omega
theorem text_s2 {a : Int} {s : Bool} {A : Option Addr} {n c : Nat} {w : World} (ha : WV w a s A n) (la : n ≤ 1024) (htab : Tab w) {t : List UInt8} (ht : Lib.itoa a = t) :
    Calls Tryd.prog 21 #[.agg #[.bool s, .slice A n c]] w fun e w' => e = .returned (.tuple #[.string (str t), .int .i64 0]) ∧ Below w.heap.size w w' := by
  refine (text_v ha la htab).mono ?_
  rintro e w' ⟨⟨T, rfl, hT⟩, hb⟩
  rw [hT.out, ht]
  exact ⟨rfl, hb⟩
theorem parse_ok2 {l : List UInt8} {z : Int} (w : World) (hl : l.length ≤ 1000000) (hok : numOK l) (hlen : (bodyT l).length ≤ 4933) (hz : toI (negT l) (pv (bodyT l)) = z) (hln : ln b16 z.natAbs ≤ 1024) :
    Calls Tryd.prog 22 #[.string (str l)] w (VR z w) := by
  refine (parse_walk l w hl).mono ?_
  rintro e w' (⟨h, _⟩ | ⟨_, h, _⟩ | ⟨_, _, h⟩)
  · exact absurd hok h
  · omega
  · rw [hz] at h; exact h.vr hln
theorem parse_long {l : List UInt8} (w : World) (hl : l.length ≤ 1000000) (hok : numOK l) (hlen : 4933 < (bodyT l).length) :
    Calls Tryd.prog 22 #[.string (str l)] w (ErrW1 3 w) := by
  refine (parse_walk l w hl).mono ?_
  rintro e w' (⟨h, _⟩ | ⟨_, _, h⟩ | ⟨_, h, _⟩)
  · exact absurd hok h
  · exact h
  · omega
theorem str_snoc (l : List UInt8) (k : Nat) : str (l ++ List.replicate k 48) ++ (⟨#[48]⟩ : ByteArray) = str (l ++ List.replicate (k + 1) 48) := by
  apply ByteArray.ext
  simp [str, ByteArray.data_append, List.replicate_succ']
end Go.Proofs.YtafglggjncnkkaaDoor
namespace Go.Proofs.YtafglggjncnkkaaDoor
open Go.RowKit

theorem rvalid_long {a : Int} {s : Bool} {A : Option Addr} {n c : Nat} {w : World} (ha : WV w a s A n) (la : 1024 < n) (lb : n ≤ 2000) : Calls Tryd.prog 51 #[.agg #[.bool s, .slice A n c]] w fun e w' => e = .returned (.bool false) ∧ Below w.heap.size w w' := by
  obtain ⟨rfl, rfl, hA⟩ := ha
  have h := rvalid_any (decide (a < 0)) A (ln b16 a.natAbs) c (dgt b16 a.natAbs) w hA (fun i _ => dgt16_lt _ i) (by omega)
  rw [okW_long la] at h
  exact h
set_option linter.unusedSimpArgs false in
set_option maxRecDepth 100000 in
set_option maxHeartbeats 2000000 in
theorem radd_bad {a b : Int} {s t : Bool} {A B : Option Addr} {n m c d : Nat} {w : World} (ha : WV w a s A n) (hv : WV w b t B m) (la : n ≤ 2000) (lb : m ≤ 2000) (hbad : ¬ (n ≤ 1024 ∧ m ≤ 1024)) :
    Calls Tryd.prog 27 #[.agg #[.bool s, .slice A n c], .agg #[.bool t, .slice B m d]] w (ErrArgW w) := by
  have hD := Env.two w s t A B n m c d
  have hz2 : ((w.alloc (.cells #[.bool s, .slice A n c] 24)).alloc (.cells #[.bool t, .slice B m d] 24)).heap.size = w.heap.size + 1 + 1 := by simp
  obtain ⟨W2, hW2⟩ : ∃ W2, W2 = (w.alloc (.cells #[.bool s, .slice A n c] 24)).alloc (.cells #[.bool t, .slice B m d] 24) := ⟨_, rfl⟩
  rw [← hW2] at hD hz2
  have hb := (belSelf2 hD).alloc (Nat.le_refl _) (.cells #[.bool false, .slice none 0 0] 24)
  have hR := WholeAt.new W2 false (.slice none 0 0)
  rw [hz2] at hR
  obtain ⟨W3, hW3⟩ : ∃ W3, W3 = W2.alloc (.cells #[.bool false, .slice none 0 0] 24) := ⟨_, rfl⟩
  rw [← hW3] at hb hR
  have HW2 := Lib.hid hW2
  have HW3 := Lib.hid hW3
  clear hW2 hW3
  go_enter Tryd.func27, Tryd.ntmps27
  go_upto_region 1 with (fail)
  rw [← HW2.out, ← HW3.out]
  obtain ⟨k1, k2, k3, k4⟩ := Two0.cells (hD.step hb).here
  go_wp2_with fail
  rcases Nat.lt_or_ge 1024 n with hn | hn
  · refine (rvalid_long (c := c) (ha.below (hD.step hb).bel) hn la).mono ?_
    clear k1 k2 k3 k4
    rintro e w4 ⟨rfl, hb4⟩
    replace hb := hb.trans (hb4.mono hb.size)
    replace hR := hR.below hb4 hR.lt
    obtain ⟨r0, r1⟩ := hR.cells
    have g0 := hR.frozen 0
    have g1 := hR.frozen 1
    obtain ⟨hW, hbW⟩ := store_whole hR (hD.step hb).bel (show w.heap.size ≤ w.heap.size + 1 + 1 by omega) false (.slice none 0 0)
    have HW := Lib.hid hW
    clear hW
    go_wp2_with fail
    have hW := HW.out
    clear HW r0 r1 g0 g1
    generalize ((w4.setCell ⟨w.heap.size + 1 + 1, 0, none⟩ (.bool false)).setCell ⟨w.heap.size + 1 + 1, 1, none⟩ (.slice none 0 0)) = WW at *
    obtain ⟨y0, y1⟩ := hW.cells
    refine bodyPost_ret (v := .tuple #[.agg #[.bool false, .slice none 0 0], .int .i64 2]) (by simp [results, Tryd.results27, go_sem, y0, y1]) rfl ?_
    exact ⟨rfl, hbW⟩
  · refine (rvalid_v (c := c) (ha.below (hD.step hb).bel) hn).mono ?_
    clear k1 k2 k3 k4
    rintro e w4 ⟨rfl, hb4⟩
    replace hb := hb.trans (hb4.mono hb.size)
    replace hR := hR.below hb4 hR.lt
    obtain ⟨k1, k2, k3, k4⟩ := Two0.cells (hD.step hb).here
    go_wp2_with fail
    refine (rvalid_long (c := d) (hv.below (hD.step hb).bel) (by omega) lb).mono ?_
    clear k1 k2 k3 k4
    rintro e w5 ⟨rfl, hb5⟩
    replace hb := hb.trans (hb5.mono hb.size)
    replace hR := hR.below hb5 hR.lt
    obtain ⟨r0, r1⟩ := hR.cells
    have g0 := hR.frozen 0
    have g1 := hR.frozen 1
    obtain ⟨hW, hbW⟩ := store_whole hR (hD.step hb).bel (show w.heap.size ≤ w.heap.size + 1 + 1 by omega) false (.slice none 0 0)
    have HW := Lib.hid hW
    clear hW
    go_wp2_with fail
    have hW := HW.out
    clear HW r0 r1 g0 g1
    generalize ((w5.setCell ⟨w.heap.size + 1 + 1, 0, none⟩ (.bool false)).setCell ⟨w.heap.size + 1 + 1, 1, none⟩ (.slice none 0 0)) = WW at *
    obtain ⟨y0, y1⟩ := hW.cells
    refine bodyPost_ret (v := .tuple #[.agg #[.bool false, .slice none 0 0], .int .i64 2]) (by simp [results, Tryd.results27, go_sem, y0, y1]) rfl ?_
    exact ⟨rfl, hbW⟩
set_option linter.unusedSimpArgs false in
set_option maxRecDepth 100000 in
set_option maxHeartbeats 2000000 in
theorem rsub_bad {a b : Int} {s t : Bool} {A B : Option Addr} {n m c d : Nat} {w : World} (ha : WV w a s A n) (hv : WV w b t B m) (la : n ≤ 2000) (lb : m ≤ 2000) (hbad : ¬ (n ≤ 1024 ∧ m ≤ 1024)) :
    Calls Tryd.prog 28 #[.agg #[.bool s, .slice A n c], .agg #[.bool t, .slice B m d]] w (ErrArgW w) := by
  have hD := Env.two w s t A B n m c d
  have hz2 : ((w.alloc (.cells #[.bool s, .slice A n c] 24)).alloc (.cells #[.bool t, .slice B m d] 24)).heap.size = w.heap.size + 1 + 1 := by simp
  obtain ⟨W2, hW2⟩ : ∃ W2, W2 = (w.alloc (.cells #[.bool s, .slice A n c] 24)).alloc (.cells #[.bool t, .slice B m d] 24) := ⟨_, rfl⟩
  rw [← hW2] at hD hz2
  have hb := (belSelf2 hD).alloc (Nat.le_refl _) (.cells #[.bool false, .slice none 0 0] 24)
  have hR := WholeAt.new W2 false (.slice none 0 0)
  rw [hz2] at hR
  obtain ⟨W3, hW3⟩ : ∃ W3, W3 = W2.alloc (.cells #[.bool false, .slice none 0 0] 24) := ⟨_, rfl⟩
  rw [← hW3] at hb hR
  have HW2 := Lib.hid hW2
  have HW3 := Lib.hid hW3
  clear hW2 hW3
  go_enter Tryd.func28, Tryd.ntmps28
  go_upto_region 1 with (fail)
  rw [← HW2.out, ← HW3.out]
  obtain ⟨k1, k2, k3, k4⟩ := Two0.cells (hD.step hb).here
  go_wp2_with fail
  rcases Nat.lt_or_ge 1024 n with hn | hn
  · refine (rvalid_long (c := c) (ha.below (hD.step hb).bel) hn la).mono ?_
    clear k1 k2 k3 k4
    rintro e w4 ⟨rfl, hb4⟩
    replace hb := hb.trans (hb4.mono hb.size)
    replace hR := hR.below hb4 hR.lt
    obtain ⟨r0, r1⟩ := hR.cells
    have g0 := hR.frozen 0
    have g1 := hR.frozen 1
    obtain ⟨hW, hbW⟩ := store_whole hR (hD.step hb).bel (show w.heap.size ≤ w.heap.size + 1 + 1 by omega) false (.slice none 0 0)
    have HW := Lib.hid hW
    clear hW
    go_wp2_with fail
    have hW := HW.out
    clear HW r0 r1 g0 g1
    generalize ((w4.setCell ⟨w.heap.size + 1 + 1, 0, none⟩ (.bool false)).setCell ⟨w.heap.size + 1 + 1, 1, none⟩ (.slice none 0 0)) = WW at *
    obtain ⟨y0, y1⟩ := hW.cells
    refine bodyPost_ret (v := .tuple #[.agg #[.bool false, .slice none 0 0], .int .i64 2]) (by simp [results, Tryd.results28, go_sem, y0, y1]) rfl ?_
    exact ⟨rfl, hbW⟩
  · refine (rvalid_v (c := c) (ha.below (hD.step hb).bel) hn).mono ?_
    clear k1 k2 k3 k4
    rintro e w4 ⟨rfl, hb4⟩
    replace hb := hb.trans (hb4.mono hb.size)
    replace hR := hR.below hb4 hR.lt
    obtain ⟨k1, k2, k3, k4⟩ := Two0.cells (hD.step hb).here
    go_wp2_with fail
    refine (rvalid_long (c := d) (hv.below (hD.step hb).bel) (by omega) lb).mono ?_
    clear k1 k2 k3 k4
    rintro e w5 ⟨rfl, hb5⟩
    replace hb := hb.trans (hb5.mono hb.size)
    replace hR := hR.below hb5 hR.lt
    obtain ⟨r0, r1⟩ := hR.cells
    have g0 := hR.frozen 0
    have g1 := hR.frozen 1
    obtain ⟨hW, hbW⟩ := store_whole hR (hD.step hb).bel (show w.heap.size ≤ w.heap.size + 1 + 1 by omega) false (.slice none 0 0)
    have HW := Lib.hid hW
    clear hW
    go_wp2_with fail
    have hW := HW.out
    clear HW r0 r1 g0 g1
    generalize ((w5.setCell ⟨w.heap.size + 1 + 1, 0, none⟩ (.bool false)).setCell ⟨w.heap.size + 1 + 1, 1, none⟩ (.slice none 0 0)) = WW at *
    obtain ⟨y0, y1⟩ := hW.cells
    refine bodyPost_ret (v := .tuple #[.agg #[.bool false, .slice none 0 0], .int .i64 2]) (by simp [results, Tryd.results28, go_sem, y0, y1]) rfl ?_
    exact ⟨rfl, hbW⟩
set_option linter.unusedSimpArgs false in
set_option maxRecDepth 100000 in
set_option maxHeartbeats 2000000 in
theorem rmul_bad {a b : Int} {s t : Bool} {A B : Option Addr} {n m c d : Nat} {w : World} (ha : WV w a s A n) (hv : WV w b t B m) (la : n ≤ 2000) (lb : m ≤ 2000) (hbad : ¬ (n ≤ 1024 ∧ m ≤ 1024)) :
    Calls Tryd.prog 29 #[.agg #[.bool s, .slice A n c], .agg #[.bool t, .slice B m d]] w (ErrArgW w) := by
  have hD := Env.two w s t A B n m c d
  have hz2 : ((w.alloc (.cells #[.bool s, .slice A n c] 24)).alloc (.cells #[.bool t, .slice B m d] 24)).heap.size = w.heap.size + 1 + 1 := by simp
  obtain ⟨W2, hW2⟩ : ∃ W2, W2 = (w.alloc (.cells #[.bool s, .slice A n c] 24)).alloc (.cells #[.bool t, .slice B m d] 24) := ⟨_, rfl⟩
  rw [← hW2] at hD hz2
  have hb := (belSelf2 hD).alloc (Nat.le_refl _) (.cells #[.bool false, .slice none 0 0] 24)
  have hR := WholeAt.new W2 false (.slice none 0 0)
  rw [hz2] at hR
  obtain ⟨W3, hW3⟩ : ∃ W3, W3 = W2.alloc (.cells #[.bool false, .slice none 0 0] 24) := ⟨_, rfl⟩
  rw [← hW3] at hb hR
  have HW2 := Lib.hid hW2
  have HW3 := Lib.hid hW3
  clear hW2 hW3
  go_enter Tryd.func29, Tryd.ntmps29
  go_upto_region 1 with (fail)
  rw [← HW2.out, ← HW3.out]
  obtain ⟨k1, k2, k3, k4⟩ := Two0.cells (hD.step hb).here
  go_wp2_with fail
  rcases Nat.lt_or_ge 1024 n with hn | hn
  · refine (rvalid_long (c := c) (ha.below (hD.step hb).bel) hn la).mono ?_
    clear k1 k2 k3 k4
    rintro e w4 ⟨rfl, hb4⟩
    replace hb := hb.trans (hb4.mono hb.size)
    replace hR := hR.below hb4 hR.lt
    obtain ⟨r0, r1⟩ := hR.cells
    have g0 := hR.frozen 0
    have g1 := hR.frozen 1
    obtain ⟨hW, hbW⟩ := store_whole hR (hD.step hb).bel (show w.heap.size ≤ w.heap.size + 1 + 1 by omega) false (.slice none 0 0)
    have HW := Lib.hid hW
    clear hW
    go_wp2_with fail
    have hW := HW.out
    clear HW r0 r1 g0 g1
    generalize ((w4.setCell ⟨w.heap.size + 1 + 1, 0, none⟩ (.bool false)).setCell ⟨w.heap.size + 1 + 1, 1, none⟩ (.slice none 0 0)) = WW at *
    obtain ⟨y0, y1⟩ := hW.cells
    refine bodyPost_ret (v := .tuple #[.agg #[.bool false, .slice none 0 0], .int .i64 2]) (by simp [results, Tryd.results29, go_sem, y0, y1]) rfl ?_
    exact ⟨rfl, hbW⟩
  · refine (rvalid_v (c := c) (ha.below (hD.step hb).bel) hn).mono ?_
    clear k1 k2 k3 k4
    rintro e w4 ⟨rfl, hb4⟩
    replace hb := hb.trans (hb4.mono hb.size)
    replace hR := hR.below hb4 hR.lt
    obtain ⟨k1, k2, k3, k4⟩ := Two0.cells (hD.step hb).here
    go_wp2_with fail
    refine (rvalid_long (c := d) (hv.below (hD.step hb).bel) (by omega) lb).mono ?_
    clear k1 k2 k3 k4
    rintro e w5 ⟨rfl, hb5⟩
    replace hb := hb.trans (hb5.mono hb.size)
    replace hR := hR.below hb5 hR.lt
    obtain ⟨r0, r1⟩ := hR.cells
    have g0 := hR.frozen 0
    have g1 := hR.frozen 1
    obtain ⟨hW, hbW⟩ := store_whole hR (hD.step hb).bel (show w.heap.size ≤ w.heap.size + 1 + 1 by omega) false (.slice none 0 0)
    have HW := Lib.hid hW
    clear hW
    go_wp2_with fail
    have hW := HW.out
    clear HW r0 r1 g0 g1
    generalize ((w5.setCell ⟨w.heap.size + 1 + 1, 0, none⟩ (.bool false)).setCell ⟨w.heap.size + 1 + 1, 1, none⟩ (.slice none 0 0)) = WW at *
    obtain ⟨y0, y1⟩ := hW.cells
    refine bodyPost_ret (v := .tuple #[.agg #[.bool false, .slice none 0 0], .int .i64 2]) (by simp [results, Tryd.results29, go_sem, y0, y1]) rfl ?_
    exact ⟨rfl, hbW⟩
section
variable {a b : Int} {s t : Bool} {A B : Option Addr} {n m c d : Nat} {w : World}
theorem radd_lim (ha : WV w a s A n) (hb : WV w b t B m) (la : n ≤ 2000) (lb : m ≤ 2000) :
    Calls Tryd.prog 27 #[.agg #[.bool s, .slice A n c], .agg #[.bool t, .slice B m d]] w (VE (limZ n m (a + b)) (limE n m (a + b)) w) := by
  by_cases h : n ≤ 1024 ∧ m ≤ 1024
  · exact (radd_v ha hb h.1 h.2).mono fun _ _ hr => ve_ref h.1 h.2 hr
  · refine (radd_bad ha hb la lb h).mono fun _ _ hr => ?_
    rw [(limZ_bad h).1, (limZ_bad h).2]
    exact ve_zero hr
theorem rsub_lim (ha : WV w a s A n) (hb : WV w b t B m) (la : n ≤ 2000) (lb : m ≤ 2000) :
    Calls Tryd.prog 28 #[.agg #[.bool s, .slice A n c], .agg #[.bool t, .slice B m d]] w (VE (limZ n m (a - b)) (limE n m (a - b)) w) := by
  by_cases h : n ≤ 1024 ∧ m ≤ 1024
  · exact (rsub_v ha hb h.1 h.2).mono fun _ _ hr => ve_ref h.1 h.2 hr
  · refine (rsub_bad ha hb la lb h).mono fun _ _ hr => ?_
    rw [(limZ_bad h).1, (limZ_bad h).2]
    exact ve_zero hr
theorem rmul_lim (ha : WV w a s A n) (hb : WV w b t B m) (la : n ≤ 2000) (lb : m ≤ 2000) :
    Calls Tryd.prog 29 #[.agg #[.bool s, .slice A n c], .agg #[.bool t, .slice B m d]] w (VE (limZ n m (a * b)) (limE n m (a * b)) w) := by
  by_cases h : n ≤ 1024 ∧ m ≤ 1024
  · exact (rmul_v ha hb h.1 h.2).mono fun _ _ hr => ve_ref h.1 h.2 hr
  · refine (rmul_bad ha hb la lb h).mono fun _ _ hr => ?_
    rw [(limZ_bad h).1, (limZ_bad h).2]
    exact ve_zero hr
end
end Go.Proofs.YtafglggjncnkkaaDoor
namespace Go.Proofs.YtafglggjncnkkaaDoor
open Go.RowKit

theorem WholeAt.set1 {w : World} {g : Nat} {s : Bool} {v : Value} (h : WholeAt w g s v) (v' : Value) : WholeAt (w.setCell ⟨g, 1, none⟩ v') g s v' := by
  unfold WholeAt at h ⊢
  simp [World.setCell, Array.getElem?_modify, h]
theorem WholeAt.far {w : World} {g g' i : Nat} {s : Bool} {v : Value} (h : WholeAt w g s v) (hg : g ≠ g') (v' : Value) : WholeAt (w.setCell ⟨g', i, none⟩ v') g s v := (Below.heap_setCell w ⟨g', i, none⟩ v' g hg).trans h
theorem bx2 {g : Nat} {z : Int} {s : Bool} {A : Option Addr} {n c : Nat} {W : World} (h : Bx g z s A n c W) : W.cell? ⟨g, 0, none⟩ = some (.bool s) ∧ W.cell? ⟨g, 1, none⟩ = some (.slice A n c) := ⟨h.1.cells.1, h.1.cells.2⟩
theorem Rd.store {B n m d G i : Nat} {k : IntKind} {s : Bool} {A D : Option Addr} {f : Nat → Nat} {w : World} (h : Rd B k w A n f) (hW : WholeAt w G s (.slice D m d)) (u : Value) : Rd B k (w.setCell ⟨G, i, none⟩ u) A n f := fun hn => by
  obtain ⟨b, o, e, hb, hc⟩ := h hn
  refine ⟨b, o, e, hb, fun j hj => ?_⟩
  have hne : b ≠ G := fun e => by
    subst e
    have h1 := hc j hj
    rw [cell_of_row w b (o + j) _ _ (0, 0) hW] at h1
    rcases (show o + j = 0 ∨ o + j = 1 ∨ 2 ≤ o + j by omega) with h2 | h2 | h2
    · rw [h2] at h1; cases h1
    · rw [h2] at h1; cases h1
    · rw [Array.getElem?_eq_none (by simpa using h2)] at h1; cases h1
  rw [World.cell?_setCell_other w _ _ u (fun e => hne (congrArg Addr.block e).symm)]
  exact hc j hj
theorem rd_const {base n c X : Nat} {w : World} {A : Option Addr} (h : w.ownsRow base 40 1 (.slice A n c) n (nums .u16 n (fun _ => X))) : Rd w.heap.size .u16 w A n (fun _ => X) := by
  obtain ⟨A', c', e, _, hr⟩ := RowO.of_own h
  injection e with e1 e2 e3
  subst e1
  exact hr.rd
/-- One of the two numbers while it is made: k limbs that are all X. -/
def Mk (G base X : Nat) (s : Bool) (k : Nat) (wr : World) : Prop := ∃ A c, wr.ownsRow base 40 1 (.slice A k c) k (nums .u16 k (fun _ => X)) ∧ WholeAt wr G s (.slice A k c)
theorem max_facts (x : Nat) (hx : x < 65536) : ∃ X : Nat, 0 < X ∧ X < 65536 ∧ ∀ (w : World) (ts : Array TypeId) (t : TypeId), (Builtin.max_ ts t #[.int .u16 (x : Int), .int .u16 1]).run Tryd.prog w = .ok (.int .u16 (X : Int)) w := by
  refine ⟨max x 1, by omega, by omega, fun w ts t => ?_⟩
  rw [run_max_int2]
  congr 2
  split <;> omega
theorem valid_long {a : Int} {s : Bool} {A : Option Addr} {n c : Nat} {w : World} (ha : WV w a s A n) (la : 1024 < n) (lb : n ≤ 2000) : Calls Tryd.prog 15 #[.agg #[.bool s, .slice A n c]] w fun e w' => e = .returned (.bool false) ∧ Below w.heap.size w w' := by
  obtain ⟨rfl, rfl, hA⟩ := ha
  have h := valid_any (decide (a < 0)) A (ln b16 a.natAbs) c (dgt b16 a.natAbs) w hA (fun i _ => dgt16_lt _ i) (by omega)
  rw [okW_long la] at h
  exact h
theorem text_long {a : Int} {s : Bool} {A : Option Addr} {n c : Nat} {w : World} (ha : WV w a s A n) (la : 1024 < n) (lb : n ≤ 2000) : Calls Tryd.prog 21 #[.agg #[.bool s, .slice A n c]] w fun e w' => e = .returned (.tuple #[.string ⟨#[]⟩, .int .i64 2]) ∧ Below w.heap.size w w' := by
  obtain ⟨rfl, rfl, hA⟩ := ha
  exact text_bad (decide (a < 0)) A (ln b16 a.natAbs) c (dgt b16 a.natAbs) w hA (fun i _ => dgt16_lt _ i) (by omega) (okW_long la)
set_option linter.unusedSimpArgs false in
set_option maxRecDepth 100000 in
set_option maxHeartbeats 16000000 in
theorem lim_walk (n0 k0 : Int) (x : Nat) (neg : Bool) (w : World) (htab : Tab w) (hx : x < 65536) :
    Calls Tryd.prog 5 #[.int .i64 n0, .int .i64 k0, .int .u16 (x : Int), .bool neg] w fun e w' => e = .returned (.bool true) ∧ Below w.heap.size w w' := by
  obtain ⟨X, hX0, hX1, hmx⟩ := max_facts x hx
  obtain ⟨y, hy, hyw⟩ : ∃ y : Nat, y < 65536 ∧ IntKind.u16.wrap ((x : Int) + 1) = (y : Int) := ⟨(x + 1) % 65536, by omega, by rw [IntKind.wrap_u16]; omega⟩
  obtain ⟨Y, hY0, hY1, hmy⟩ := max_facts y hy
  obtain ⟨i0, hi, hz0, hz1, hz2⟩ := info_parts info_u16
  have HMX := Lib.hid hmx
  have HMY := Lib.hid hmy
  have HYW := Lib.hid hyw
  clear hmx hmy hyw
  go_enter Tryd.func5, Tryd.ntmps5
  go_wp2_with fail
  refine (pick_any n0 31 _ (by decide) (by decide)).mono ?_
  rintro e w1 ⟨⟨r, rfl, hr0, hr1⟩, rfl⟩
  obtain ⟨N, hN⟩ : ∃ N : Nat, (N : Int) = 1000 + r := ⟨(1000 + r).toNat, by omega⟩
  have o1 : IntKind.i64.wrap (1000 + r) = (N : Int) := by rw [IntKind.wrap_i64]; omega
  have hNa : 1000 ≤ N := by omega
  have hNb : N ≤ 1030 := by omega
  have HN := Lib.hid hN
  clear hN
  go_wp2_with fail
  refine (pick_any k0 1031 _ (by decide) (by decide)).mono ?_
  rintro e w1 ⟨⟨r2, rfl, hr2, hr3⟩, rfl⟩
  obtain ⟨K, rfl⟩ := Int.eq_ofNat_of_zero_le hr2
  have hKb : K ≤ 1030 := by omega
  go_wp2_with fail
  clear o1
  go_loopw [11] (fun i wr => ∃ k : Nat, k ≤ N ∧ i = .int .i64 (k : Int) ∧ Mk w.heap.size (w.heap.size + 1 + 1) X neg k wr ∧ WholeAt wr (w.heap.size + 1) false (.slice none 0 0) ∧ Below w.heap.size w wr) (fun i _ => N - (intOf i).toNat)
  case atStart =>
    refine ⟨0, Nat.zero_le _, rfl, ⟨none, 0, World.ownsRow_nil .., ?_⟩, ?_, ((Below.refl _ _).alloc (Nat.le_refl _) _).alloc (by simp) _⟩
    · exact (Below.heap_alloc _ _ _ (by simp)).trans (heap_alloc_new _ _)
    · have hnw := WholeAt.new (w.alloc (.cells #[.bool neg, .slice none 0 0] 24)) false (.slice none 0 0)
      rw [World.size_alloc] at hnw
      exact hnw
  case round =>
    obtain ⟨k, hk, rfl, ⟨A, c, hown, hat⟩, hbt, hbel⟩ := hrel
    by_cases hlt : k < N
    · obtain ⟨r0, r1⟩ := hat.cells
      have t1 : decide ((k : Int) < (N : Int)) = true := decide_eq_true (by omega)
      have hsz := hbel.size
      have hnot := own_not hown (g := w.heap.size) (by omega)
      have hnotb := own_not hown (g := w.heap.size + 1) (by omega)
      have hlt0 := hat.lt
      have hmx := HMX.out
      go_wp2_with (at_builtin; refine wpList_append_own _ rfl _ _ 22 rfl (w.heap.size + 1 + 1) 40 i0 (.int .u16 0) 1 2 Tryd.underlying22 hi hz0 hz1 hz2 rfl (by decide) _ _ _ rfl (hown.alloc _) ⟨wr.heap.size, 0, none⟩ 1 1 [.int .u16 (X : Int)] rfl rfl (cell_one_new _ _ _) (by simp [Value.oneCell']) (by unfold maxLen; omega) (by omega) (by simp; omega) ?_; intro v' w5 hown5 hgrow _; obtain ⟨g', cap', rfl⟩ := ownsRow_succ hown5; have hat5 := (hat.alloc' _).grown hgrow hnot; obtain ⟨q0, q1⟩ := hat5.cells; have q2 := hat5.frozen 1)
      go_roundw
      case rel =>
        have hown6 := hown5
        rw [nums_succ (f := fun _ => X)] at hown6
        exact ⟨k + 1, hlt, by go_num, ⟨_, _, ownsRow_setCell_below hown6 (a := ⟨w.heap.size, 1, none⟩) (by show w.heap.size < _; omega) _, hat5.set1 _⟩, ((hbt.alloc' _).grown hgrow hnotb).far (by omega) _, ((hbel.alloc hsz (.cells #[.int .u16 (X : Int)] 40)).grown hgrow (by simp; omega) (fun g hg => by have := (hown.lt g hg).1; omega)).setCell (Nat.le_refl _) _⟩
      case measure => simp [intOf]; omega
    · obtain rfl : k = N := by omega
      have t1 : decide ((k : Int) < (k : Int)) = false := decide_eq_false (by omega)
      have hra := rd_const hown
      have hbase := hat.lt
      obtain ⟨w1, rfl⟩ : ∃ w1 : World, w1 = wr := ⟨_, rfl⟩
      clear t1
      go_wp2_with fail
      go_loopw [12] (fun i wr => ∃ j : Nat, j ≤ K ∧ i = .int .i64 (j : Int) ∧ Mk (w.heap.size + 1) w1.heap.size Y false j wr ∧ WholeAt wr w.heap.size neg (.slice A k c) ∧ Rd w1.heap.size .u16 wr A k (fun _ => X) ∧ w1.heap.size ≤ wr.heap.size ∧ Below w.heap.size w wr) (fun i _ => K - (intOf i).toNat)
      case atStart => exact ⟨0, Nat.zero_le _, rfl, ⟨none, 0, World.ownsRow_nil .., hbt⟩, hat, hra, Nat.le_refl _, hbel⟩
      case round =>
        obtain ⟨j, hj, rfl, ⟨B, d, hown2, hbt2⟩, hat2, hrd2, hge, hbel2⟩ := hrel
        by_cases hlt : j < K
        · obtain ⟨r0, r1⟩ := hbt2.cells
          have t1 : decide ((j : Int) < (K : Int)) = true := decide_eq_true (by omega)
          have hsz := hbel2.size
          have hbl := hbt.lt
          have hnot := own_not hown2 (g := w.heap.size + 1) (by omega)
          have hnota := own_not hown2 (g := w.heap.size) (by omega)
          have hmy := HMY.out
          have hyw := HYW.out
          go_wp2_with (at_builtin; refine wpList_append_own _ rfl _ _ 22 rfl w1.heap.size 40 i0 (.int .u16 0) 1 2 Tryd.underlying22 hi hz0 hz1 hz2 rfl (by decide) _ _ _ rfl (hown2.alloc _) ⟨wr.heap.size, 0, none⟩ 1 1 [.int .u16 (Y : Int)] rfl rfl (cell_one_new _ _ _) (by simp [Value.oneCell']) (by unfold maxLen; omega) (by omega) (by simp; omega) ?_; intro v' w5 hown5 hgrow _; obtain ⟨g', cap', rfl⟩ := ownsRow_succ hown5; have hbt5 := (hbt2.alloc' _).grown hgrow hnot; obtain ⟨q0, q1⟩ := hbt5.cells; have q2 := hbt5.frozen 1)
          go_roundw
          case rel =>
            have hown6 := hown5
            rw [nums_succ (f := fun _ => Y)] at hown6
            have hgs := hgrow.size
            rw [World.size_alloc] at hgs
            refine ⟨j + 1, hlt, by go_num, ⟨_, _, ownsRow_setCell_below hown6 (a := ⟨w.heap.size + 1, 1, none⟩) hbl _, hbt5.set1 _⟩, ((hat2.alloc' _).grown hgrow hnota).far (by omega) _, ?_, by rw [World.size_setCell]; omega, ((hbel2.alloc hsz (.cells #[.int .u16 (Y : Int)] 40)).grown hgrow (by simp; omega) (fun g hg => by have := (hown2.lt g hg).1; omega)).setCell (by show w.heap.size ≤ w.heap.size + 1; omega) _⟩
            exact ((hrd2.alloc hge (.cells #[.int .u16 (Y : Int)] 40)).grown hgrow (by simp; omega) (fun g hg => (hown2.lt g hg).1)).store hbt5 _
          case measure => simp [intOf]; omega
        · obtain rfl : j = K := by omega
          have hrb := rd_const hown2
          have hv1 := repN_wv (s := neg) hX0 hX1 (.inr (by omega)) (hrd2.more hge)
          have hv2 := repN_wv (s := false) hY0 hY1 (.inl rfl) hrb
          obtain ⟨za, hza⟩ : ∃ za, za = toI neg (repN X k) := ⟨_, rfl⟩
          obtain ⟨zb, hzb⟩ : ∃ zb, zb = toI false (repN Y j) := ⟨_, rfl⟩
          rw [← hza] at hv1
          rw [← hzb] at hv2
          have hE : Env w (fun V => Bx w.heap.size za neg A k c V ∧ Bx (w.heap.size + 1) zb false B j d V) wr := ⟨hbel2, fun P Q hpq hp => ⟨Bx.stable _ _ _ _ _ _ P Q hpq hp.1, Bx.stable _ _ _ _ _ _ P Q hpq hp.2⟩, ⟨hat2, hv1⟩, ⟨hbt2, hv2⟩⟩
          clear hza hzb hv1 hv2 hrb hown2 hbt2 hat2 hrd2 hge hbel2 hown hat hbt hbel hra hbase HMX HMY HYW
          have hN2 : k ≤ 2000 := by omega
          have hK2 : j ≤ 2000 := by omega
          obtain ⟨Z0, hZ0⟩ : ∃ Z, Z = limZ k j (za + zb) := ⟨_, rfl⟩
          obtain ⟨E0, hE0⟩ : ∃ E, E = limE k j (za + zb) := ⟨_, rfl⟩
          have HZ0 := Lib.hid hZ0
          have HE0 := Lib.hid hE0
          clear hZ0 hE0
          obtain ⟨Z1, hZ1⟩ : ∃ Z, Z = limZ k j (za - zb) := ⟨_, rfl⟩
          obtain ⟨E1, hE1⟩ : ∃ E, E = limE k j (za - zb) := ⟨_, rfl⟩
          have HZ1 := Lib.hid hZ1
          have HE1 := Lib.hid hE1
          clear hZ1 hE1
          obtain ⟨Z2, hZ2⟩ : ∃ Z, Z = limZ k j (za * zb) := ⟨_, rfl⟩
          obtain ⟨E2, hE2⟩ : ∃ E, E = limE k j (za * zb) := ⟨_, rfl⟩
          have HZ2 := Lib.hid hZ2
          have HE2 := Lib.hid hE2
          clear hZ2 hE2
          obtain ⟨k1, k2⟩ := bx2 hE.here.1
          obtain ⟨k3, k4⟩ := bx2 hE.here.2
          go_wp2_with fail
          clear k1 k2 k3 k4
          have hc := add_lim (c := c) (d := d) hE.here.1.2 hE.here.2.2 hN2 hK2
          rw [← HZ0.out, ← HE0.out] at hc
          refine hc.mono ?_
          clear hc
          rintro e w10 ⟨s0, A0, n0, c0, rfl, hv0, hl0, hb0⟩
          replace hE := hE.step hb0
          clear hb0
          go_upto_region 12 with (fail)
          replace hE := hE.fresh hv0 c0
          clear hv0
          obtain ⟨z0, hz0⟩ : ∃ z0, z0 = w10.heap.size := ⟨_, rfl⟩
          generalize w10.alloc (.cells #[.bool s0, .slice A0 n0 c0] 24) = W0 at hE ⊢
          rw [← hz0] at *
          clear hz0
          obtain ⟨k1, k2⟩ := bx2 hE.here.1.1
          obtain ⟨k3, k4⟩ := bx2 hE.here.1.2
          go_wp2_with fail
          clear k1 k2 k3 k4
          have hc := sub_lim (c := c) (d := d) hE.here.1.1.2 hE.here.1.2.2 hN2 hK2
          rw [← HZ1.out, ← HE1.out] at hc
          refine hc.mono ?_
          clear hc
          rintro e w11 ⟨s1, A1, n1, c1, rfl, hv1, hl1, hb1⟩
          replace hE := hE.step hb1
          clear hb1
          go_upto_region 13 with (fail)
          replace hE := hE.fresh hv1 c1
          clear hv1
          obtain ⟨z1, hz1⟩ : ∃ z1, z1 = w11.heap.size := ⟨_, rfl⟩
          generalize w11.alloc (.cells #[.bool s1, .slice A1 n1 c1] 24) = W1 at hE ⊢
          rw [← hz1] at *
          clear hz1
          obtain ⟨k1, k2⟩ := bx2 hE.here.1.1.1
          obtain ⟨k3, k4⟩ := bx2 hE.here.1.1.2
          go_wp2_with fail
          clear k1 k2 k3 k4
          have hc := mul_lim (c := c) (d := d) hE.here.1.1.1.2 hE.here.1.1.2.2 hN2 hK2
          rw [← HZ2.out, ← HE2.out] at hc
          refine hc.mono ?_
          clear hc
          rintro e w12 ⟨s2, A2, n2, c2, rfl, hv2, hl2, hb2⟩
          replace hE := hE.step hb2
          clear hb2
          go_upto_region 14 with (fail)
          replace hE := hE.fresh hv2 c2
          clear hv2
          obtain ⟨z2, hz2⟩ : ∃ z2, z2 = w12.heap.size := ⟨_, rfl⟩
          generalize w12.alloc (.cells #[.bool s2, .slice A2 n2 c2] 24) = W2 at hE ⊢
          rw [← hz2] at *
          clear hz2
          obtain ⟨k1, k2⟩ := bx2 hE.here.1.1.1.1
          obtain ⟨k3, k4⟩ := bx2 hE.here.1.1.1.2
          go_wp2_with fail
          clear k1 k2 k3 k4
          have hc := radd_lim (c := c) (d := d) hE.here.1.1.1.1.2 hE.here.1.1.1.2.2 hN2 hK2
          rw [← HZ0.out, ← HE0.out] at hc
          refine hc.mono ?_
          clear hc
          rintro e w13 ⟨s3, A3, n3, c3, rfl, hv3, hl3, hb3⟩
          replace hE := hE.step hb3
          clear hb3
          go_upto_region 15 with (fail)
          replace hE := hE.fresh hv3 c3
          clear hv3
          obtain ⟨z3, hz3⟩ : ∃ z3, z3 = w13.heap.size := ⟨_, rfl⟩
          generalize w13.alloc (.cells #[.bool s3, .slice A3 n3 c3] 24) = W3 at hE ⊢
          rw [← hz3] at *
          clear hz3
          obtain ⟨k1, k2⟩ := bx2 hE.here.1.1.1.1.1
          obtain ⟨k3, k4⟩ := bx2 hE.here.1.1.1.1.2
          go_wp2_with fail
          clear k1 k2 k3 k4
          have hc := rsub_lim (c := c) (d := d) hE.here.1.1.1.1.1.2 hE.here.1.1.1.1.2.2 hN2 hK2
          rw [← HZ1.out, ← HE1.out] at hc
          refine hc.mono ?_
          clear hc
          rintro e w14 ⟨s4, A4, n4, c4, rfl, hv4, hl4, hb4⟩
          replace hE := hE.step hb4
          clear hb4
          go_upto_region 16 with (fail)
          replace hE := hE.fresh hv4 c4
          clear hv4
          obtain ⟨z4, hz4⟩ : ∃ z4, z4 = w14.heap.size := ⟨_, rfl⟩
          generalize w14.alloc (.cells #[.bool s4, .slice A4 n4 c4] 24) = W4 at hE ⊢
          rw [← hz4] at *
          clear hz4
          obtain ⟨k1, k2⟩ := bx2 hE.here.1.1.1.1.1.1
          obtain ⟨k3, k4⟩ := bx2 hE.here.1.1.1.1.1.2
          go_wp2_with fail
          clear k1 k2 k3 k4
          have hc := rmul_lim (c := c) (d := d) hE.here.1.1.1.1.1.1.2 hE.here.1.1.1.1.1.2.2 hN2 hK2
          rw [← HZ2.out, ← HE2.out] at hc
          refine hc.mono ?_
          clear hc
          rintro e w15 ⟨s5, A5, n5, c5, rfl, hv5, hl5, hb5⟩
          replace hE := hE.step hb5
          clear hb5
          go_upto_region 17 with (fail)
          replace hE := hE.fresh hv5 c5
          clear hv5
          obtain ⟨z5, hz5⟩ : ∃ z5, z5 = w15.heap.size := ⟨_, rfl⟩
          generalize w15.alloc (.cells #[.bool s5, .slice A5 n5 c5] 24) = W5 at hE ⊢
          rw [← hz5] at *
          clear hz5
          rcases Nat.lt_or_ge 1024 k with hbig | hsm
          · skip
            have tv : decide ((k : Int) ≤ 1024) = false := decide_eq_false (by omega)
            obtain ⟨l0, m0⟩ := bx2 hE.here.1.1.1.1.1.2
            obtain ⟨l1, m1⟩ := bx2 hE.here.1.1.2
            go_wp2_with fail
            clear l0 m0 l1 m1
            have hc := law_same_t (k := E0) (c := c0) (d := c3) hE.here.1.1.1.1.1.2.2 hE.here.1.1.2.2 (by omega) (by omega) rfl
            refine hc.mono ?_
            clear hc
            rintro e w30 ⟨rfl, hb⟩
            replace hE := hE.step hb
            clear hb
            obtain ⟨l0, m0⟩ := bx2 hE.here.1.1.1.1.2
            obtain ⟨l1, m1⟩ := bx2 hE.here.1.2
            go_wp2_with fail
            clear l0 m0 l1 m1
            have hc := law_same_t (k := E1) (c := c1) (d := c4) hE.here.1.1.1.1.2.2 hE.here.1.2.2 (by omega) (by omega) rfl
            refine hc.mono ?_
            clear hc
            rintro e w31 ⟨rfl, hb⟩
            replace hE := hE.step hb
            clear hb
            obtain ⟨l0, m0⟩ := bx2 hE.here.1.1.1.2
            obtain ⟨l1, m1⟩ := bx2 hE.here.2
            go_wp2_with fail
            clear l0 m0 l1 m1
            have hc := law_same_t (k := E2) (c := c2) (d := c5) hE.here.1.1.1.2.2 hE.here.2.2 (by omega) (by omega) rfl
            refine hc.mono ?_
            clear hc
            rintro e w32 ⟨rfl, hb⟩
            replace hE := hE.step hb
            clear hb
            obtain ⟨l0, m0⟩ := bx2 hE.here.1.1.1.1.1.1.1
            go_wp2_with fail
            clear l0 m0
            have hc := valid_long (c := c) hE.here.1.1.1.1.1.1.1.2 hbig hN2
            refine hc.mono ?_
            clear hc
            rintro e w33 ⟨rfl, hb⟩
            replace hE := hE.step hb
            clear hb
            obtain ⟨k1, k2⟩ := bx2 hE.here.1.1.1.1.1.1.1
            go_wp2_with fail
            clear k1 k2
            refine (text_long (c := c) hE.here.1.1.1.1.1.1.1.2 hbig hN2).mono ?_
            rintro e w40 ⟨rfl, hb⟩
            replace hE := hE.step hb
            clear hb
            obtain ⟨k1, k2⟩ := bx2 hE.here.1.1.1.1.1.1.1
            go_wp2_with fail
            clear k1 k2
            refine (valid_long (c := c) hE.here.1.1.1.1.1.1.1.2 hbig hN2).mono ?_
            rintro e w41 ⟨rfl, hb⟩
            replace hE := hE.step hb
            clear hb
            go_wp2_with fail
            refine (awake_any _ (htab.below hE.bel)).mono ?_
            rintro e w42 ⟨rfl, hb⟩
            replace hE := hE.step hb
            go_wp2_with fail
            go_ret
            exact ⟨rfl, hE.bel⟩
          · skip
            have tv : decide ((k : Int) ≤ 1024) = true := decide_eq_true (by omega)
            obtain ⟨l0, m0⟩ := bx2 hE.here.1.1.1.1.1.2
            obtain ⟨l1, m1⟩ := bx2 hE.here.1.1.2
            go_wp2_with fail
            clear l0 m0 l1 m1
            have hc := law_same_t (k := E0) (c := c0) (d := c3) hE.here.1.1.1.1.1.2.2 hE.here.1.1.2.2 (by omega) (by omega) rfl
            refine hc.mono ?_
            clear hc
            rintro e w30 ⟨rfl, hb⟩
            replace hE := hE.step hb
            clear hb
            obtain ⟨l0, m0⟩ := bx2 hE.here.1.1.1.1.2
            obtain ⟨l1, m1⟩ := bx2 hE.here.1.2
            go_wp2_with fail
            clear l0 m0 l1 m1
            have hc := law_same_t (k := E1) (c := c1) (d := c4) hE.here.1.1.1.1.2.2 hE.here.1.2.2 (by omega) (by omega) rfl
            refine hc.mono ?_
            clear hc
            rintro e w31 ⟨rfl, hb⟩
            replace hE := hE.step hb
            clear hb
            obtain ⟨l0, m0⟩ := bx2 hE.here.1.1.1.2
            obtain ⟨l1, m1⟩ := bx2 hE.here.2
            go_wp2_with fail
            clear l0 m0 l1 m1
            have hc := law_same_t (k := E2) (c := c2) (d := c5) hE.here.1.1.1.2.2 hE.here.2.2 (by omega) (by omega) rfl
            refine hc.mono ?_
            clear hc
            rintro e w32 ⟨rfl, hb⟩
            replace hE := hE.step hb
            clear hb
            obtain ⟨l0, m0⟩ := bx2 hE.here.1.1.1.1.1.1.1
            go_wp2_with fail
            clear l0 m0
            have hc := valid_v (c := c) hE.here.1.1.1.1.1.1.1.2 hsm
            refine hc.mono ?_
            clear hc
            rintro e w33 ⟨rfl, hb⟩
            replace hE := hE.step hb
            clear hb
            have hzl := hE.here.1.1.1.1.1.1.1.2.len
            obtain ⟨hz0, tl1, tl2, tl3⟩ := big_text (z := za) (by omega) (by omega)
            have hvi := val_itoa za
            have hno := numOK_itoa za
            have hnz := numOK_zeros hz0 200
            have hln : ln b16 za.natAbs ≤ 1024 := by omega
            obtain ⟨tt, htt⟩ : ∃ tt, Lib.itoa za = tt := ⟨_, rfl⟩
            rw [htt] at tl1 tl2 tl3 hvi hno hnz
            have HTT := Lib.hid htt
            have HVI := Lib.hid hvi
            have HNO := Lib.hid hno
            have HNZ := Lib.hid hnz
            have HT3 := Lib.hid tl3
            have HZL := Lib.hid hzl
            clear htt hvi hno hnz hzl tl3
            obtain ⟨k1, k2⟩ := bx2 hE.here.1.1.1.1.1.1.1
            go_wp2_with fail
            clear k1 k2
            refine (text_s2 (c := c) hE.here.1.1.1.1.1.1.1.2 hsm (htab.below hE.bel) HTT.out).mono ?_
            rintro e w40 ⟨rfl, hb⟩
            replace hE := hE.step hb
            clear hb
            obtain ⟨k1, k2⟩ := bx2 hE.here.1.1.1.1.1.1.1
            go_wp2_with fail
            clear k1 k2
            refine (valid_v (c := c) hE.here.1.1.1.1.1.1.1.2 hsm).mono ?_
            rintro e w41 ⟨rfl, hb⟩
            replace hE := hE.step hb
            clear hb
            go_wp2_with fail
            refine (parse_ok2 _ (by omega) HNO.out tl2 HVI.out hln).mono ?_
            rintro e w42 ⟨s7, A7, n7, c7, rfl, ho7, hb7⟩
            replace hE := hE.step hb7
            have hv7 := ho7.v
            have hl7 : n7 ≤ 1024 := by rw [ho7.len]; exact hln
            clear hb7 ho7
            go_upto_region 23 with (fail)
            replace hE := hE.fresh hv7 c7
            clear hv7
            obtain ⟨z7, hz7⟩ : ∃ z7, z7 = w42.heap.size := ⟨_, rfl⟩
            generalize w42.alloc (.cells #[.bool s7, .slice A7 n7 c7] 24) = W7 at hE ⊢
            rw [← hz7] at *
            clear hz7
            go_wp2_with fail
            go_loop [25, 29] (fun s i => ∃ q : Nat, q ≤ 200 ∧ i = .int .i64 (q : Int) ∧ s = .string (str (tt ++ List.replicate q 48))) (fun _ i => 200 - (intOf i).toNat)
            case atStart => exact ⟨0, Nat.zero_le _, rfl, by rw [List.replicate_zero, List.append_nil]⟩
            case round =>
              obtain ⟨q, hq, rfl, rfl⟩ := hrel
              by_cases hlt : q < 200
              · have t1 : decide ((q : Int) < 200) = true := decide_eq_true (by omega)
                have hs1 : (str (tt ++ List.replicate q 48)).size + 1 ≤ 9223372036854775807 := by rw [str_size, List.length_append, List.length_replicate]; omega
                have hs2 : (str (tt ++ List.replicate q 48)).size + (⟨#[48]⟩ : ByteArray).size ≤ 9223372036854775807 := hs1
                have HS := Lib.hid (str_snoc tt q)
                obtain ⟨SS, hSS⟩ : ∃ SS, SS = str (tt ++ List.replicate q 48) := ⟨_, rfl⟩
                rw [← hSS] at hs1 hs2 HS ⊢
                clear hSS
                go_wp2_with fail
                go_round
                case rel => exact ⟨q + 1, hlt, by go_num, by rw [← HS.out]⟩
                case measure => simp [intOf]; omega
              · obtain rfl : q = 200 := by omega
                clear hq hlt
                have hlen : (tt ++ List.replicate 200 (48 : UInt8)).length ≤ 1000000 := by rw [List.length_append, List.length_replicate]; omega
                obtain ⟨u, hu⟩ : ∃ u, u = tt ++ List.replicate 200 (48 : UInt8) := ⟨_, rfl⟩
                rw [← hu] at hlen HNZ HT3 ⊢
                clear hu
                go_wp2_with fail
                refine (parse_long _ hlen HNZ.out HT3.out).mono ?_
                rintro e w43 ⟨rfl, hb⟩
                replace hE := (hE.step hb).alloc (.cells #[.bool false, .slice none 0 0] 24)
                clear hb
                obtain ⟨l0, m0⟩ := bx2 hE.here.2
                obtain ⟨l1, m1⟩ := bx2 hE.here.1.1.1.1.1.1.1.1
                go_wp2_with fail
                clear l0 m0 l1 m1
                have hc := law_same_t (k := 0) (c := c7) (d := c) hE.here.2.2 hE.here.1.1.1.1.1.1.1.1.2 (by omega) (by omega) rfl
                refine hc.mono ?_
                clear hc
                rintro e w44 ⟨rfl, hb⟩
                replace hE := hE.step hb
                clear hb
                go_wp2_with fail
                refine (awake_any _ (htab.below hE.bel)).mono ?_
                rintro e w45 ⟨rfl, hb⟩
                replace hE := hE.step hb
                go_wp2_with fail
                go_ret
                exact ⟨rfl, hE.bel⟩
end Go.Proofs.YtafglggjncnkkaaDoor
