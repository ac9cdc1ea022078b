/-
  Several texts in one: The walk of the reference's Sum. The walk of the reference's Divided. The walk of the reference's Common: the greatest common divisor of absolute values. The walks of the methods of frac.term, and of frac.Valid. The walks of frac.Valid and of frac.allValid at two fractions. The walks of frac.result, FromInt, Same, Add, Sub, Mul and Cmp at fractions. The walks of frac.Cmp and of the two functions Same.
-/
import Derived.Test.YtmjlankpihnicaaGreatK5
import Derived.Laws.AppendOwn
import Derived.Test.YtmjlankpihnicaaGreatK1
namespace Go.Proofs.YtmjlankpihnicaaGreat
open Go.RowKit

theorem sgn_of {z : Int} {s : Bool} {x : Nat} (h : z = toI s x) : z.natAbs = x ∧ (s && decide (0 < ln b16 x)) = decide (z < 0) := by
  subst h
  refine ⟨toI_abs s x, ?_⟩
  rw [toI_neg]
  congr 1
  exact decide_eq_decide.2 (ln_pos b16_two)
theorem rplus_o (A B : Option Addr) (c d x y : Nat) (w : World) (hA : Num16 w A x) (hB : Num16 w B y) (la : ln b16 x ≤ 1000000) (lb : ln b16 y ≤ 1000000) :
    Calls Tryz.prog 141 #[.slice A (ln b16 x) c, .slice B (ln b16 y) d] w fun e w' => ∃ A' c', e = .returned (.slice A' (ln b16 (x + y)) c') ∧ Num16 w' A' (x + y) ∧ (∀ p, A' = some p → w.heap.size ≤ p.block) ∧ Below w.heap.size w w' :=
  (rplus_any A B c d x y w hA hB la lb).mono fun _ _ ⟨A', c', he, ho, hb⟩ => ⟨A', c', he, ho.num, fun p hp => by subst hp; exact (World.ownsRow.lt ho _ rfl).1, hb⟩
end Go.Proofs.YtmjlankpihnicaaGreat
namespace Go.Proofs.YtmjlankpihnicaaGreat
open Go.RowKit

theorem rcopy_some {p : Addr} {n : Nat} {f : Nat → Nat} {w : World} {B : Nat} (h : Rd B .u16 w (some p) n f) : ∀ (j : Nat) (u : Value), (nums .u16 n f)[j]? = some u → w.cell? (p.add j) = some u := by
  intro j u hu
  have hj : j < n := by
    rcases Nat.lt_or_ge j n with hj | hj
    · exact hj
    · rw [List.getElem?_eq_none (by rw [nums_length]; exact hj)] at hu; cases hu
  obtain ⟨b, o, e, hb, hc⟩ := h (by omega)
  have e' : p = ⟨b, o, none⟩ := by injection e
  subst e'
  rw [nums_get hj] at hu
  have h1 := hc j hj
  unfold Addr.add
  split
  · rename_i h0; subst h0; rw [← hu]; exact h1
  · rw [← hu]; exact h1
theorem num16_zero (w : World) (A : Option Addr) : Num16 w A 0 := fun h => absurd h (by rw [ln_zero]; exact Nat.lt_irrefl 0)

/-- A quotient and a remainder, in memory. -/
def RDivW (x y : Nat) (w : World) (e : Ending) (w' : World) : Prop :=
  ∃ A c B d, e = .returned (.tuple #[.slice A (ln b16 (x / y)) c, .slice B (ln b16 (x % y)) d]) ∧ Num16 w' A (x / y) ∧ Num16 w' B (x % y) ∧ Below w.heap.size w w'
set_option linter.unusedSimpArgs false in
set_option maxRecDepth 100000 in
set_option maxHeartbeats 4000000 in
theorem rdivided_one (A B : Option Addr) (c d x y : Nat) (w : World) (hA : Num16 w A x) (hB : Num16 w B y) (hy1 : ln b16 y = 1) (la : ln b16 x ≤ 1000000) :
    Calls Tryz.prog 110 #[.slice A (ln b16 x) c, .slice B (ln b16 y) d] w (RDivW x y w) := by
  obtain ⟨b, o, rfl, hb, hc⟩ := hB (by omega)
  have c1 := hc 0 (by omega)
  have hv : dgt b16 y 0 = y := by
    have h := vs_dgt_ln b16_two (x := y)
    rw [hy1, vs_succ, vs_zero] at h
    simpa using h
  have hy0 : 0 < y := (ln_pos b16_two).1 (by omega)
  have hy2 : y ≤ 65535 := by have := dgt16_lt y 0; omega
  rw [hv, Nat.add_zero] at c1
  have o2 : IntKind.i64.wrap (y : Int) = (y : Int) := by rw [IntKind.wrap_i64]; omega
  have HS := Lib.hid (rshort_any A c x y w hA hy0 hy2 (by omega))
  have HL := Lib.hid hy1
  rw [hy1]
  clear hc hv hy1
  go_enter Tryz.func110, Tryz.ntmps110
  go_wp2_with fail
  refine HS.out.mono ?_
  rintro e w1 ⟨A', c', B', d', rfl, h1, h2, h3, h4, h5⟩
  go_wp2_with fail
  go_ret2
  exact ⟨A', c', B', d', rfl, h1, h2, h5⟩
theorem run_append_empty {P : Program} {w : World} (t ty e : TypeId) (i : TypeInfo) (ht : P.underlying t = some (.slice e)) (hi : P.info? e = some i) (g c0 c : Nat) :
    (Builtin.append_ #[t, t] ty #[.slice (some ⟨g, 0, none⟩) 0 c0, .slice none 0 c]).run P w = .ok (.slice (some ⟨g, 0, none⟩) 0 c0) w := by
  simp [Builtin.append_, run_underlying ht, sizeOf, typeInfo, hi, Builtin.lenOf, Builtin.firstCells, storeCells]
theorem wpList_append_empty {P : Program} {w : World} {ops : Array Oper} {rest : List Oper} {o : Oper} {a : Act} {Q : Exit → Act → World → Prop} (hgd : o.guard = none) (s x : Operand) (t : TypeId)
    (ho : o.op = .call { callee := .builtin .append, args := #[s, x], argTypes := #[t, t] }) (e : TypeId) (i : TypeInfo) (ht : P.underlying t = some (.slice e)) (hi : P.info? e = some i)
    (g c0 n c : Nat) (hn : n = 0) (hs : a.eval s = .slice (some ⟨g, 0, none⟩) 0 c0) (hx : a.eval x = .slice none n c) (h : wpList P ops Q rest (a.put o.dst (.slice (some ⟨g, 0, none⟩) 0 c0)) w) : wpList P ops Q (o :: rest) a w := by
  subst hn
  refine wpList_plain hgd fun K hK => ?_
  have hrun := run_append_empty (P := P) (w := w) t o.type e i ht hi g c0 c
  unfold Oper.wp
  simp [execOp, ho, resolve, invoke, builtin, hs, hx, hrun, Result.andThen]
  exact hK _ _ h
theorem ln_one : ln b16 1 = 1 := ln_eq b16_two (by decide) (.inr (by decide))
theorem num_cell (w : World) (v : Nat) (hv : v < 65536) (h0 : 0 < v) : Num16 (w.alloc (.cells #[.int .u16 (v : Int)] 116)) (some ⟨w.heap.size, 0, none⟩) v := by
  have hcell := heap_alloc_new w (.cells #[.int .u16 (v : Int)] 116)
  have h1 : ln b16 v = 1 := ln_eq b16_two (show v < b16 ^ 1 from hv) (.inr h0)
  unfold Num16
  rw [h1]
  intro _
  refine ⟨_, 0, rfl, by simp, fun i hi => ?_⟩
  obtain rfl : i = 0 := by omega
  refine (cell_of_row _ _ 0 _ _ (0, 0) hcell).trans ?_
  show some (Value.int .u16 (v : Int)) = _
  have h2 : dgt b16 v 0 = v := by
    unfold dgt
    rw [Nat.pow_zero, Nat.div_one]
    exact Nat.mod_eq_of_lt hv
  rw [h2]
theorem dbl_max {x y : Nat} (hx : ln b16 x ≤ 900000) (hy : ln b16 y ≤ 900000) {k : Nat} (h : Dbl x y k) {i : Nat} (hi : i ≤ k) : ln b16 (y * 2 ^ i) ≤ 900001 := h.ln2 hi hx hy
theorem div_lens {x e : Nat} (hx : ln b16 x ≤ 900000) : ln b16 (x / e) ≤ 900000 ∧ ln b16 (x % e) ≤ 900000 ∧ ln b16 (2 * (x / e)) ≤ 900001 := by
  have h1 := Nat.le_trans (ln_mono b16_two (Nat.div_le_self x e)) hx
  have h2 := Nat.le_trans (ln_mono b16_two (Nat.mod_le x e)) hx
  have h3 := ln_add (B := b16) b16_two (m := 900000) (x := x / e) (y := x / e) h1 h1
  rw [← Nat.two_mul] at h3
  exact ⟨h1, h2, h3⟩
/-- The state before a round of the third loop: m doublings are left. -/
def DvSt (x y m : Nat) (w : World) (D Q R : Option Addr) : Prop := Num16 w D (y * 2 ^ m) ∧ Num16 w Q (x / (y * 2 ^ m)) ∧ Num16 w R (x % (y * 2 ^ m))

set_option linter.unusedSimpArgs false in
set_option maxRecDepth 100000 in
set_option maxHeartbeats 8000000 in
theorem rdivided_many (A B : Option Addr) (c d x y : Nat) (w : World) (hA : Num16 w A x) (hB : Num16 w B y) (hy1 : ln b16 y ≠ 1) (hy : 0 < y) (la : ln b16 x ≤ 900000) (lb : ln b16 y ≤ 900000) :
    Calls Tryz.prog 110 #[.slice A (ln b16 x) c, .slice B (ln b16 y) d] w (RDivW x y w) := by
  have t1 : (((ln b16 y : Nat) : Int) == 1) = false := beq_eq_false_iff_ne.2 (by omega)
  obtain ⟨i0, hi, hz0, hz1, hz2⟩ := info_parts info_u16
  go_enter Tryz.func110, Tryz.ntmps110
  go_wp2_with fail
  clear t1
  go_loopw [6, 7] (fun n v wr => ∃ (k : Nat) (D : Option Addr) (e : Nat), n = .int .i64 (k : Int) ∧ v = .slice D (ln b16 (y * 2 ^ k)) e ∧ Num16 wr D (y * 2 ^ k) ∧ Hid (Dbl x y k) ∧ k ≤ 16 * ln b16 x ∧ Below w.heap.size w wr) (fun n _ _ => x + 1 - (intOf n).toNat)
  case atStart => exact ⟨0, B, d, rfl, by rw [Nat.pow_zero, Nat.mul_one], by rw [Nat.pow_zero, Nat.mul_one]; exact hB, Lib.hid (fun i hi => absurd hi (by omega)), by omega, Below.refl _ _⟩
  case round =>
    obtain ⟨k, D, e, rfl, rfl, hD, hdb, hk, hbel⟩ := hrel
    by_cases hlt : x < y * 2 ^ k
    · have hs := dv_start hlt
      have HS := Lib.hid hs
      have T := decide_eq_true hlt
      have hc := rless_any A D c e x (y * 2 ^ k) wr (Num16.below hA hbel) hD (by omega)
      unfold LessPost at hc
      rw [T] at hc
      have HC := Lib.hid hc
      clear hs T hc
      go_wp2_with fail
      refine HC.out.mono ?_
      rintro e2 w2 ⟨rfl, nd, rfl⟩
      have hbel2 : Below w.heap.size w (wr.drewN nd) := belowN hbel nd
      have hB2 : Num16 (wr.drewN nd) B y := Num16.below hB hbel2
      clear hD
      obtain ⟨w2, hw2⟩ : ∃ w2, w2 = wr.drewN nd := ⟨_, rfl⟩
      rw [← hw2] at hbel2 hB2 ⊢
      clear hw2 HC
      go_wp2_with fail
      go_loopw [8, 9] (fun v i wr => ∃ (j : Nat) (D : Option Addr) (e : Nat), j ≤ k ∧ i = .int .i64 (j : Int) ∧ v = .slice D (ln b16 (y * 2 ^ j)) e ∧ Num16 wr D (y * 2 ^ j) ∧ Below w.heap.size w wr) (fun _ i _ => k - (intOf i).toNat)
      case atStart => exact ⟨0, B, d, Nat.zero_le _, rfl, by rw [Nat.pow_zero, Nat.mul_one], by rw [Nat.pow_zero, Nat.mul_one]; exact hB2, hbel2⟩
      case round =>
        obtain ⟨j, D2, e2, hj, rfl, rfl, hD2, hbel3⟩ := hrel
        have hmx := dbl_max la lb hdb.out hj
        by_cases hjk : j < k
        · have t2 : decide ((j : Int) < (k : Int)) = true := decide_eq_true (by omega)
          have hc := rplus_o D2 D2 e2 e2 (y * 2 ^ j) (y * 2 ^ j) wr hD2 hD2 (by omega) (by omega)
          rw [two_pow_double] at hc
          have HC := Lib.hid hc
          clear hc
          go_wp2_with fail
          refine HC.out.mono ?_
          rintro e3 w3 ⟨D3, c3, rfl, hD3, -, hb3⟩
          go_wp2_with fail
          go_roundw
          case rel => exact ⟨j + 1, D3, c3, hjk, by go_num, rfl, hD3, hbel3.trans (hb3.mono hbel3.size)⟩
          case measure => simp [intOf]; omega
        · obtain rfl : j = k := by omega
          have t2 : decide ((j : Int) < (j : Int)) = false := decide_eq_false (by omega)
          have hA3 : Num16 wr A x := Num16.below hA hbel3
          obtain ⟨w3, rfl⟩ : ∃ w3 : World, w3 = wr := ⟨_, rfl⟩
          obtain ⟨hq0, hr0⟩ := HS.out
          go_upto_region 14 with (fail)
          go_cut [11] from 43 to 45 (fun r wx => ∃ R cr, r = .slice R (ln b16 (x % (y * 2 ^ j))) cr ∧ Num16 wx R x ∧ Below w3.heap.size w3 wx)
          case first =>
            have hbe : Below w3.heap.size w3 (w3.alloc (.cells #[] 116)) := (Below.refl _ _).alloc (Nat.le_refl _) _
            have HR := Lib.hid hr0
            clear hq0 hr0 t2
            cases A with
            | none =>
              have hx0 : ln b16 x = 0 := by
                rcases Nat.eq_zero_or_pos (ln b16 x) with h0 | h0
                · exact h0
                · obtain ⟨_, _, h1, _⟩ := hA3 h0
                  cases h1
              have HX0 := Lib.hid hx0
              clear hx0
              go_wp2_with (at_builtin; refine wpList_append_empty (by rfl) _ _ 25 (by rfl) 116 i0 Tryz.underlying25 hi w3.heap.size 0 (ln b16 x) c HX0.out (by rfl) (by rfl) ?_)
              go_meet
              exact ⟨some ⟨w3.heap.size, 0, none⟩, 0, by rw [HR.out, HX0.out], fun h => absurd h (by rw [HX0.out]; exact Nat.lt_irrefl 0), hbe⟩
            | some p =>
              have HC := Lib.hid (rcopy_some (Rd.below hA3 hbe))
              have HL : (nums .u16 (ln b16 x) (dgt b16 x)).length = ln b16 x * 1 := by rw [nums_length]; omega
              have H1 : ∀ u ∈ nums .u16 (ln b16 x) (dgt b16 x), u.oneCell' = true := by simp [nums, Value.oneCell']
              have HM : 0 + ln b16 x ≤ maxLen := by unfold maxLen; omega
              have HB : (0 + ln b16 x) * 2 ≤ 140737488355328 := by omega
              have HSZ : w3.heap.size ≤ (w3.alloc (.cells #[] 116)).heap.size := by simp
              go_wp2_with (at_builtin; refine wpList_append_own _ rfl _ _ 25 rfl w3.heap.size 116 i0 (.int .u16 0) 1 2 Tryz.underlying25 hi hz0 hz1 hz2 rfl (by decide) _ _ _ rfl (World.ownsRow_made w3 #[] 0 (Nat.le_refl _) (by decide) rfl) p (ln b16 x) c (nums .u16 (ln b16 x) (dgt b16 x)) rfl HL HC.out H1 HM HB HSZ ?_; intro v' w4 hown hgrow _; obtain ⟨A4, c4, rfl⟩ := own_slice16 hown)
              go_meet
              rw [Nat.zero_add, List.nil_append] at hown
              obtain ⟨A5, c5, e5, _, hr5⟩ := RowO.of_own hown
              injection e5 with e5 e6 e7
              subst e5
              refine ⟨A4, c4, by rw [HR.out], hr5.rd, hbe.grown hgrow (by simp) (fun k e => by cases e; exact Nat.le_refl _)⟩
          case rest =>
          obtain ⟨R, cr, rfl, hR0, hb4⟩ := hcut
          have hst : DvSt x y j wc D2 none R := ⟨Num16.below hD2 hb4, by rw [hq0]; exact num16_zero _ _, by rw [hr0]; exact hR0⟩
          have hbel4 := hbel3.trans (hb4.mono hbel3.size)
          have HQ := Lib.hid hq0
          clear hR0 hb4 hq0 hr0 t2 HS hD2 hdb hA3
          obtain ⟨w5, rfl⟩ : ∃ w5 : World, w5 = wc := ⟨_, rfl⟩
          go_wp2_with fail
          go_loopw [8, 10, 11, 12] (fun dv q r i wr => ∃ (p m : Nat) (D Q R : Option Addr) (cd cq cr : Nat), p + m = j ∧ i = .int .i64 (p : Int) ∧ dv = .slice D (ln b16 (y * 2 ^ m)) cd ∧ q = .slice Q (ln b16 (x / (y * 2 ^ m))) cq ∧ r = .slice R (ln b16 (x % (y * 2 ^ m))) cr ∧ DvSt x y m wr D Q R ∧ ln b16 (y * 2 ^ m) ≤ 900001 ∧ Below w.heap.size w wr) (fun _ _ _ i _ => j - (intOf i).toNat)
          case atStart => exact ⟨0, j, D2, none, R, e2, 0, cr, by omega, rfl, rfl, by rw [HQ.out, ln_zero], rfl, hst, hmx, hbel4⟩
          case round =>
            obtain ⟨p, m, D, Q, R, cd, cq, cr, hpm, rfl, rfl, rfl, rfl, ⟨hD, hQ, hR⟩, hln, hbel5⟩ := hrel
            by_cases hpj : p < j
            · obtain ⟨m, rfl⟩ : ∃ m', m = m' + 1 := ⟨m - 1, by omega⟩
              have t3 : decide ((p : Int) < (j : Int)) = true := decide_eq_true (by omega)
              have hE0 : 0 < y * 2 ^ m := Nat.mul_pos hy (Nat.pow_pos (by decide))
              obtain ⟨d1, d2⟩ := dv_step (x := x) (e := y * 2 ^ m) hE0
              have hE2 : y * 2 ^ m * 2 = y * 2 ^ (m + 1) := by rw [Nat.pow_succ, Nat.mul_assoc]
              obtain ⟨L1, L2, L3⟩ := div_lens (x := x) (e := y * 2 ^ (m + 1)) la
              have hlm : ln b16 (y * 2 ^ m) ≤ 900001 := Nat.le_trans (ln_mono b16_two (by rw [← hE2]; omega)) hln
              rw [hE2] at d1 d2
              have hh := rhalf_any D cd (y * 2 ^ (m + 1)) wr hD (by omega)
              rw [two_pow_half] at hh
              have hp := fun W c1 c2 hq => rplus_o Q Q c1 c2 (x / (y * 2 ^ (m + 1))) (x / (y * 2 ^ (m + 1))) W hq hq (by omega) (by omega)
              rw [← Nat.two_mul] at hp
              have HH := Lib.hid hh
              have HP := Lib.hid hp
              have HD1 := Lib.hid d1
              have HD2 := Lib.hid d2
              clear hh hp d1 d2 hE2
              go_wp2_with fail
              refine HH.out.mono ?_
              rintro e5 w5 ⟨D5, c5, rfl, hD5, -, hb5⟩
              have hQ5 := Num16.below hQ hb5
              have hR5 := Num16.below hR hb5
              replace hbel5 := hbel5.trans (hb5.mono hbel5.size)
              clear hb5 hD hQ hR HH
              go_wp2_with fail
              refine (HP.out w5 cq cq hQ5).mono ?_
              rintro e6 w6 ⟨Q6, c6, rfl, hQ6, -, hb6⟩
              have hD6 := Num16.below hD5 hb6
              have hR6 := Num16.below hR5 hb6
              replace hbel5 := hbel5.trans (hb6.mono hbel5.size)
              clear hb6 hD5 hQ5 hR5 HP
              have hc := rless_any R D5 cr c5 (x % (y * 2 ^ (m + 1))) (y * 2 ^ m) w6 hR6 hD6 (by omega)
              unfold LessPost at hc
              by_cases hRD : x % (y * 2 ^ (m + 1)) < y * 2 ^ m
              · rw [decide_eq_true hRD] at hc
                have HC := Lib.hid hc
                have hd1 := HD1.out
                have hd2 := HD2.out
                rw [if_pos hRD] at hd1 hd2
                rw [Nat.add_zero] at hd1
                have HD1 := Lib.hid hd1
                have HD2 := Lib.hid hd2
                clear hc hd1 hd2 hRD
                go_wp2_with fail
                refine HC.out.mono ?_
                rintro e7 w7 ⟨rfl, nd, rfl⟩
                go_wp2_with fail
                go_roundw
                case rel =>
                  refine ⟨p + 1, m, D5, Q6, R, c5, c6, cr, by omega, by go_num, rfl, by rw [HD1.out], by rw [HD2.out], ⟨Num16.below hD6 (belowN (Below.refl _ _) nd), ?_, ?_⟩, hlm, belowN hbel5 nd⟩
                  · rw [HD1.out]; exact Num16.below hQ6 (belowN (Below.refl _ _) nd)
                  · rw [HD2.out]; exact Num16.below hR6 (belowN (Below.refl _ _) nd)
                case measure => simp [intOf]; omega
              · rw [decide_eq_false hRD] at hc
                have HC := Lib.hid hc
                have hd1 := HD1.out
                have hd2 := HD2.out
                rw [if_neg hRD] at hd1 hd2
                have HD1 := Lib.hid hd1
                have HD2 := Lib.hid hd2
                have hm1 := rminus_any R D5 cr c5 (x % (y * 2 ^ (m + 1))) (y * 2 ^ m)
                have HM := Lib.hid hm1
                have hp1 := fun W hq => rplus_o Q6 (some ⟨W.heap.size, 0, none⟩) c6 1 (2 * (x / (y * 2 ^ (m + 1)))) 1 (W.alloc (.cells #[.int .u16 1] 116)) hq (num_cell W 1 (by decide) (by decide)) (by omega) (by rw [ln_one]; decide)
                rw [ln_one] at hp1
                have HP1 := Lib.hid hp1
                clear hc hd1 hd2 hm1 hp1
                go_wp2_with fail
                refine HC.out.mono ?_
                rintro e7 w7 ⟨rfl, nd, rfl⟩
                go_wp2_with fail
                refine (HM.out _ (Num16.below hR6 (belowN (Below.refl _ _) nd)) (Num16.below hD6 (belowN (Below.refl _ _) nd)) (by omega) (by omega)).mono ?_
                rintro e8 w8 ⟨R8, c8, rfl, hR8, -, hb8⟩
                have hD8 : Num16 w8 D5 (y * 2 ^ m) := Num16.below hD6 ((belowN (Below.refl _ _) nd).trans hb8)
                have hQ8 : Num16 w8 Q6 _ := Num16.below hQ6 ((belowN (Below.refl _ _) nd).trans hb8)
                replace hbel5 := (belowN hbel5 nd).trans (hb8.mono hbel5.size)
                clear hb8 hD6 hQ6 hR6
                have hba := (Below.refl w8.heap.size w8).alloc (Nat.le_refl _) (.cells #[.int .u16 1] 116)
                go_wp2_with fail
                refine (HP1.out w8 (Num16.below hQ8 hba)).mono ?_
                rintro e9 w9 ⟨Q9, c9, rfl, hQ9, -, hb9⟩
                have hb10 := hba.trans (hb9.mono hba.size)
                go_wp2_with fail
                go_roundw
                case rel =>
                  refine ⟨p + 1, m, D5, Q9, R8, c5, c9, c8, by omega, by go_num, rfl, by rw [HD1.out], by rw [HD2.out], ⟨Num16.below hD8 hb10, ?_, ?_⟩, hlm, hbel5.trans (hb10.mono hbel5.size)⟩
                  · rw [HD1.out]; exact hQ9
                  · rw [HD2.out]; exact Num16.below hR8 hb10
                case measure => simp [intOf]; omega
            · obtain rfl : p = j := by omega
              obtain rfl : m = 0 := by omega
              have t3 : decide ((p : Int) < (p : Int)) = false := decide_eq_false (by omega)
              rw [Nat.pow_zero, Nat.mul_one] at hQ hR ⊢
              go_wp2_with fail
              go_ret2
              exact ⟨Q, cq, R, cr, rfl, hQ, hR, hbel5⟩
    · have hdk := Dbl.succ hdb.out hlt
      have hkk := le_of_doubles hy hdk
      have hkx := le_val_of_double hy (show y * 2 ^ k ≤ x by omega)
      have HD := Lib.hid hdk
      have T := decide_eq_false hlt
      have hc := rless_any A D c e x (y * 2 ^ k) wr (Num16.below hA hbel) hD (by omega)
      unfold LessPost at hc
      rw [T] at hc
      have HC := Lib.hid hc
      have hmx := dbl_max la lb hdb.out (Nat.le_refl _)
      have hp := rplus_o D D e e (y * 2 ^ k) (y * 2 ^ k) 
      rw [two_pow_double] at hp
      have HP := Lib.hid hp
      clear T hc hp hdk hlt
      go_wp2_with fail
      refine HC.out.mono ?_
      rintro e2 w2 ⟨rfl, nd, rfl⟩
      go_wp2_with fail
      refine (HP.out (wr.drewN nd) hD hD (by omega) (by omega)).mono ?_
      rintro e3 w3 ⟨D3, c3, rfl, hD3, -, hb3⟩
      have hbel3 : Below w.heap.size w w3 := (belowN hbel nd).trans (hb3.mono hbel.size)
      go_wp2_with fail
      go_roundw
      case rel => exact ⟨k + 1, D3, c3, by go_num, rfl, hD3, HD.out, by omega, hbel3⟩
      case measure => simp [intOf]; omega
end Go.Proofs.YtmjlankpihnicaaGreat
namespace Go.Proofs.YtmjlankpihnicaaGreat
open Go.RowKit

theorem rdivided_any (A B : Option Addr) (c d x y : Nat) (w : World) (hA : Num16 w A x) (hB : Num16 w B y) (hy : 0 < y) (la : ln b16 x ≤ 900000) (lb : ln b16 y ≤ 900000) :
    Calls Tryz.prog 110 #[.slice A (ln b16 x) c, .slice B (ln b16 y) d] w (RDivW x y w) := by
  by_cases h : ln b16 y = 1
  · exact rdivided_one A B c d x y w hA hB h (by omega)
  · exact rdivided_many A B c d x y w hA hB h hy la lb
/-- The number that a slice value of limbs stands for, read from memory. -/
def valOf16 (w : World) : Value → Nat
  | .slice (some p) n _ => vs b16 (fun i => match w.cell? ⟨p.block, p.off + i, none⟩ with | some (.int _ z) => z.toNat | _ => 0) n
  | _ => 0
theorem valOf16_num {w : World} {A : Option Addr} {x c : Nat} (h : Num16 w A x) : valOf16 w (.slice A (ln b16 x) c) = x := by
  rcases Nat.eq_zero_or_pos (ln b16 x) with h0 | h0
  · have hx : x = 0 := by
      rcases Nat.eq_zero_or_pos x with e | e
      · exact e
      · have := (ln_pos b16_two).2 e; omega
    subst hx
    cases A <;> simp [valOf16, ln_zero, vs]
  · obtain ⟨b, o, rfl, hb, hc⟩ := h h0
    have h1 : vs b16 (fun i => match w.cell? ⟨b, o + i, none⟩ with | some (.int _ z) => z.toNat | _ => 0) (ln b16 x) = vs b16 (dgt b16 x) (ln b16 x) := vs_congr fun i hi => by rw [hc i hi]; simp
    show vs b16 (fun i => match w.cell? ⟨b, o + i, none⟩ with | some (.int _ z) => z.toNat | _ => 0) (ln b16 x) = x
    rw [h1, vs_dgt_ln b16_two]
/-- The two slices of the loop. -/
def ComSt (G : Nat) (w0 : World) (a b : Value) (wr : World) (y : Nat) : Prop :=
  ∃ A c B d x, a = .slice A (ln b16 x) c ∧ b = .slice B (ln b16 y) d ∧ Num16 wr A x ∧ Num16 wr B y ∧ Nat.gcd x y = G ∧ ln b16 x ≤ 900000 ∧ ln b16 y ≤ 900000 ∧ Below w0.heap.size w0 wr
set_option linter.unusedSimpArgs false in
set_option maxRecDepth 100000 in
set_option maxHeartbeats 4000000 in
theorem rcommon_any (A B : Option Addr) (c d x y : Nat) (w : World) (hA : Num16 w A x) (hB : Num16 w B y) (la : ln b16 x ≤ 900000) (lb : ln b16 y ≤ 900000) :
    Calls Tryz.prog 107 #[.slice A (ln b16 x) c, .slice B (ln b16 y) d] w fun e w' => ∃ A' c', e = .returned (.slice A' (ln b16 (Nat.gcd x y)) c') ∧ Num16 w' A' (Nat.gcd x y) ∧ Below w.heap.size w w' := by
  obtain ⟨G, hG⟩ : ∃ G, Nat.gcd x y = G := ⟨_, rfl⟩
  rw [hG]
  have HG := Lib.hid hG
  clear hG
  go_enter Tryz.func107, Tryz.ntmps107
  go_wp2_with fail
  go_loopw [0, 1] (fun a b wr => ∃ v, ComSt G w a b wr v) (fun _ b wr => valOf16 wr b)
  case atStart => exact ⟨y, A, c, B, d, x, rfl, rfl, hA, hB, HG.out, la, lb, Below.refl _ _⟩
  case round =>
    obtain ⟨y', A, c, B, d, x', rfl, rfl, hA, hB, hg, la, lb, hbel⟩ := hrel
    have hval := valOf16_num (c := d) hB
    by_cases h0 : 0 < y'
    · have t1 : 0 < ln b16 y' := (ln_pos b16_two).2 h0
      have hlr : ln b16 (x' % y') ≤ 900000 := Nat.le_trans (ln_mono b16_two (Nat.le_of_lt (Nat.mod_lt _ h0))) lb
      have hmod := Nat.mod_lt x' h0
      have HV := Lib.hid hval
      have HG2 := Lib.hid hg
      clear hval hg
      go_wp2_with fail
      refine (rdivided_any A B c d x' y' wr hA hB h0 la lb).mono ?_
      rintro e w2 ⟨Q, cq, R, cr, rfl, -, hR, hb2⟩
      have hval2 := valOf16_num (c := cr) hR
      have HV2 := Lib.hid hval2
      clear hval2
      go_wp2_with fail
      go_roundw
      case rel => exact ⟨x' % y', B, d, R, cr, y', rfl, rfl, Num16.below hB hb2, hR, by rw [Nat.gcd_comm, ← Nat.gcd_rec, Nat.gcd_comm]; exact HG2.out, lb, hlr, hbel.trans (hb2.mono hbel.size)⟩
      case measure => rw [HV.out, HV2.out]; exact hmod
    · obtain rfl : y' = 0 := by omega
      have hx' : x' = G := by rw [← hg, Nat.gcd_zero_right]
      have t1 : decide (0 < ln b16 0) = false := by rw [ln_zero]; rfl
      have HX := Lib.hid hx'
      clear hval hx' hg
      go_wp2_with fail
      go_ret
      exact ⟨A, c, by rw [HX.out]; rfl, by rw [← HX.out]; exact hA, hbel⟩
end Go.Proofs.YtmjlankpihnicaaGreat
namespace Go.Proofs.YtmjlankpihnicaaGreat
open Go.RowKit

/-- What frac.Valid says of two numbers. -/
def okF (s : Bool) (n : Nat) (f : Nat → Nat) (t : Bool) (m : Nat) (g : Nat → Nat) : Bool :=
  !(decide (256 < n) || decide (256 < m)) && (okW s n f && (okW t m g && (!t && (!decide (m = 0) && (Nat.gcd (vs b16 f n) (vs b16 g m) == 1)))))
/-- The four cells of a fraction: two slices that read as limbs. -/
def FRd (w : World) (A : Option Addr) (n : Nat) (f : Nat → Nat) (B : Option Addr) (m : Nat) (g : Nat → Nat) : Prop :=
  Rd w.heap.size .u16 w A n f ∧ Rd w.heap.size .u16 w B m g ∧ (∀ j, j < n → f j < 65536) ∧ (∀ j, j < m → g j < 65536)
theorem FRd.below {w w' : World} {A B : Option Addr} {n m : Nat} {f g : Nat → Nat} (h : FRd w A n f B m g) (hb : Below w.heap.size w w') : FRd w' A n f B m g :=
  ⟨(h.1.below hb).more hb.size, (h.2.1.below hb).more hb.size, h.2.2.1, h.2.2.2⟩
theorem FV.rd {w : World} {q : Rat} {s t : Bool} {A B : Option Addr} {n m : Nat} (h : FV w q s A n t B m) : FRd w A n (dgt b16 q.num.natAbs) B m (dgt b16 q.den) := by
  obtain ⟨⟨-, h1, h2⟩, ⟨-, h3, h4⟩⟩ := h
  unfold Num16 at h2 h4
  rw [← h1] at h2
  rw [← h3] at h4
  rw [Int.natAbs_natCast] at h4
  exact ⟨h2, h4, fun j _ => dgt16_lt _ j, fun j _ => dgt16_lt _ j⟩
theorem okF_of {w : World} {q : Rat} {s t : Bool} {A B : Option Addr} {n m : Nat} (h : FV w q s A n t B m) (hq : fl q ≤ 256) : okF s n (dgt b16 q.num.natAbs) t m (dgt b16 q.den) = true := by
  obtain ⟨l1, l2⟩ := fl_le.1 hq
  obtain ⟨⟨h0, h1, h2⟩, ⟨h5, h3, h4⟩⟩ := h
  rw [Int.natAbs_natCast] at h3
  have e1 := okW_num (z := q.num) (by omega)
  have e2 := okW_num (z := ((q.den : Nat) : Int)) (by rw [Int.natAbs_natCast]; omega)
  rw [Int.natAbs_natCast] at e2
  have hd := den_pos q
  have hm : 0 < m := by rw [h3]; exact (ln_pos b16_two).2 hd
  unfold okF
  rw [decide_eq_false (show ¬ 256 < n by omega), decide_eq_false (show ¬ 256 < m by omega), decide_eq_false (show ¬ m = 0 by omega), h0, h5, h1, h3, e1, e2, vs_dgt_ln b16_two, vs_dgt_ln b16_two, beq_iff_eq.2 (show Nat.gcd q.num.natAbs q.den = 1 from q.reduced)]
  rw [decide_eq_false (show ¬ ((q.den : Nat) : Int) < 0 by omega)]
  rfl
theorem okW_wv {w : World} {s : Bool} {A : Option Addr} {n : Nat} {f : Nat → Nat} (hr : Rd w.heap.size .u16 w A n f) (hf : ∀ j, j < n → f j < 65536) (h : okW s n f = true) : WV w (toI s (vs b16 f n)) s A n := by
  have hln : ln b16 (vs b16 f n) = n := by
    unfold okW at h
    by_cases h0 : n = 0
    · subst h0; rw [vs_zero, ln_zero]
    · rw [if_neg h0, Bool.and_eq_true] at h
      exact ln_vs b16_two hf (.inr (by simpa using h.2))
  refine ⟨?_, by rw [toI_abs, hln], ?_⟩
  · rw [toI_neg]
    unfold okW at h
    by_cases h0 : n = 0
    · subst h0
      rw [if_pos rfl] at h
      rw [vs_zero]
      revert h; cases s <;> simp
    · have : 0 < vs b16 f n := (ln_pos b16_two).1 (by omega)
      rw [decide_eq_true this, Bool.and_true]
  · rw [toI_abs]
    exact Num16.of_rd hr hf
set_option maxRecDepth 100000 in
theorem flong_any (s t : Bool) (A B : Option Addr) (n m c d : Nat) (w : World) :
    Calls Tryz.prog 102 #[.agg #[.bool s, .slice A n c, .bool t, .slice B m d]] w fun e w' => e = .returned (.bool (decide (256 < n) || decide (256 < m))) ∧ Below w.heap.size w w' := by
  have hbl : Below w.heap.size w (w.alloc (.cells #[.bool s, .slice A n c, .bool t, .slice B m d] 94)) := (Below.refl _ _).alloc (Nat.le_refl _) _
  by_cases h1 : 256 < n
  · have HE := Lib.hid (decide_eq_true h1)
    have t1 : decide ((256 : Int) < (n : Int)) = true := decide_eq_true (by omega)
    clear h1
    go_enter Tryz.func102, Tryz.ntmps102
    go_wp2_with fail
    go_ret
    exact ⟨ret_bool (by rw [HE.out]; rfl), hbl⟩
  · have HE := Lib.hid (decide_eq_false h1)
    have t1 : decide ((256 : Int) < (n : Int)) = false := decide_eq_false (by omega)
    clear h1
    by_cases h2 : 256 < m
    · have HE2 := Lib.hid (decide_eq_true h2)
      have t2 : decide ((256 : Int) < (m : Int)) = true := decide_eq_true (by omega)
      clear h2
      go_enter Tryz.func102, Tryz.ntmps102
      go_wp2_with fail
      go_ret
      exact ⟨ret_bool (by rw [HE.out, HE2.out]; rfl), hbl⟩
    · have HE2 := Lib.hid (decide_eq_false h2)
      have t2 : decide ((256 : Int) < (m : Int)) = false := decide_eq_false (by omega)
      clear h2
      go_enter Tryz.func102, Tryz.ntmps102
      go_wp2_with fail
      go_ret
      exact ⟨ret_bool (by rw [HE.out, HE2.out]; rfl), hbl⟩
set_option maxRecDepth 100000 in
theorem fintegral_v {s t : Bool} {A B : Option Addr} {n m c d : Nat} {z : Int} {w : World} (hB : WV w z t B m) (hm : m ≤ 1000000) :
    Calls Tryz.prog 104 #[.agg #[.bool s, .slice A n c, .bool t, .slice B m d]] w fun e w' => e = .returned (.bool (decide (z = 1))) ∧ Below w.heap.size w w' := by
  have hbl : Below w.heap.size w (w.alloc (.cells #[.bool s, .slice A n c, .bool t, .slice B m d] 94)) := (Below.refl _ _).alloc (Nat.le_refl _) _
  have HC := Lib.hid (isOne_v (c := d) (hB.below hbl) hm)
  clear hB
  go_enter Tryz.func104, Tryz.ntmps104
  go_wp2_with fail
  refine HC.out.mono ?_
  rintro e w1 ⟨rfl, hb⟩
  obtain ⟨y, hy⟩ : ∃ y, y = decide (z = 1) := ⟨_, rfl⟩
  rw [← hy]
  have HY := Lib.hid hy
  clear hy HC
  go_wp2_with fail
  go_ret
  exact ⟨ret_bool HY.out, hbl.trans (hb.mono hbl.size)⟩
theorem whole_valid_any (s : Bool) (A : Option Addr) (n c : Nat) (f : Nat → Nat) (w : World) (h : Rd w.heap.size .u16 w A n f) (hf : ∀ i, i < n → f i < 65536) (hn : n ≤ 1000000) (r : Bool) (hr : okW s n f = r) :
    Calls Tryz.prog 103 #[.agg #[.bool s, .slice A n c]] w fun e w' => e = .returned (.bool r) ∧ Below w.heap.size w w' := by
  subst hr
  exact valid_any s A n c f w h hf hn
theorem flong_r (s t : Bool) (A B : Option Addr) (n m c d : Nat) (w : World) (r : Bool) (hr : (decide (256 < n) || decide (256 < m)) = r) :
    Calls Tryz.prog 102 #[.agg #[.bool s, .slice A n c, .bool t, .slice B m d]] w fun e w' => e = .returned (.bool r) ∧ Below w.heap.size w w' := by
  subst hr
  exact flong_any s t A B n m c d w
theorem gcd_toI (s t : Bool) (x y : Nat) : Nat.gcd (toI s x).natAbs (toI t y).natAbs = Nat.gcd x y := by rw [toI_abs, toI_abs]
set_option linter.unusedSimpArgs false in
set_option maxRecDepth 100000 in
set_option maxHeartbeats 4000000 in
theorem ftvalid_any (s t : Bool) (A B : Option Addr) (n m c d : Nat) (f g : Nat → Nat) (w : World) (hr : FRd w A n f B m g) (hn : n ≤ 1000000) (hm : m ≤ 1000000) :
    Calls Tryz.prog 66 #[.agg #[.bool s, .slice A n c, .bool t, .slice B m d]] w fun e w' => e = .returned (.bool (okF s n f t m g)) ∧ Below w.heap.size w w' := by
  have hE := (Env.start w).blk 94 #[.bool s, .slice A n c, .bool t, .slice B m d] (g := w.heap.size) rfl
  obtain ⟨W0, hW0⟩ : ∃ W0, W0 = w.alloc (.cells #[.bool s, .slice A n c, .bool t, .slice B m d] 94) := ⟨_, rfl⟩
  rw [← hW0] at hE
  have HW0 := Lib.hid hW0
  clear hW0
  obtain ⟨r, hres⟩ : ∃ r, r = okF s n f t m g := ⟨_, rfl⟩
  rw [← hres]
  unfold okF at hres
  obtain ⟨L, hL⟩ : ∃ L, (decide (256 < n) || decide (256 < m)) = L := ⟨_, rfl⟩
  obtain ⟨v1, hv1⟩ : ∃ v1, okW s n f = v1 := ⟨_, rfl⟩
  obtain ⟨v2, hv2⟩ : ∃ v2, okW t m g = v2 := ⟨_, rfl⟩
  rw [hL, hv1, hv2] at hres
  have HL := Lib.hid hL
  have HV1 := Lib.hid hv1
  have HV2 := Lib.hid hv2
  clear hL hv1 hv2
  cases L with
  | true =>
    obtain rfl : r = false := by rw [hres]; rfl
    clear hres
    go_enter Tryz.func66, Tryz.ntmps66
    go_upto_region 1 with (fail)
    rw [← HW0.out]
    obtain ⟨k1, k2, k3, k4⟩ := hE.here.2.c4
    go_wp2_with fail
    refine (flong_r s t A B n m c d _ _ HL.out).mono ?_
    rintro e w1 ⟨rfl, hb⟩
    clear k1 k2 k3 k4
    go_wp2_with fail
    go_ret
    exact ⟨rfl, (hE.step hb).bel⟩
  | false =>
    have hlen : n ≤ 256 ∧ m ≤ 256 := by have := HL.out; simp only [Bool.or_eq_false_iff, decide_eq_false_iff_not] at this; omega
    cases v1 with
    | false =>
      obtain rfl : r = false := by rw [hres]; rfl
      clear hres
      go_enter Tryz.func66, Tryz.ntmps66
      go_upto_region 1 with (fail)
      rw [← HW0.out]
      obtain ⟨k1, k2, k3, k4⟩ := hE.here.2.c4
      go_wp2_with fail
      refine (flong_r s t A B n m c d _ _ HL.out).mono ?_
      rintro e w1 ⟨rfl, hb⟩
      clear k1 k2 k3 k4
      replace hE := hE.step hb
      clear hb
      obtain ⟨k1, k2, k3, k4⟩ := hE.here.2.c4
      go_wp2_with fail
      refine (whole_valid_any s A n c f _ (hr.below hE.bel).1 hr.2.2.1 hn _ HV1.out).mono ?_
      rintro e w2 ⟨rfl, hb⟩
      clear k1 k2 k3 k4
      go_wp2_with fail
      go_ret
      exact ⟨rfl, (hE.step hb).bel⟩
    | true =>
      cases v2 with
      | false =>
        obtain rfl : r = false := by rw [hres]; rfl
        clear hres
        go_enter Tryz.func66, Tryz.ntmps66
        go_upto_region 1 with (fail)
        rw [← HW0.out]
        obtain ⟨k1, k2, k3, k4⟩ := hE.here.2.c4
        go_wp2_with fail
        refine (flong_r s t A B n m c d _ _ HL.out).mono ?_
        rintro e w1 ⟨rfl, hb⟩
        clear k1 k2 k3 k4
        replace hE := hE.step hb
        clear hb
        obtain ⟨k1, k2, k3, k4⟩ := hE.here.2.c4
        go_wp2_with fail
        refine (whole_valid_any s A n c f _ (hr.below hE.bel).1 hr.2.2.1 hn _ HV1.out).mono ?_
        rintro e w2 ⟨rfl, hb⟩
        clear k1 k2 k3 k4
        replace hE := hE.step hb
        clear hb
        obtain ⟨k1, k2, k3, k4⟩ := hE.here.2.c4
        go_wp2_with fail
        refine (whole_valid_any t B m d g _ (hr.below hE.bel).2.1 hr.2.2.2 hm _ HV2.out).mono ?_
        rintro e w3 ⟨rfl, hb⟩
        clear k1 k2 k3 k4
        go_wp2_with fail
        go_ret
        exact ⟨rfl, (hE.step hb).bel⟩
      | true =>
        have w1 := okW_wv hr.1 hr.2.2.1 HV1.out
        have w2 := okW_wv hr.2.1 hr.2.2.2 HV2.out
        obtain ⟨x, hx⟩ : ∃ x, toI s (vs b16 f n) = x := ⟨_, rfl⟩
        obtain ⟨y, hy⟩ : ∃ y, toI t (vs b16 g m) = y := ⟨_, rfl⟩
        have hgc := gcd_toI s t (vs b16 f n) (vs b16 g m)
        rw [hx, hy] at hgc
        rw [hx] at w1
        rw [hy] at w2
        rw [← hgc] at hres
        have hyy : y = 1 → Nat.gcd x.natAbs y.natAbs = 1 := fun e => by rw [e]; exact Nat.gcd_one_right _
        clear hx hy hgc
        cases t with
        | true =>
          obtain rfl : r = false := by rw [hres]; rfl
          clear hres
          go_enter Tryz.func66, Tryz.ntmps66
          go_upto_region 1 with (fail)
          rw [← HW0.out]
          obtain ⟨k1, k2, k3, k4⟩ := hE.here.2.c4
          go_wp2_with fail
          refine (flong_r s _ A B n _ c d _ _ HL.out).mono ?_
          rintro e w1' ⟨rfl, hb⟩
          clear k1 k2 k3 k4
          replace hE := hE.step hb
          clear hb
          obtain ⟨k1, k2, k3, k4⟩ := hE.here.2.c4
          go_wp2_with fail
          refine (whole_valid_any s A n c f _ (hr.below hE.bel).1 hr.2.2.1 hn _ HV1.out).mono ?_
          rintro e w2' ⟨rfl, hb⟩
          clear k1 k2 k3 k4
          replace hE := hE.step hb
          clear hb
          obtain ⟨k1, k2, k3, k4⟩ := hE.here.2.c4
          go_wp2_with fail
          refine (whole_valid_any _ B _ d g _ (hr.below hE.bel).2.1 hr.2.2.2 hm _ HV2.out).mono ?_
          rintro e w3 ⟨rfl, hb⟩
          clear k1 k2 k3 k4
          replace hE := hE.step hb
          clear hb
          obtain ⟨k1, k2, k3, k4⟩ := hE.here.2.c4
          go_wp2_with fail
          go_ret
          exact ⟨rfl, hE.bel⟩
        | false =>
          by_cases hm0 : m = 0
          · obtain rfl : r = false := by rw [hres, decide_eq_true hm0]; rfl
            subst hm0
            clear hres
            go_enter Tryz.func66, Tryz.ntmps66
            go_upto_region 1 with (fail)
            rw [← HW0.out]
            obtain ⟨k1, k2, k3, k4⟩ := hE.here.2.c4
            go_wp2_with fail
            refine (flong_r s _ A B n _ c d _ _ HL.out).mono ?_
            rintro e w1' ⟨rfl, hb⟩
            clear k1 k2 k3 k4
            replace hE := hE.step hb
            clear hb
            obtain ⟨k1, k2, k3, k4⟩ := hE.here.2.c4
            go_wp2_with fail
            refine (whole_valid_any s A n c f _ (hr.below hE.bel).1 hr.2.2.1 hn _ HV1.out).mono ?_
            rintro e w2' ⟨rfl, hb⟩
            clear k1 k2 k3 k4
            replace hE := hE.step hb
            clear hb
            obtain ⟨k1, k2, k3, k4⟩ := hE.here.2.c4
            go_wp2_with fail
            refine (whole_valid_any _ B _ d g _ (hr.below hE.bel).2.1 hr.2.2.2 hm _ HV2.out).mono ?_
            rintro e w3 ⟨rfl, hb⟩
            clear k1 k2 k3 k4
            replace hE := hE.step hb
            clear hb
            obtain ⟨k1, k2, k3, k4⟩ := hE.here.2.c4
            go_wp2_with fail
            go_ret
            exact ⟨rfl, hE.bel⟩
          · have t1 : ((m : Int) == 0) = false := beq_eq_false_iff_ne.2 (by omega)
            have hres2 : r = (Nat.gcd x.natAbs y.natAbs == 1) := by rw [hres, decide_eq_false hm0]; rfl
            clear hres
            have HR := Lib.hid hres2
            clear hres2
            go_enter Tryz.func66, Tryz.ntmps66
            go_upto_region 1 with (fail)
            rw [← HW0.out]
            obtain ⟨k1, k2, k3, k4⟩ := hE.here.2.c4
            go_wp2_with fail
            refine (flong_r s _ A B n _ c d _ _ HL.out).mono ?_
            rintro e w1' ⟨rfl, hb⟩
            clear k1 k2 k3 k4
            replace hE := hE.step hb
            clear hb
            obtain ⟨k1, k2, k3, k4⟩ := hE.here.2.c4
            go_wp2_with fail
            refine (whole_valid_any s A n c f _ (hr.below hE.bel).1 hr.2.2.1 hn _ HV1.out).mono ?_
            rintro e w2' ⟨rfl, hb⟩
            clear k1 k2 k3 k4
            replace hE := hE.step hb
            clear hb
            obtain ⟨k1, k2, k3, k4⟩ := hE.here.2.c4
            go_wp2_with fail
            refine (whole_valid_any _ B _ d g _ (hr.below hE.bel).2.1 hr.2.2.2 hm _ HV2.out).mono ?_
            rintro e w3 ⟨rfl, hb⟩
            clear k1 k2 k3 k4
            replace hE := hE.step hb
            clear hb
            obtain ⟨k1, k2, k3, k4⟩ := hE.here.2.c4
            go_wp2_with fail
            refine (fintegral_v (w := w3) (w2.below hE.bel) hm).mono ?_
            clear k1 k2 k3 k4
            rintro e w4 ⟨rfl, hb⟩
            replace hE := hE.step hb
            clear hb t1
            by_cases hy1 : y = 1
            · have hg := hyy hy1
              rw [decide_eq_true hy1]
              have hr1 : r = true := by rw [HR.out, hg]; rfl
              clear hg hy1 hyy
              have HR1 := Lib.hid hr1
              clear hr1
              go_wp2_with fail
              go_ret
              exact ⟨ret_bool HR1.out.symm, hE.bel⟩
            · rw [decide_eq_false hy1]
              clear hyy hy1
              obtain ⟨k1, k2, k3, k4⟩ := hE.here.2.c4
              go_wp2_with fail
              refine (fdivisor_v (ca := c) (cb := d) (w1.below hE.bel) (w2.below hE.bel) (by omega) (by omega)).mono ?_
              clear k1 k2 k3 k4
              rintro e w5 ⟨sg, Ag, ng, cg, rfl, hg, hb⟩
              replace hE := hE.step hb
              clear hb
              have hgl : ng ≤ 1024 := by
                rw [hg.len, Int.natAbs_natCast]
                refine ln_gcd _ _ _ ?_ ?_
                · rw [← w1.len]; omega
                · rw [← w2.len]; omega
              go_wp2_with fail
              refine (isOne_v (c := cg) hg (by omega)).mono ?_
              rintro e w6 ⟨rfl, hb⟩
              have hq : decide (((Nat.gcd x.natAbs y.natAbs : Nat) : Int) = 1) = r := by rw [HR.out, Bool.eq_iff_iff, decide_eq_true_iff, beq_iff_eq]; omega
              rw [hq]
              clear hq
              go_wp2_with fail
              go_ret
              exact ⟨rfl, (hE.step hb).bel⟩
end Go.Proofs.YtmjlankpihnicaaGreat
namespace Go.Proofs.YtmjlankpihnicaaGreat
open Go.RowKit

theorem ftvalid_r (s t : Bool) (A B : Option Addr) (n m c d : Nat) (f g : Nat → Nat) (w : World) (hr : FRd w A n f B m g) (hn : n ≤ 1000000) (hm : m ≤ 1000000) (r : Bool) (h : okF s n f t m g = r) :
    Calls Tryz.prog 66 #[.agg #[.bool s, .slice A n c, .bool t, .slice B m d]] w fun e w' => e = .returned (.bool r) ∧ Below w.heap.size w w' := by
  subst h
  exact ftvalid_any s t A B n m c d f g w hr hn hm
set_option maxRecDepth 100000 in
theorem fvalid_r (s t : Bool) (A B : Option Addr) (n m c d : Nat) (f g : Nat → Nat) (w : World) (hr : FRd w A n f B m g) (hn : n ≤ 1000000) (hm : m ≤ 1000000) (r : Bool) (h : okF s n f t m g = r) :
    Calls Tryz.prog 30 #[.agg #[.bool s, .slice A n c, .bool t, .slice B m d]] w fun e w' => e = .returned (.bool r) ∧ Below w.heap.size w w' := by
  have hbl : Below w.heap.size w (w.alloc (.cells #[.bool s, .slice A n c, .bool t, .slice B m d] 29)) := (Below.refl _ _).alloc (Nat.le_refl _) _
  have HC := Lib.hid (ftvalid_r s t A B n m c d f g _ (hr.below hbl) hn hm r h)
  clear h hr
  go_enter Tryz.func30, Tryz.ntmps30
  go_wp2_with fail
  refine HC.out.mono ?_
  rintro e w1 ⟨rfl, hb⟩
  clear HC
  go_wp2_with fail
  go_ret
  exact ⟨rfl, hbl.trans (hb.mono hbl.size)⟩
set_option maxRecDepth 100000 in
theorem fvalid1_r (s t : Bool) (A B : Option Addr) (n m c d : Nat) (f g : Nat → Nat) (w : World) (hr : FRd w A n f B m g) (hn : n ≤ 1000000) (hm : m ≤ 1000000) (r : Bool) (h : okF s n f t m g = r) :
    Calls Tryz.prog 115 #[.agg #[.bool s, .slice A n c, .bool t, .slice B m d]] w fun e w' => e = .returned (.bool (!r)) ∧ Below w.heap.size w w' := by
  have hbl : Below w.heap.size w (w.alloc (.cells #[.bool s, .slice A n c, .bool t, .slice B m d] 29)) := (Below.refl _ _).alloc (Nat.le_refl _) _
  have HC := Lib.hid (fvalid_r s t A B n m c d f g _ (hr.below hbl) hn hm r h)
  clear h hr
  go_enter Tryz.func115, Tryz.ntmps115
  go_wp2_with fail
  refine HC.out.mono ?_
  rintro e w1 ⟨rfl, hb⟩
  clear HC
  go_wp2_with fail
  go_ret
  exact ⟨rfl, hbl.trans (hb.mono hbl.size)⟩
theorem Blk.c8 {t : TypeId} {g : Nat} {w : World} {a b c d e f x y : Value} (h : Blk t g #[a, b, c, d, e, f, x, y] w) :
    (w.cell? ⟨g, 0, none⟩ = some a ∧ w.cell? ⟨g, 1, none⟩ = some b ∧ w.cell? ⟨g, 2, none⟩ = some c ∧ w.cell? ⟨g, 3, none⟩ = some d) ∧ w.cell? ⟨g, 4, none⟩ = some e ∧ w.cell? ⟨g, 5, none⟩ = some f ∧ w.cell? ⟨g, 6, none⟩ = some x ∧ w.cell? ⟨g, 7, none⟩ = some y :=
  ⟨⟨h.cell 0, h.cell 1, h.cell 2, h.cell 3⟩, h.cell 4, h.cell 5, h.cell 6, h.cell 7⟩
/-- Which of two fractions is the first invalid one. -/
def firstBad (r1 r2 : Bool) : Int := if r1 then (if r2 then -1 else 1) else 0
set_option linter.unusedSimpArgs false in
set_option maxRecDepth 100000 in
set_option maxHeartbeats 2000000 in
theorem findex_two (S : Nat) (s t s2 t2 : Bool) (A B A2 B2 : Option Addr) (n m c d n2 m2 c2 d2 : Nat) (f g f2 g2 : Nat → Nat) (w : World) (hS : Blk 29 S #[.bool s, .slice A n c, .bool t, .slice B m d, .bool s2, .slice A2 n2 c2, .bool t2, .slice B2 m2 d2] w)
    (hr : FRd w A n f B m g) (hr2 : FRd w A2 n2 f2 B2 m2 g2) (hn : n ≤ 1000000) (hm : m ≤ 1000000) (hn2 : n2 ≤ 1000000) (hm2 : m2 ≤ 1000000) (r1 r2 : Bool) (h1 : okF s n f t m g = r1) (h2 : okF s2 n2 f2 t2 m2 g2 = r2) :
    Calls Tryz.prog 144 #[.slice (some ⟨S, 0, none⟩) 2 2, .func (.func 115) #[] #[]] w fun e w' => e = .returned (.int .i64 (firstBad r1 r2)) ∧ Below w.heap.size w w' := by
  have hE := (Env.start w).blkI hS
  have H1 := Lib.hid h1
  have H2 := Lib.hid h2
  clear h1 h2
  go_enter Tryz.func144, Tryz.ntmps144
  go_wp2_with fail
  go_loopw [8] (fun i wr => ∃ k : Nat, k ≤ 2 ∧ i = .int .i64 (k : Int) ∧ Hid ((0 < k → r1 = true) ∧ (1 < k → r2 = true)) ∧ Env w (fun V => True ∧ Blk 29 S #[.bool s, .slice A n c, .bool t, .slice B m d, .bool s2, .slice A2 n2 c2, .bool t2, .slice B2 m2 d2] V) wr) (fun i _ => 2 - (intOf i).toNat)
  case atStart => exact ⟨0, by omega, rfl, Lib.hid ⟨fun h => absurd h (by omega), fun h => absurd h (by omega)⟩, hE⟩
  case round =>
    obtain ⟨k, hk, rfl, HK, hE⟩ := hrel
    rcases (show k = 0 ∨ k = 1 ∨ k = 2 by omega) with rfl | rfl | rfl
    · obtain ⟨⟨k1, k2, k3, k4⟩, -⟩ := hE.here.2.c8
      cases r1 with
      | true =>
        go_wp2_with fail
        refine (fvalid1_r s t A B n m c d f g _ (hr.below hE.bel) hn hm _ H1.out).mono ?_
        rintro e w1 ⟨rfl, hb⟩
        clear k1 k2 k3 k4
        go_wp2_with fail
        go_roundw
        case rel => exact ⟨1, by omega, rfl, Lib.hid ⟨fun _ => (by first | rfl | trivial), fun h => absurd h (by omega)⟩, hE.step hb⟩
        case measure => simp [intOf]
      | false =>
        go_wp2_with fail
        refine (fvalid1_r s t A B n m c d f g _ (hr.below hE.bel) hn hm _ H1.out).mono ?_
        rintro e w1 ⟨rfl, hb⟩
        clear k1 k2 k3 k4
        go_wp2_with fail
        go_ret
        exact ⟨rfl, (hE.step hb).bel⟩
    · obtain ⟨-, k1, k2, k3, k4⟩ := hE.here.2.c8
      have hr1 := HK.out.1 (by omega)
      cases r2 with
      | true =>
        go_wp2_with fail
        refine (fvalid1_r s2 t2 A2 B2 n2 m2 c2 d2 f2 g2 _ (hr2.below hE.bel) hn2 hm2 _ H2.out).mono ?_
        rintro e w1 ⟨rfl, hb⟩
        clear k1 k2 k3 k4
        go_wp2_with fail
        go_roundw
        case rel => exact ⟨2, by omega, rfl, Lib.hid ⟨fun _ => hr1, fun _ => (by first | rfl | trivial)⟩, hE.step hb⟩
        case measure => simp [intOf]
      | false =>
        go_wp2_with fail
        refine (fvalid1_r s2 t2 A2 B2 n2 m2 c2 d2 f2 g2 _ (hr2.below hE.bel) hn2 hm2 _ H2.out).mono ?_
        rintro e w1 ⟨rfl, hb⟩
        clear k1 k2 k3 k4
        go_wp2_with fail
        go_ret
        exact ⟨by rw [hr1]; rfl, (hE.step hb).bel⟩
    · have hr1 := HK.out.1 (by omega)
      have hr2' := HK.out.2 (by omega)
      have HR := Lib.hid hr1
      have HR2 := Lib.hid hr2'
      clear hr1 hr2'
      go_wp2_with fail
      go_ret
      exact ⟨by rw [HR.out, HR2.out]; rfl, hE.bel⟩
theorem firstBad_ge (r1 r2 : Bool) : decide ((0 : Int) ≤ firstBad r1 r2) = !(r1 && r2) := by cases r1 <;> cases r2 <;> rfl
section
variable (S : Nat) (s t s2 t2 : Bool) (A B A2 B2 : Option Addr) (n m c d n2 m2 c2 d2 : Nat) (f g f2 g2 : Nat → Nat) (w : World) (hS : Blk 29 S #[.bool s, .slice A n c, .bool t, .slice B m d, .bool s2, .slice A2 n2 c2, .bool t2, .slice B2 m2 d2] w)
    (hr : FRd w A n f B m g) (hr2 : FRd w A2 n2 f2 B2 m2 g2) (hn : n ≤ 1000000) (hm : m ≤ 1000000) (hn2 : n2 ≤ 1000000) (hm2 : m2 ≤ 1000000) (r1 r2 : Bool) (h1 : okF s n f t m g = r1) (h2 : okF s2 n2 f2 t2 m2 g2 = r2)
include hS hr hr2 hn hm hn2 hm2 h1 h2
set_option maxRecDepth 100000 in
theorem fcontains_two :
    Calls Tryz.prog 114 #[.slice (some ⟨S, 0, none⟩) 2 2, .func (.func 115) #[] #[]] w fun e w' => e = .returned (.bool (!(r1 && r2))) ∧ Below w.heap.size w w' := by
  have HC := Lib.hid (findex_two S s t s2 t2 A B A2 B2 n m c d n2 m2 c2 d2 f g f2 g2 w hS hr hr2 hn hm hn2 hm2 r1 r2 h1 h2)
  have hf := firstBad_ge r1 r2
  obtain ⟨v, hv⟩ : ∃ v, v = firstBad r1 r2 := ⟨_, rfl⟩
  rw [← hv] at hf HC
  have HF := Lib.hid hf
  clear hf hv h1 h2
  go_enter Tryz.func114, Tryz.ntmps114
  go_wp2_with fail
  refine HC.out.mono ?_
  rintro e w1 ⟨rfl, hb⟩
  clear HC
  go_wp2_with fail
  go_ret
  exact ⟨ret_bool HF.out, hb⟩
set_option maxRecDepth 100000 in
theorem fallValid_two :
    Calls Tryz.prog 73 #[.slice (some ⟨S, 0, none⟩) 2 2] w fun e w' => e = .returned (.bool (r1 && r2)) ∧ Below w.heap.size w w' := by
  have HC := Lib.hid (fcontains_two S s t s2 t2 A B A2 B2 n m c d n2 m2 c2 d2 f g f2 g2 w hS hr hr2 hn hm hn2 hm2 r1 r2 h1 h2)
  clear h1 h2
  obtain ⟨v, hv⟩ : ∃ v, v = (r1 && r2) := ⟨_, rfl⟩
  rw [← hv] at HC
  have HV := Lib.hid hv
  clear hv
  go_enter Tryz.func73, Tryz.ntmps73
  go_wp2_with fail
  refine HC.out.mono ?_
  rintro e w1 ⟨rfl, hb⟩
  clear HC
  go_wp2_with fail
  go_ret
  exact ⟨ret_bool HV.out, hb⟩
end
/-- Two valid fractions in the slice that was just made. -/
theorem fallValid_v {p q : Rat} {s t s2 t2 : Bool} {A B A2 B2 : Option Addr} {n m c d n2 m2 c2 d2 : Nat} {W : World} (h1 : FV W p s A n t B m) (h2 : FV W q s2 A2 n2 t2 B2 m2) (l1 : fl p ≤ 256) (l2 : fl q ≤ 256) :
    Calls Tryz.prog 73 #[.slice (some ⟨W.heap.size, 0, none⟩) 2 2] (W.alloc (.cells #[.bool s, .slice A n c, .bool t, .slice B m d, .bool s2, .slice A2 n2 c2, .bool t2, .slice B2 m2 d2] 29)) fun e w' => e = .returned (.bool true) ∧ Below W.heap.size W w' := by
  have hb := (Below.refl W.heap.size W).alloc (Nat.le_refl _) (.cells #[.bool s, .slice A n c, .bool t, .slice B m d, .bool s2, .slice A2 n2 c2, .bool t2, .slice B2 m2 d2] 29)
  have e1 := h1.ln l1
  have e2 := h2.ln l2
  have h := fallValid_two W.heap.size s t s2 t2 A B A2 B2 n m c d n2 m2 c2 d2 _ _ _ _ _ (Blk.new W _ _) (h1.below hb).rd (h2.below hb).rd (by omega) (by omega) (by omega) (by omega) true true (okF_of h1 l1) (okF_of h2 l2)
  exact h.mono fun e w' ⟨he, hb'⟩ => ⟨he, hb.trans (hb'.mono hb.size)⟩
end Go.Proofs.YtmjlankpihnicaaGreat
namespace Go.Proofs.YtmjlankpihnicaaGreat
open Go.RowKit

/-- The call returned the fraction q and no error. -/
def FOK (q : Rat) (w : World) (e : Ending) (w' : World) : Prop := ∃ s A n c t B m d, e = .returned (.tuple #[.agg #[.bool s, .slice A n c, .bool t, .slice B m d], .int .i64 0]) ∧ FV w' q s A n t B m ∧ Below w.heap.size w w'
theorem long_of {w : World} {q : Rat} {s t : Bool} {A B : Option Addr} {n m : Nat} (h : FV w q s A n t B m) (r : Bool) (hq : decide (256 < fl q) = r) : (decide (256 < n) || decide (256 < m)) = r := by
  have h1 := h.1.len
  have h3 := h.2.len
  rw [Int.natAbs_natCast] at h3
  rw [← hq, Bool.eq_iff_iff, Bool.or_eq_true, decide_eq_true_iff, decide_eq_true_iff, decide_eq_true_iff]
  unfold fl
  omega
set_option linter.unusedSimpArgs false in
set_option maxRecDepth 100000 in
set_option maxHeartbeats 2000000 in
theorem fresult_ok {q : Rat} {s t : Bool} {A B : Option Addr} {n m c d : Nat} {w : World} (ha : FV w q s A n t B m) (hf : fl q ≤ 256) :
    Calls Tryz.prog 98 #[.agg #[.bool s, .slice A n c, .bool t, .slice B m d]] w (FOK q w) := by
  have hq := long_of ha false (decide_eq_false (by omega))
  have hE := ((Env.start w).fv ha).blk 94 #[.bool s, .slice A n c, .bool t, .slice B m d] (g := w.heap.size) rfl
  have hE := hE.blk 29 #[.bool false, .slice none 0 0, .bool false, .slice none 0 0] (g := w.heap.size + 1) (by simp)
  obtain ⟨W0, hW0⟩ : ∃ W0, W0 = ((w.alloc (.cells #[.bool s, .slice A n c, .bool t, .slice B m d] 94)).alloc (.cells #[.bool false, .slice none 0 0, .bool false, .slice none 0 0] 29)) := ⟨_, rfl⟩
  rw [← hW0] at hE
  have HW0 := Lib.hid hW0
  clear hW0
  go_enter Tryz.func98, Tryz.ntmps98
  go_upto_region 1 with (fail)
  rw [← HW0.out]
  obtain ⟨k1, k2, k3, k4⟩ := (hE.here.1.2).c4
  go_wp2_with fail
  have hc := flong_r s t A B n m c d W0 false hq
  refine hc.mono ?_
  clear hc
  clear k1 k2 k3 k4
  rintro e w5 ⟨rfl, hb⟩
  replace hE := hE.step hb
  clear hb
  obtain ⟨k6, k7, k8, k9⟩ := (hE.here.1.2).c4
  have hRl : w.heap.size ≤ w.heap.size + 1 := by omega
  obtain ⟨WW, hWW, hB, hV, hBel⟩ := ret_frac hE hE.here.2 hRl hE.here.1.1.2 c d
  obtain ⟨x0, x1, x2, x3⟩ := (hE.here.2).c4
  obtain ⟨fz0, fz1, fz2, fz3⟩ := hE.here.2.f4
  have HWW := Lib.hid hWW
  clear hWW
  go_wp2_with fail
  clear k6 k7 k8 k9
  rw [← HWW.out]
  obtain ⟨y0, y1, y2, y3⟩ := hB.c4
  refine bodyPost_ret (v := .tuple #[.agg #[.bool s, .slice A n c, .bool t, .slice B m d], .int .i64 0]) (by simp [results, Tryz.results98, go_sem, y0, y1, y2, y3]) rfl ?_
  exact ⟨s, A, n, c, t, B, m, d, rfl, hV, hBel⟩
theorem fromInt_v (z : Int) (w : World) (h1 : -9223372036854775808 ≤ z) (h2 : z ≤ 9223372036854775807) : Calls Tryz.prog 54 #[.int .i64 z] w (WR z w) :=
  (fromInt_any z w h1 h2).mono fun _ _ h => by obtain ⟨s, A, n, c, he, ho, hb⟩ := h.vi; exact ⟨s, A, n, c, he, ho.v, hb⟩
set_option linter.unusedSimpArgs false in
set_option maxRecDepth 100000 in
set_option maxHeartbeats 2000000 in
theorem ffromInt_v (z : Int) (w : World) (h1 : -9223372036854775808 ≤ z) (h2 : z ≤ 9223372036854775807) :
    Calls Tryz.prog 19 #[.int .i64 z] w (FR (z : Rat) w) := by
  have hE := Env.start w
  have hE := hE.blk 29 #[.bool false, .slice none 0 0, .bool false, .slice none 0 0] (g := w.heap.size) rfl
  obtain ⟨W0, hW0⟩ : ∃ W0, W0 = (w.alloc (.cells #[.bool false, .slice none 0 0, .bool false, .slice none 0 0] 29)) := ⟨_, rfl⟩
  rw [← hW0] at hE
  have HW0 := Lib.hid hW0
  clear hW0
  go_enter Tryz.func19, Tryz.ntmps19
  go_upto_region 1 with (fail)
  rw [← HW0.out]
  go_wp2_with fail
  have hc := fromInt_v z W0 h1 h2
  refine hc.mono ?_
  clear hc
  rintro e w1 ⟨sn, An, nn, cn, rfl, hn, hb⟩
  replace hE := hE.step hb
  clear hb
  replace hE := hE.wv hn
  clear hn
  go_wp2_with fail
  have hc := fromInt_v 1 w1 (by decide) (by decide)
  refine hc.mono ?_
  clear hc
  rintro e w2 ⟨sd, Ad, nd, cd, rfl, hd, hb⟩
  replace hE := hE.step hb
  clear hb
  replace hE := hE.wv hd
  clear hd
  have hfv : FV w2 (z : Rat) sn An nn sd Ad nd := ⟨hE.here.1.2, hE.here.2⟩
  replace hE := hE.fv hfv
  clear hfv
  have hRl : w.heap.size ≤ w.heap.size := by omega
  obtain ⟨WW, hWW, hB, hV, hBel⟩ := ret_frac hE hE.here.1.1.1.2 hRl hE.here.2 cn cd
  obtain ⟨x0, x1, x2, x3⟩ := (hE.here.1.1.1.2).c4
  obtain ⟨fz0, fz1, fz2, fz3⟩ := hE.here.1.1.1.2.f4
  have HWW := Lib.hid hWW
  clear hWW
  go_wp2_with fail
  rw [← HWW.out]
  obtain ⟨y0, y1, y2, y3⟩ := hB.c4
  refine bodyPost_ret (v := .agg #[.bool sn, .slice An nn cn, .bool sd, .slice Ad nd cd]) (by simp [results, Tryz.results19, go_sem, y0, y1, y2, y3]) rfl ?_
  exact ⟨sn, An, nn, cn, sd, Ad, nd, cd, rfl, hV, hBel⟩
theorem den_ne (a b : Rat) : (a.den : Int) * (b.den : Int) ≠ 0 := by
  have h1 := den_pos a
  have h2 := den_pos b
  have := Int.mul_pos (show (0 : Int) < a.den by omega) (show (0 : Int) < b.den by omega)
  omega
set_option linter.unusedSimpArgs false in
set_option maxRecDepth 100000 in
set_option maxHeartbeats 2000000 in
theorem fadd_v {a b : Rat} {sa ta sb tb : Bool} {Aa Ba Ab Bb : Option Addr} {na ca ma da nb cb mb db : Nat} {w : World} (ha : FV w a sa Aa na ta Ba ma) (hb : FV w b sb Ab nb tb Bb mb) (la : fl a ≤ 256) (lb : fl b ≤ 256) (lr : fl (a + b) ≤ 256) :
    Calls Tryz.prog 58 #[.agg #[.bool sa, .slice Aa na ca, .bool ta, .slice Ba ma da], .agg #[.bool sb, .slice Ab nb cb, .bool tb, .slice Bb mb db]] w (FOK (a + b) w) := by
  have hE := ((((Env.start w).fv ha).fv hb).blk 29 #[.bool sa, .slice Aa na ca, .bool ta, .slice Ba ma da] (g := w.heap.size) rfl).blk 29 #[.bool sb, .slice Ab nb cb, .bool tb, .slice Bb mb db] (g := w.heap.size + 1) (by simp)
  have hE := hE.blk 29 #[.bool false, .slice none 0 0, .bool false, .slice none 0 0] (g := w.heap.size + 1 + 1) (by simp)
  obtain ⟨W0, hW0⟩ : ∃ W0, W0 = (((w.alloc (.cells #[.bool sa, .slice Aa na ca, .bool ta, .slice Ba ma da] 29)).alloc (.cells #[.bool sb, .slice Ab nb cb, .bool tb, .slice Bb mb db] 29)).alloc (.cells #[.bool false, .slice none 0 0, .bool false, .slice none 0 0] 29)) := ⟨_, rfl⟩
  rw [← hW0] at hE
  have HW0 := Lib.hid hW0
  clear hW0
  go_enter Tryz.func58, Tryz.ntmps58
  go_upto_region 1 with (fail)
  rw [← HW0.out]
  obtain ⟨k1, k2, k3, k4⟩ := (hE.here.1.1.2).c4
  obtain ⟨k5, k6, k7, k8⟩ := (hE.here.1.2).c4
  go_wp2_with fail
  have hc := fallValid_v (c := ca) (d := da) (c2 := cb) (d2 := db) hE.here.1.1.1.1.2 hE.here.1.1.1.2 la lb
  refine hc.mono ?_
  clear hc
  clear k1 k2 k3 k4 k5 k6 k7 k8
  rintro e w9 ⟨rfl, hb⟩
  replace hE := hE.step hb
  clear hb
  go_upto_region 3 with (fail)
  obtain ⟨qa1, qa2⟩ := fl_le.1 la
  obtain ⟨qb1, qb2⟩ := fl_le.1 lb
  obtain ⟨ha1, ha2⟩ := (hE.here.1.1.1.1.2).ln la
  obtain ⟨hb1, hb2⟩ := (hE.here.1.1.1.2).ln lb
  have qa2 : ln b16 ((a.den : Nat) : Int).natAbs ≤ 256 := by rw [Int.natAbs_natCast]; exact qa2
  have qb2 : ln b16 ((b.den : Nat) : Int).natAbs ≤ 256 := by rw [Int.natAbs_natCast]; exact qb2
  replace hE := hE.drew
  refine wp_region_held_drew (S := fun w' => w'.cell? ⟨w.heap.size, 0, none⟩ = some (.bool sa) ∧ w'.cell? ⟨w.heap.size, 1, none⟩ = some (.slice Aa na ca) ∧ w'.cell? ⟨w.heap.size, 2, none⟩ = some (.bool ta) ∧ w'.cell? ⟨w.heap.size, 3, none⟩ = some (.slice Ba ma da) ∧ w'.cell? ⟨w.heap.size + 1, 0, none⟩ = some (.bool sb) ∧ w'.cell? ⟨w.heap.size + 1, 1, none⟩ = some (.slice Ab nb cb) ∧ w'.cell? ⟨w.heap.size + 1, 2, none⟩ = some (.bool tb) ∧ w'.cell? ⟨w.heap.size + 1, 3, none⟩ = some (.slice Bb mb db)) (by kernel_rfl) (hE.here.1.1.2.j4 hE.here.1.2.c4) (fun hHeld => ?_)
  refine tk 0 ?_
  try simp only [PL]
  refine tk 1 ?_
  try simp only [PL]
  refine tk 2 ?_
  try simp only [PL]
  refine tk 3 ?_
  try simp only [PL]
  refine tk 5 ?_
  try simp only [PL]
  refine tk 6 ?_
  try simp only [PL]
  refine tk 7 ?_
  try simp only [PL]
  refine tk 8 ?_
  try simp only [PL]
  refine tk 11 ?_
  try simp only [PL]
  refine tk 12 ?_
  try simp only [PL]
  refine tk 13 ?_
  try simp only [PL]
  refine tk 14 ?_
  try simp only [PL]
  refine r1 4 (fun K hK => ?_)
  go_simp
  have hc := ftimes_v (ca := ca) (cb := db) (hE.here.1.1.1.1.2).1 (hE.here.1.1.1.2).2 (Nat.le_trans ha1 (by decide)) (Nat.le_trans hb2 (by decide)) (Nat.le_trans (ln_mulZ (m := 256) (n := 256) qa1 qb2) (by decide))
  refine hc.mono ?_
  clear hc
  rintro e w10 ⟨sx, Ax, nx, cx, rfl, hx, hb⟩
  replace hE := hE.step hb
  clear hb
  replace hE := hE.wv hx
  clear hx
  have lx : nx ≤ 512 := by rw [(hE.here.2).len]; exact (ln_mulZ (m := 256) (n := 256) qa1 qb2)
  go_wp2_with fail
  refine hK.out _ _ (hE.here.1.1.1.2.j4 hE.here.1.1.2.c4) (fun hHeld => ?_)
  clear hK K
  try simp only [PL]
  refine r1 9 (fun K hK => ?_)
  go_simp
  have hc := ftimes_v (ca := cb) (cb := da) (hE.here.1.1.1.1.2).1 (hE.here.1.1.1.1.1.2).2 (Nat.le_trans hb1 (by decide)) (Nat.le_trans ha2 (by decide)) (Nat.le_trans (ln_mulZ (m := 256) (n := 256) qb1 qa2) (by decide))
  refine hc.mono ?_
  clear hc
  rintro e w11 ⟨sy, Ay, ny, cy, rfl, hy, hb⟩
  replace hE := hE.step hb
  clear hb
  replace hE := hE.wv hy
  clear hy
  have ly : ny ≤ 512 := by rw [(hE.here.2).len]; exact (ln_mulZ (m := 256) (n := 256) qb1 qa2)
  go_wp2_with fail
  refine hK.out _ _ (hE.here.1.1.1.1.2.j4 hE.here.1.1.1.2.c4) (fun hHeld => ?_)
  clear hK K
  try simp only [PL]
  refine r1 10 (fun K hK => ?_)
  go_simp
  have hc := fplus_v (ca := cx) (cb := cy) hE.here.1.2 hE.here.2 (Nat.le_trans lx (by decide)) (Nat.le_trans ly (by decide)) (Nat.le_trans (ln_addZ (m := 512) (by rw [← (hE.here.1.2).len]; exact lx) (by rw [← (hE.here.2).len]; exact ly)) (by decide))
  refine hc.mono ?_
  clear hc
  rintro e w12 ⟨sz, Az, nz, cz, rfl, hz, hb⟩
  replace hE := hE.step hb
  clear hb
  replace hE := hE.wv hz
  clear hz
  have lz : nz ≤ 513 := by rw [(hE.here.2).len]; exact (ln_addZ (m := 512) (by rw [← (hE.here.1.1.2).len]; exact lx) (by rw [← (hE.here.1.2).len]; exact ly))
  go_wp2_with fail
  refine hK.out _ _ (hE.here.1.1.1.1.1.2.j4 hE.here.1.1.1.1.2.c4) (fun hHeld => ?_)
  clear hK K
  try simp only [PL]
  refine r1 15 (fun K hK => ?_)
  go_simp
  have hc := ftimes_v (ca := da) (cb := db) (hE.here.1.1.1.1.1.1.1.2).2 (hE.here.1.1.1.1.1.1.2).2 (Nat.le_trans ha2 (by decide)) (Nat.le_trans hb2 (by decide)) (Nat.le_trans (ln_mulZ (m := 256) (n := 256) qa2 qb2) (by decide))
  refine hc.mono ?_
  clear hc
  rintro e w13 ⟨su, Au, nu, cu, rfl, hu, hb⟩
  replace hE := hE.step hb
  clear hb
  replace hE := hE.wv hu
  clear hu
  have lu : nu ≤ 512 := by rw [(hE.here.2).len]; exact (ln_mulZ (m := 256) (n := 256) qa2 qb2)
  go_wp2_with fail
  refine hK.out _ _ (hE.here.1.1.1.1.1.1.2.j4 hE.here.1.1.1.1.1.2.c4) (fun hHeld => ?_)
  clear hK K
  try simp only [PL]
  refine r1 16 (fun K hK => ?_)
  go_simp
  have hc := flowest_v (ca := cz) (cb := cu) hE.here.1.2 hE.here.2 (Nat.le_trans lz (by decide)) (Nat.le_trans lu (by decide)) (den_ne a b)
  rw [add_low a b] at hc
  refine hc.mono ?_
  clear hc
  rintro e w14 ⟨sf, Af, nf, cf, tf, Bf, mf, df, rfl, hf, hb⟩
  replace hE := hE.step hb
  clear hb
  replace hE := hE.fv hf
  clear hf
  go_wp2_with fail
  refine hK.out _ _ (hE.here.1.1.1.1.1.1.1.2.j4 hE.here.1.1.1.1.1.1.2.c4) (fun hHeld => ?_)
  clear hK K
  try simp only [PL]
  refine r1 17 (fun K hK => ?_)
  go_simp
  have hc := fresult_ok (c := cf) (d := df) hE.here.2 lr
  refine hc.mono ?_
  clear hc
  rintro e w15 ⟨sr, Ar, nr, cr, tr, Br, mr, dr, rfl, hr, hb⟩
  replace hE := hE.step hb
  clear hb
  replace hE := hE.fv hr
  clear hr
  go_wp2_with fail
  refine hK.out _ _ (hE.here.1.1.1.1.1.1.1.1.2.j4 hE.here.1.1.1.1.1.1.1.2.c4) (fun hHeld => ?_)
  clear hK K
  try simp only [PL]
  refine tk 18 ?_
  try simp only [PL]
  refine tk 19 ?_
  try simp only [PL]
  refine r1 20 (fun K hK => ?_)
  have hRl : w.heap.size ≤ w.heap.size + 1 + 1 := by omega
  obtain ⟨WW, hWW, hB, hV, hBel⟩ := ret_frac hE hE.here.1.1.1.1.1.1.2 hRl hE.here.2 cr dr
  obtain ⟨x0, x1, x2, x3⟩ := (hE.here.1.1.1.1.1.1.2).c4
  obtain ⟨fz0, fz1, fz2, fz3⟩ := hE.here.1.1.1.1.1.1.2.f4
  have HWW := Lib.hid hWW
  clear hWW
  have q16 := (hE.here.1.1.1.1.1.1.1.1.2).far4 (R := w.heap.size + 1 + 1) (by omega) (.bool sr) (.slice Ar nr cr) (.bool tr) (.slice Br mr dr)
  rw [← HWW.out] at q16
  have q17 := (hE.here.1.1.1.1.1.1.1.2).far4 (R := w.heap.size + 1 + 1) (by omega) (.bool sr) (.slice Ar nr cr) (.bool tr) (.slice Br mr dr)
  rw [← HWW.out] at q17
  go_simp
  rw [← HWW.out]
  refine hK.out _ _ (q16.j4 q17.c4) (fun hHeld => ?_)
  clear hK K
  try simp only [PL]
  refine tk 21 ?_
  try simp only [PL]
  refine wpAnyH_done (by kernel_rfl) ?_ _
  go_wp2_with fail
  obtain ⟨y0, y1, y2, y3⟩ := hB.c4
  refine bodyPost_ret (v := .tuple #[.agg #[.bool sr, .slice Ar nr cr, .bool tr, .slice Br mr dr], .int .i64 0]) (by simp [results, Tryz.results58, go_sem, y0, y1, y2, y3]) rfl ?_
  exact ⟨sr, Ar, nr, cr, tr, Br, mr, dr, rfl, hV, hBel⟩
set_option linter.unusedSimpArgs false in
set_option maxRecDepth 100000 in
set_option maxHeartbeats 2000000 in
theorem fsub_v {a b : Rat} {sa ta sb tb : Bool} {Aa Ba Ab Bb : Option Addr} {na ca ma da nb cb mb db : Nat} {w : World} (ha : FV w a sa Aa na ta Ba ma) (hb : FV w b sb Ab nb tb Bb mb) (la : fl a ≤ 256) (lb : fl b ≤ 256) (lr : fl (a - b) ≤ 256) :
    Calls Tryz.prog 55 #[.agg #[.bool sa, .slice Aa na ca, .bool ta, .slice Ba ma da], .agg #[.bool sb, .slice Ab nb cb, .bool tb, .slice Bb mb db]] w (FOK (a - b) w) := by
  have hE := ((((Env.start w).fv ha).fv hb).blk 29 #[.bool sa, .slice Aa na ca, .bool ta, .slice Ba ma da] (g := w.heap.size) rfl).blk 29 #[.bool sb, .slice Ab nb cb, .bool tb, .slice Bb mb db] (g := w.heap.size + 1) (by simp)
  have hE := hE.blk 29 #[.bool false, .slice none 0 0, .bool false, .slice none 0 0] (g := w.heap.size + 1 + 1) (by simp)
  obtain ⟨W0, hW0⟩ : ∃ W0, W0 = (((w.alloc (.cells #[.bool sa, .slice Aa na ca, .bool ta, .slice Ba ma da] 29)).alloc (.cells #[.bool sb, .slice Ab nb cb, .bool tb, .slice Bb mb db] 29)).alloc (.cells #[.bool false, .slice none 0 0, .bool false, .slice none 0 0] 29)) := ⟨_, rfl⟩
  rw [← hW0] at hE
  have HW0 := Lib.hid hW0
  clear hW0
  go_enter Tryz.func55, Tryz.ntmps55
  go_upto_region 1 with (fail)
  rw [← HW0.out]
  obtain ⟨k1, k2, k3, k4⟩ := (hE.here.1.1.2).c4
  obtain ⟨k5, k6, k7, k8⟩ := (hE.here.1.2).c4
  go_wp2_with fail
  have hc := fallValid_v (c := ca) (d := da) (c2 := cb) (d2 := db) hE.here.1.1.1.1.2 hE.here.1.1.1.2 la lb
  refine hc.mono ?_
  clear hc
  clear k1 k2 k3 k4 k5 k6 k7 k8
  rintro e w9 ⟨rfl, hb⟩
  replace hE := hE.step hb
  clear hb
  go_upto_region 3 with (fail)
  obtain ⟨qa1, qa2⟩ := fl_le.1 la
  obtain ⟨qb1, qb2⟩ := fl_le.1 lb
  obtain ⟨ha1, ha2⟩ := (hE.here.1.1.1.1.2).ln la
  obtain ⟨hb1, hb2⟩ := (hE.here.1.1.1.2).ln lb
  have qa2 : ln b16 ((a.den : Nat) : Int).natAbs ≤ 256 := by rw [Int.natAbs_natCast]; exact qa2
  have qb2 : ln b16 ((b.den : Nat) : Int).natAbs ≤ 256 := by rw [Int.natAbs_natCast]; exact qb2
  replace hE := hE.drew
  refine wp_region_held_drew (S := fun w' => w'.cell? ⟨w.heap.size, 0, none⟩ = some (.bool sa) ∧ w'.cell? ⟨w.heap.size, 1, none⟩ = some (.slice Aa na ca) ∧ w'.cell? ⟨w.heap.size, 2, none⟩ = some (.bool ta) ∧ w'.cell? ⟨w.heap.size, 3, none⟩ = some (.slice Ba ma da) ∧ w'.cell? ⟨w.heap.size + 1, 0, none⟩ = some (.bool sb) ∧ w'.cell? ⟨w.heap.size + 1, 1, none⟩ = some (.slice Ab nb cb) ∧ w'.cell? ⟨w.heap.size + 1, 2, none⟩ = some (.bool tb) ∧ w'.cell? ⟨w.heap.size + 1, 3, none⟩ = some (.slice Bb mb db)) (by kernel_rfl) (hE.here.1.1.2.j4 hE.here.1.2.c4) (fun hHeld => ?_)
  refine tk 0 ?_
  try simp only [PL]
  refine tk 1 ?_
  try simp only [PL]
  refine tk 2 ?_
  try simp only [PL]
  refine tk 3 ?_
  try simp only [PL]
  refine tk 5 ?_
  try simp only [PL]
  refine tk 6 ?_
  try simp only [PL]
  refine tk 7 ?_
  try simp only [PL]
  refine tk 8 ?_
  try simp only [PL]
  refine tk 12 ?_
  try simp only [PL]
  refine tk 13 ?_
  try simp only [PL]
  refine tk 14 ?_
  try simp only [PL]
  refine tk 15 ?_
  try simp only [PL]
  refine r1 4 (fun K hK => ?_)
  go_simp
  have hc := ftimes_v (ca := ca) (cb := db) (hE.here.1.1.1.1.2).1 (hE.here.1.1.1.2).2 (Nat.le_trans ha1 (by decide)) (Nat.le_trans hb2 (by decide)) (Nat.le_trans (ln_mulZ (m := 256) (n := 256) qa1 qb2) (by decide))
  refine hc.mono ?_
  clear hc
  rintro e w10 ⟨sx, Ax, nx, cx, rfl, hx, hb⟩
  replace hE := hE.step hb
  clear hb
  replace hE := hE.wv hx
  clear hx
  have lx : nx ≤ 512 := by rw [(hE.here.2).len]; exact (ln_mulZ (m := 256) (n := 256) qa1 qb2)
  go_wp2_with fail
  refine hK.out _ _ (hE.here.1.1.1.2.j4 hE.here.1.1.2.c4) (fun hHeld => ?_)
  clear hK K
  try simp only [PL]
  refine r1 9 (fun K hK => ?_)
  go_simp
  have hc := ftimes_v (ca := cb) (cb := da) (hE.here.1.1.1.1.2).1 (hE.here.1.1.1.1.1.2).2 (Nat.le_trans hb1 (by decide)) (Nat.le_trans ha2 (by decide)) (Nat.le_trans (ln_mulZ (m := 256) (n := 256) qb1 qa2) (by decide))
  refine hc.mono ?_
  clear hc
  rintro e w11 ⟨sy, Ay, ny, cy, rfl, hy, hb⟩
  replace hE := hE.step hb
  clear hb
  replace hE := hE.wv hy
  clear hy
  have ly : ny ≤ 512 := by rw [(hE.here.2).len]; exact (ln_mulZ (m := 256) (n := 256) qb1 qa2)
  go_wp2_with fail
  refine hK.out _ _ (hE.here.1.1.1.1.2.j4 hE.here.1.1.1.2.c4) (fun hHeld => ?_)
  clear hK K
  try simp only [PL]
  refine r1 10 (fun K hK => ?_)
  go_simp
  have hc := fopposite_v (c := cy) hE.here.2 (Nat.le_trans ly (by decide))
  refine hc.mono ?_
  clear hc
  rintro e w12 ⟨so, Ao, no, co, rfl, ho, hb⟩
  replace hE := hE.step hb
  clear hb
  replace hE := hE.wv ho
  clear ho
  have lo := neg_len hE.here.1.2 hE.here.2 ly
  go_wp2_with fail
  refine hK.out _ _ (hE.here.1.1.1.1.1.2.j4 hE.here.1.1.1.1.2.c4) (fun hHeld => ?_)
  clear hK K
  try simp only [PL]
  refine r1 11 (fun K hK => ?_)
  go_simp
  have hc := fplus_v (ca := cx) (cb := co) hE.here.1.1.2 hE.here.2 (Nat.le_trans lx (by decide)) (Nat.le_trans lo (by decide)) (Nat.le_trans (ln_addZ (m := 512) (by rw [← (hE.here.1.1.2).len]; exact lx) (by rw [← (hE.here.2).len]; exact lo)) (by decide))
  refine hc.mono ?_
  clear hc
  rintro e w13 ⟨sz, Az, nz, cz, rfl, hz, hb⟩
  replace hE := hE.step hb
  clear hb
  replace hE := hE.wv hz
  clear hz
  have lz : nz ≤ 513 := by rw [(hE.here.2).len]; exact (ln_addZ (m := 512) (by rw [← (hE.here.1.1.1.2).len]; exact lx) (by rw [← (hE.here.1.2).len]; exact lo))
  go_wp2_with fail
  refine hK.out _ _ (hE.here.1.1.1.1.1.1.2.j4 hE.here.1.1.1.1.1.2.c4) (fun hHeld => ?_)
  clear hK K
  try simp only [PL]
  refine r1 16 (fun K hK => ?_)
  go_simp
  have hc := ftimes_v (ca := da) (cb := db) (hE.here.1.1.1.1.1.1.1.1.2).2 (hE.here.1.1.1.1.1.1.1.2).2 (Nat.le_trans ha2 (by decide)) (Nat.le_trans hb2 (by decide)) (Nat.le_trans (ln_mulZ (m := 256) (n := 256) qa2 qb2) (by decide))
  refine hc.mono ?_
  clear hc
  rintro e w14 ⟨su, Au, nu, cu, rfl, hu, hb⟩
  replace hE := hE.step hb
  clear hb
  replace hE := hE.wv hu
  clear hu
  have lu : nu ≤ 512 := by rw [(hE.here.2).len]; exact (ln_mulZ (m := 256) (n := 256) qa2 qb2)
  go_wp2_with fail
  refine hK.out _ _ (hE.here.1.1.1.1.1.1.1.2.j4 hE.here.1.1.1.1.1.1.2.c4) (fun hHeld => ?_)
  clear hK K
  try simp only [PL]
  refine r1 17 (fun K hK => ?_)
  go_simp
  have hc := flowest_v (ca := cz) (cb := cu) hE.here.1.2 hE.here.2 (Nat.le_trans lz (by decide)) (Nat.le_trans lu (by decide)) (den_ne a b)
  rw [sub_low a b] at hc
  refine hc.mono ?_
  clear hc
  rintro e w15 ⟨sf, Af, nf, cf, tf, Bf, mf, df, rfl, hf, hb⟩
  replace hE := hE.step hb
  clear hb
  replace hE := hE.fv hf
  clear hf
  go_wp2_with fail
  refine hK.out _ _ (hE.here.1.1.1.1.1.1.1.1.2.j4 hE.here.1.1.1.1.1.1.1.2.c4) (fun hHeld => ?_)
  clear hK K
  try simp only [PL]
  refine r1 18 (fun K hK => ?_)
  go_simp
  have hc := fresult_ok (c := cf) (d := df) hE.here.2 lr
  refine hc.mono ?_
  clear hc
  rintro e w16 ⟨sr, Ar, nr, cr, tr, Br, mr, dr, rfl, hr, hb⟩
  replace hE := hE.step hb
  clear hb
  replace hE := hE.fv hr
  clear hr
  go_wp2_with fail
  refine hK.out _ _ (hE.here.1.1.1.1.1.1.1.1.1.2.j4 hE.here.1.1.1.1.1.1.1.1.2.c4) (fun hHeld => ?_)
  clear hK K
  try simp only [PL]
  refine tk 19 ?_
  try simp only [PL]
  refine tk 20 ?_
  try simp only [PL]
  refine r1 21 (fun K hK => ?_)
  have hRl : w.heap.size ≤ w.heap.size + 1 + 1 := by omega
  obtain ⟨WW, hWW, hB, hV, hBel⟩ := ret_frac hE hE.here.1.1.1.1.1.1.1.2 hRl hE.here.2 cr dr
  obtain ⟨x0, x1, x2, x3⟩ := (hE.here.1.1.1.1.1.1.1.2).c4
  obtain ⟨fz0, fz1, fz2, fz3⟩ := hE.here.1.1.1.1.1.1.1.2.f4
  have HWW := Lib.hid hWW
  clear hWW
  have q17 := (hE.here.1.1.1.1.1.1.1.1.1.2).far4 (R := w.heap.size + 1 + 1) (by omega) (.bool sr) (.slice Ar nr cr) (.bool tr) (.slice Br mr dr)
  rw [← HWW.out] at q17
  have q18 := (hE.here.1.1.1.1.1.1.1.1.2).far4 (R := w.heap.size + 1 + 1) (by omega) (.bool sr) (.slice Ar nr cr) (.bool tr) (.slice Br mr dr)
  rw [← HWW.out] at q18
  go_simp
  rw [← HWW.out]
  refine hK.out _ _ (q17.j4 q18.c4) (fun hHeld => ?_)
  clear hK K
  try simp only [PL]
  refine tk 22 ?_
  try simp only [PL]
  refine wpAnyH_done (by kernel_rfl) ?_ _
  go_wp2_with fail
  obtain ⟨y0, y1, y2, y3⟩ := hB.c4
  refine bodyPost_ret (v := .tuple #[.agg #[.bool sr, .slice Ar nr cr, .bool tr, .slice Br mr dr], .int .i64 0]) (by simp [results, Tryz.results55, go_sem, y0, y1, y2, y3]) rfl ?_
  exact ⟨sr, Ar, nr, cr, tr, Br, mr, dr, rfl, hV, hBel⟩
set_option linter.unusedSimpArgs false in
set_option maxRecDepth 100000 in
set_option maxHeartbeats 2000000 in
theorem fmul_v {a b : Rat} {sa ta sb tb : Bool} {Aa Ba Ab Bb : Option Addr} {na ca ma da nb cb mb db : Nat} {w : World} (ha : FV w a sa Aa na ta Ba ma) (hb : FV w b sb Ab nb tb Bb mb) (la : fl a ≤ 256) (lb : fl b ≤ 256) (lr : fl (a * b) ≤ 256) :
    Calls Tryz.prog 57 #[.agg #[.bool sa, .slice Aa na ca, .bool ta, .slice Ba ma da], .agg #[.bool sb, .slice Ab nb cb, .bool tb, .slice Bb mb db]] w (FOK (a * b) w) := by
  have hE := ((((Env.start w).fv ha).fv hb).blk 29 #[.bool sa, .slice Aa na ca, .bool ta, .slice Ba ma da] (g := w.heap.size) rfl).blk 29 #[.bool sb, .slice Ab nb cb, .bool tb, .slice Bb mb db] (g := w.heap.size + 1) (by simp)
  have hE := hE.blk 29 #[.bool false, .slice none 0 0, .bool false, .slice none 0 0] (g := w.heap.size + 1 + 1) (by simp)
  obtain ⟨W0, hW0⟩ : ∃ W0, W0 = (((w.alloc (.cells #[.bool sa, .slice Aa na ca, .bool ta, .slice Ba ma da] 29)).alloc (.cells #[.bool sb, .slice Ab nb cb, .bool tb, .slice Bb mb db] 29)).alloc (.cells #[.bool false, .slice none 0 0, .bool false, .slice none 0 0] 29)) := ⟨_, rfl⟩
  rw [← hW0] at hE
  have HW0 := Lib.hid hW0
  clear hW0
  go_enter Tryz.func57, Tryz.ntmps57
  go_upto_region 1 with (fail)
  rw [← HW0.out]
  obtain ⟨k1, k2, k3, k4⟩ := (hE.here.1.1.2).c4
  obtain ⟨k5, k6, k7, k8⟩ := (hE.here.1.2).c4
  go_wp2_with fail
  have hc := fallValid_v (c := ca) (d := da) (c2 := cb) (d2 := db) hE.here.1.1.1.1.2 hE.here.1.1.1.2 la lb
  refine hc.mono ?_
  clear hc
  clear k1 k2 k3 k4 k5 k6 k7 k8
  rintro e w9 ⟨rfl, hb⟩
  replace hE := hE.step hb
  clear hb
  go_upto_region 3 with (fail)
  obtain ⟨qa1, qa2⟩ := fl_le.1 la
  obtain ⟨qb1, qb2⟩ := fl_le.1 lb
  obtain ⟨ha1, ha2⟩ := (hE.here.1.1.1.1.2).ln la
  obtain ⟨hb1, hb2⟩ := (hE.here.1.1.1.2).ln lb
  have qa2 : ln b16 ((a.den : Nat) : Int).natAbs ≤ 256 := by rw [Int.natAbs_natCast]; exact qa2
  have qb2 : ln b16 ((b.den : Nat) : Int).natAbs ≤ 256 := by rw [Int.natAbs_natCast]; exact qb2
  replace hE := hE.drew
  refine wp_region_held_drew (S := fun w' => w'.cell? ⟨w.heap.size, 0, none⟩ = some (.bool sa) ∧ w'.cell? ⟨w.heap.size, 1, none⟩ = some (.slice Aa na ca) ∧ w'.cell? ⟨w.heap.size, 2, none⟩ = some (.bool ta) ∧ w'.cell? ⟨w.heap.size, 3, none⟩ = some (.slice Ba ma da) ∧ w'.cell? ⟨w.heap.size + 1, 0, none⟩ = some (.bool sb) ∧ w'.cell? ⟨w.heap.size + 1, 1, none⟩ = some (.slice Ab nb cb) ∧ w'.cell? ⟨w.heap.size + 1, 2, none⟩ = some (.bool tb) ∧ w'.cell? ⟨w.heap.size + 1, 3, none⟩ = some (.slice Bb mb db)) (by kernel_rfl) (hE.here.1.1.2.j4 hE.here.1.2.c4) (fun hHeld => ?_)
  refine tk 0 ?_
  try simp only [PL]
  refine tk 1 ?_
  try simp only [PL]
  refine tk 2 ?_
  try simp only [PL]
  refine tk 3 ?_
  try simp only [PL]
  refine tk 5 ?_
  try simp only [PL]
  refine tk 6 ?_
  try simp only [PL]
  refine tk 7 ?_
  try simp only [PL]
  refine tk 8 ?_
  try simp only [PL]
  refine r1 4 (fun K hK => ?_)
  go_simp
  have hc := ftimes_v (ca := ca) (cb := cb) (hE.here.1.1.1.1.2).1 (hE.here.1.1.1.2).1 (Nat.le_trans ha1 (by decide)) (Nat.le_trans hb1 (by decide)) (Nat.le_trans (ln_mulZ (m := 256) (n := 256) qa1 qb1) (by decide))
  refine hc.mono ?_
  clear hc
  rintro e w10 ⟨sx, Ax, nx, cx, rfl, hx, hb⟩
  replace hE := hE.step hb
  clear hb
  replace hE := hE.wv hx
  clear hx
  have lx : nx ≤ 512 := by rw [(hE.here.2).len]; exact (ln_mulZ (m := 256) (n := 256) qa1 qb1)
  go_wp2_with fail
  refine hK.out _ _ (hE.here.1.1.1.2.j4 hE.here.1.1.2.c4) (fun hHeld => ?_)
  clear hK K
  try simp only [PL]
  refine r1 9 (fun K hK => ?_)
  go_simp
  have hc := ftimes_v (ca := da) (cb := db) (hE.here.1.1.1.1.1.2).2 (hE.here.1.1.1.1.2).2 (Nat.le_trans ha2 (by decide)) (Nat.le_trans hb2 (by decide)) (Nat.le_trans (ln_mulZ (m := 256) (n := 256) qa2 qb2) (by decide))
  refine hc.mono ?_
  clear hc
  rintro e w11 ⟨su, Au, nu, cu, rfl, hu, hb⟩
  replace hE := hE.step hb
  clear hb
  replace hE := hE.wv hu
  clear hu
  have lu : nu ≤ 512 := by rw [(hE.here.2).len]; exact (ln_mulZ (m := 256) (n := 256) qa2 qb2)
  go_wp2_with fail
  refine hK.out _ _ (hE.here.1.1.1.1.2.j4 hE.here.1.1.1.2.c4) (fun hHeld => ?_)
  clear hK K
  try simp only [PL]
  refine r1 10 (fun K hK => ?_)
  go_simp
  have hc := flowest_v (ca := cx) (cb := cu) hE.here.1.2 hE.here.2 (Nat.le_trans lx (by decide)) (Nat.le_trans lu (by decide)) (den_ne a b)
  rw [mul_low a b] at hc
  refine hc.mono ?_
  clear hc
  rintro e w12 ⟨sf, Af, nf, cf, tf, Bf, mf, df, rfl, hf, hb⟩
  replace hE := hE.step hb
  clear hb
  replace hE := hE.fv hf
  clear hf
  go_wp2_with fail
  refine hK.out _ _ (hE.here.1.1.1.1.1.2.j4 hE.here.1.1.1.1.2.c4) (fun hHeld => ?_)
  clear hK K
  try simp only [PL]
  refine r1 11 (fun K hK => ?_)
  go_simp
  have hc := fresult_ok (c := cf) (d := df) hE.here.2 lr
  refine hc.mono ?_
  clear hc
  rintro e w13 ⟨sr, Ar, nr, cr, tr, Br, mr, dr, rfl, hr, hb⟩
  replace hE := hE.step hb
  clear hb
  replace hE := hE.fv hr
  clear hr
  go_wp2_with fail
  refine hK.out _ _ (hE.here.1.1.1.1.1.1.2.j4 hE.here.1.1.1.1.1.2.c4) (fun hHeld => ?_)
  clear hK K
  try simp only [PL]
  refine tk 12 ?_
  try simp only [PL]
  refine tk 13 ?_
  try simp only [PL]
  refine r1 14 (fun K hK => ?_)
  have hRl : w.heap.size ≤ w.heap.size + 1 + 1 := by omega
  obtain ⟨WW, hWW, hB, hV, hBel⟩ := ret_frac hE hE.here.1.1.1.1.2 hRl hE.here.2 cr dr
  obtain ⟨x0, x1, x2, x3⟩ := (hE.here.1.1.1.1.2).c4
  obtain ⟨fz0, fz1, fz2, fz3⟩ := hE.here.1.1.1.1.2.f4
  have HWW := Lib.hid hWW
  clear hWW
  have q14 := (hE.here.1.1.1.1.1.1.2).far4 (R := w.heap.size + 1 + 1) (by omega) (.bool sr) (.slice Ar nr cr) (.bool tr) (.slice Br mr dr)
  rw [← HWW.out] at q14
  have q15 := (hE.here.1.1.1.1.1.2).far4 (R := w.heap.size + 1 + 1) (by omega) (.bool sr) (.slice Ar nr cr) (.bool tr) (.slice Br mr dr)
  rw [← HWW.out] at q15
  go_simp
  rw [← HWW.out]
  refine hK.out _ _ (q14.j4 q15.c4) (fun hHeld => ?_)
  clear hK K
  try simp only [PL]
  refine tk 15 ?_
  try simp only [PL]
  refine wpAnyH_done (by kernel_rfl) ?_ _
  go_wp2_with fail
  obtain ⟨y0, y1, y2, y3⟩ := hB.c4
  refine bodyPost_ret (v := .tuple #[.agg #[.bool sr, .slice Ar nr cr, .bool tr, .slice Br mr dr], .int .i64 0]) (by simp [results, Tryz.results57, go_sem, y0, y1, y2, y3]) rfl ?_
  exact ⟨sr, Ar, nr, cr, tr, Br, mr, dr, rfl, hV, hBel⟩
end Go.Proofs.YtmjlankpihnicaaGreat
namespace Go.Proofs.YtmjlankpihnicaaGreat
open Go.RowKit

/-- The order of two fractions. -/
def cmpQ (a b : Rat) : Int := cmpZ (a.num * (b.den : Int)) (b.num * (a.den : Int))
set_option linter.unusedSimpArgs false in
set_option maxRecDepth 100000 in
set_option maxHeartbeats 2000000 in
theorem fcmp_v {a b : Rat} {sa ta sb tb : Bool} {Aa Ba Ab Bb : Option Addr} {na ca ma da nb cb mb db : Nat} {w : World} (ha : FV w a sa Aa na ta Ba ma) (hb : FV w b sb Ab nb tb Bb mb) (la : fl a ≤ 256) (lb : fl b ≤ 256) :
    Calls Tryz.prog 33 #[.agg #[.bool sa, .slice Aa na ca, .bool ta, .slice Ba ma da], .agg #[.bool sb, .slice Ab nb cb, .bool tb, .slice Bb mb db]] w (fun e w' => e = .returned (.int .i64 (cmpQ a b)) ∧ Below w.heap.size w w') := by
  have hE := ((((Env.start w).fv ha).fv hb).blk 29 #[.bool sa, .slice Aa na ca, .bool ta, .slice Ba ma da] (g := w.heap.size) rfl).blk 29 #[.bool sb, .slice Ab nb cb, .bool tb, .slice Bb mb db] (g := w.heap.size + 1) (by simp)
  obtain ⟨W0, hW0⟩ : ∃ W0, W0 = ((w.alloc (.cells #[.bool sa, .slice Aa na ca, .bool ta, .slice Ba ma da] 29)).alloc (.cells #[.bool sb, .slice Ab nb cb, .bool tb, .slice Bb mb db] 29)) := ⟨_, rfl⟩
  rw [← hW0] at hE
  have HW0 := Lib.hid hW0
  clear hW0
  go_enter Tryz.func33, Tryz.ntmps33
  go_upto_region 1 with (fail)
  rw [← HW0.out]
  obtain ⟨k1, k2, k3, k4⟩ := (hE.here.1.2).c4
  obtain ⟨k5, k6, k7, k8⟩ := (hE.here.2).c4
  go_wp2_with fail
  have hc := fallValid_v (c := ca) (d := da) (c2 := cb) (d2 := db) hE.here.1.1.1.2 hE.here.1.1.2 la lb
  refine hc.mono ?_
  clear hc
  clear k1 k2 k3 k4 k5 k6 k7 k8
  rintro e w9 ⟨rfl, hb⟩
  replace hE := hE.step hb
  clear hb
  go_upto_region 3 with (fail)
  obtain ⟨qa1, qa2⟩ := fl_le.1 la
  obtain ⟨qb1, qb2⟩ := fl_le.1 lb
  obtain ⟨ha1, ha2⟩ := (hE.here.1.1.1.2).ln la
  obtain ⟨hb1, hb2⟩ := (hE.here.1.1.2).ln lb
  have qa2 : ln b16 ((a.den : Nat) : Int).natAbs ≤ 256 := by rw [Int.natAbs_natCast]; exact qa2
  have qb2 : ln b16 ((b.den : Nat) : Int).natAbs ≤ 256 := by rw [Int.natAbs_natCast]; exact qb2
  obtain ⟨v, hv⟩ : ∃ v, v = cmpZ (a.num * (b.den : Int)) (b.num * (a.den : Int)) := ⟨_, rfl⟩
  have HV := Lib.hid hv
  clear hv
  replace hE := hE.drew
  refine wp_region_held_drew (S := fun w' => w'.cell? ⟨w.heap.size, 0, none⟩ = some (.bool sa) ∧ w'.cell? ⟨w.heap.size, 1, none⟩ = some (.slice Aa na ca) ∧ w'.cell? ⟨w.heap.size, 2, none⟩ = some (.bool ta) ∧ w'.cell? ⟨w.heap.size, 3, none⟩ = some (.slice Ba ma da) ∧ w'.cell? ⟨w.heap.size + 1, 0, none⟩ = some (.bool sb) ∧ w'.cell? ⟨w.heap.size + 1, 1, none⟩ = some (.slice Ab nb cb) ∧ w'.cell? ⟨w.heap.size + 1, 2, none⟩ = some (.bool tb) ∧ w'.cell? ⟨w.heap.size + 1, 3, none⟩ = some (.slice Bb mb db)) (by kernel_rfl) (hE.here.1.2.j4 hE.here.2.c4) (fun hHeld => ?_)
  refine tk 0 ?_
  try simp only [PL]
  refine tk 1 ?_
  try simp only [PL]
  refine tk 2 ?_
  try simp only [PL]
  refine tk 3 ?_
  try simp only [PL]
  refine tk 5 ?_
  try simp only [PL]
  refine tk 6 ?_
  try simp only [PL]
  refine tk 7 ?_
  try simp only [PL]
  refine tk 8 ?_
  try simp only [PL]
  refine r1 4 (fun K hK => ?_)
  go_simp
  have hc := ftimes_v (ca := ca) (cb := db) (hE.here.1.1.1.2).1 (hE.here.1.1.2).2 (Nat.le_trans ha1 (by decide)) (Nat.le_trans hb2 (by decide)) (Nat.le_trans (ln_mulZ (m := 256) (n := 256) qa1 qb2) (by decide))
  refine hc.mono ?_
  clear hc
  rintro e w10 ⟨sx, Ax, nx, cx, rfl, hx, hb⟩
  replace hE := hE.step hb
  clear hb
  replace hE := hE.wv hx
  clear hx
  have lx : nx ≤ 512 := by rw [(hE.here.2).len]; exact (ln_mulZ (m := 256) (n := 256) qa1 qb2)
  go_wp2_with fail
  refine hK.out _ _ (hE.here.1.1.2.j4 hE.here.1.2.c4) (fun hHeld => ?_)
  clear hK K
  try simp only [PL]
  refine r1 9 (fun K hK => ?_)
  go_simp
  have hc := ftimes_v (ca := cb) (cb := da) (hE.here.1.1.1.2).1 (hE.here.1.1.1.1.2).2 (Nat.le_trans hb1 (by decide)) (Nat.le_trans ha2 (by decide)) (Nat.le_trans (ln_mulZ (m := 256) (n := 256) qb1 qa2) (by decide))
  refine hc.mono ?_
  clear hc
  rintro e w11 ⟨sy, Ay, ny, cy, rfl, hy, hb⟩
  replace hE := hE.step hb
  clear hb
  replace hE := hE.wv hy
  clear hy
  have ly : ny ≤ 512 := by rw [(hE.here.2).len]; exact (ln_mulZ (m := 256) (n := 256) qb1 qa2)
  go_wp2_with fail
  refine hK.out _ _ (hE.here.1.1.1.2.j4 hE.here.1.1.2.c4) (fun hHeld => ?_)
  clear hK K
  try simp only [PL]
  refine r1 10 (fun K hK => ?_)
  go_simp
  have hc := cmp_v (c := cx) (d := cy) hE.here.1.2 hE.here.2 (Nat.le_trans lx (by decide)) (Nat.le_trans ly (by decide))
  rw [← HV.out] at hc
  refine hc.mono ?_
  clear hc
  rintro e w12 ⟨rfl, hb⟩
  replace hE := hE.step hb
  clear hb
  go_wp2_with fail
  refine hK.out _ _ (hE.here.1.1.1.2.j4 hE.here.1.1.2.c4) (fun hHeld => ?_)
  clear hK K
  try simp only [PL]
  refine tk 11 ?_
  try simp only [PL]
  refine wpAnyH_done (by kernel_rfl) ?_ _
  go_wp2_with fail
  go_ret
  exact ⟨by rw [HV.out]; rfl, hE.bel⟩
set_option linter.unusedSimpArgs false in
set_option maxRecDepth 100000 in
set_option maxHeartbeats 1000000 in
theorem fsame_v {a b : Rat} {sa ta sb tb : Bool} {Aa Ba Ab Bb : Option Addr} {na ca ma da nb cb mb db : Nat} {w : World} (ha : FV w a sa Aa na ta Ba ma) (hb : FV w b sb Ab nb tb Bb mb) (la1 : na ≤ 1000000) (la2 : ma ≤ 1000000) (lb1 : nb ≤ 1000000) (lb2 : mb ≤ 1000000) :
    Calls Tryz.prog 89 #[.agg #[.bool sa, .slice Aa na ca, .bool ta, .slice Ba ma da], .agg #[.bool sb, .slice Ab nb cb, .bool tb, .slice Bb mb db]] w fun e w' => e = .returned (.bool (decide (a = b))) ∧ Below w.heap.size w w' := by
  by_cases h1 : a.num = b.num
  · skip
    have hE := ((((Env.start w).fv ha).fv hb).blk 29 #[.bool sa, .slice Aa na ca, .bool ta, .slice Ba ma da] (g := w.heap.size) rfl).blk 29 #[.bool sb, .slice Ab nb cb, .bool tb, .slice Bb mb db] (g := w.heap.size + 1) (by simp)
    obtain ⟨W0, hW0⟩ : ∃ W0, W0 = ((w.alloc (.cells #[.bool sa, .slice Aa na ca, .bool ta, .slice Ba ma da] 29)).alloc (.cells #[.bool sb, .slice Ab nb cb, .bool tb, .slice Bb mb db] 29)) := ⟨_, rfl⟩
    rw [← hW0] at hE
    have HW0 := Lib.hid hW0
    clear hW0
    go_enter Tryz.func89, Tryz.ntmps89
    go_upto_region 1 with (fail)
    rw [← HW0.out]
    obtain ⟨k1, k2, k3, k4⟩ := (hE.here.1.2).c4
    obtain ⟨k5, k6, k7, k8⟩ := (hE.here.2).c4
    go_wp2_with fail
    have hc := same_v (c := ca) (d := cb) (hE.here.1.1.1.2).1 (hE.here.1.1.2).1 la1 lb1
    rw [decide_eq_true h1] at hc
    refine hc.mono ?_
    clear hc
    clear k1 k2 k3 k4 k5 k6 k7 k8
    rintro e w1 ⟨rfl, hb⟩
    replace hE := hE.step hb
    clear hb
    obtain ⟨k9, k10, k11, k12⟩ := (hE.here.1.2).c4
    obtain ⟨k13, k14, k15, k16⟩ := (hE.here.2).c4
    go_wp2_with fail
    have hc := same_v (c := da) (d := db) (hE.here.1.1.1.2).2 (hE.here.1.1.2).2 la2 lb2
    refine hc.mono ?_
    clear hc
    clear k9 k10 k11 k12 k13 k14 k15 k16
    rintro e w2 ⟨rfl, hb⟩
    replace hE := hE.step hb
    clear hb
    obtain ⟨v, hv⟩ : ∃ v, v = decide (((a.den : Nat) : Int) = ((b.den : Nat) : Int)) := ⟨_, rfl⟩
    rw [← hv]
    have HV := Lib.hid hv
    clear hv
    have H1 := Lib.hid h1
    clear h1
    go_wp2_with fail
    go_ret
    refine ⟨ret_bool ?_, hE.bel⟩
    rw [HV.out]
    exact decide_eq_decide.2 ⟨fun h => Rat.ext H1.out (by omega), fun h => by rw [h]⟩
  · skip
    have hE := ((((Env.start w).fv ha).fv hb).blk 29 #[.bool sa, .slice Aa na ca, .bool ta, .slice Ba ma da] (g := w.heap.size) rfl).blk 29 #[.bool sb, .slice Ab nb cb, .bool tb, .slice Bb mb db] (g := w.heap.size + 1) (by simp)
    obtain ⟨W0, hW0⟩ : ∃ W0, W0 = ((w.alloc (.cells #[.bool sa, .slice Aa na ca, .bool ta, .slice Ba ma da] 29)).alloc (.cells #[.bool sb, .slice Ab nb cb, .bool tb, .slice Bb mb db] 29)) := ⟨_, rfl⟩
    rw [← hW0] at hE
    have HW0 := Lib.hid hW0
    clear hW0
    go_enter Tryz.func89, Tryz.ntmps89
    go_upto_region 1 with (fail)
    rw [← HW0.out]
    obtain ⟨k1, k2, k3, k4⟩ := (hE.here.1.2).c4
    obtain ⟨k5, k6, k7, k8⟩ := (hE.here.2).c4
    go_wp2_with fail
    have hc := same_v (c := ca) (d := cb) (hE.here.1.1.1.2).1 (hE.here.1.1.2).1 la1 lb1
    rw [decide_eq_false h1] at hc
    refine hc.mono ?_
    clear hc
    clear k1 k2 k3 k4 k5 k6 k7 k8
    rintro e w1 ⟨rfl, hb⟩
    replace hE := hE.step hb
    clear hb
    go_wp2_with fail
    go_ret
    exact ⟨ret_bool (decide_eq_false (fun h => h1 (by rw [h]))).symm, hE.bel⟩
set_option linter.unusedSimpArgs false in
set_option maxRecDepth 100000 in
set_option maxHeartbeats 1000000 in
theorem frsame_v {a b : Rat} {sa ta sb tb : Bool} {Aa Ba Ab Bb : Option Addr} {na ca ma da nb cb mb db : Nat} {w : World} (ha : FV w a sa Aa na ta Ba ma) (hb : FV w b sb Ab nb tb Bb mb) (la1 : na ≤ 1000000) (la2 : ma ≤ 1000000) (lb1 : nb ≤ 1000000) (lb2 : mb ≤ 1000000) :
    Calls Tryz.prog 56 #[.agg #[.bool sa, .slice Aa na ca, .bool ta, .slice Ba ma da], .agg #[.bool sb, .slice Ab nb cb, .bool tb, .slice Bb mb db]] w fun e w' => e = .returned (.bool (decide (a = b))) ∧ Below w.heap.size w w' := by
  by_cases h1 : a.num = b.num
  · skip
    have hE := ((((Env.start w).fv ha).fv hb).blk 29 #[.bool sa, .slice Aa na ca, .bool ta, .slice Ba ma da] (g := w.heap.size) rfl).blk 29 #[.bool sb, .slice Ab nb cb, .bool tb, .slice Bb mb db] (g := w.heap.size + 1) (by simp)
    obtain ⟨W0, hW0⟩ : ∃ W0, W0 = ((w.alloc (.cells #[.bool sa, .slice Aa na ca, .bool ta, .slice Ba ma da] 29)).alloc (.cells #[.bool sb, .slice Ab nb cb, .bool tb, .slice Bb mb db] 29)) := ⟨_, rfl⟩
    rw [← hW0] at hE
    have HW0 := Lib.hid hW0
    clear hW0
    go_enter Tryz.func56, Tryz.ntmps56
    go_upto_region 1 with (fail)
    rw [← HW0.out]
    obtain ⟨k1, k2, k3, k4⟩ := (hE.here.1.2).c4
    obtain ⟨k5, k6, k7, k8⟩ := (hE.here.2).c4
    go_wp2_with fail
    have hc := refSame_v (c := ca) (d := cb) (hE.here.1.1.1.2).1 (hE.here.1.1.2).1 la1 lb1
    rw [decide_eq_true h1] at hc
    refine hc.mono ?_
    clear hc
    clear k1 k2 k3 k4 k5 k6 k7 k8
    rintro e w1 ⟨rfl, hb⟩
    replace hE := hE.step hb
    clear hb
    obtain ⟨k9, k10, k11, k12⟩ := (hE.here.1.2).c4
    obtain ⟨k13, k14, k15, k16⟩ := (hE.here.2).c4
    go_wp2_with fail
    have hc := refSame_v (c := da) (d := db) (hE.here.1.1.1.2).2 (hE.here.1.1.2).2 la2 lb2
    refine hc.mono ?_
    clear hc
    clear k9 k10 k11 k12 k13 k14 k15 k16
    rintro e w2 ⟨rfl, hb⟩
    replace hE := hE.step hb
    clear hb
    obtain ⟨v, hv⟩ : ∃ v, v = decide (((a.den : Nat) : Int) = ((b.den : Nat) : Int)) := ⟨_, rfl⟩
    rw [← hv]
    have HV := Lib.hid hv
    clear hv
    have H1 := Lib.hid h1
    clear h1
    go_wp2_with fail
    go_ret
    refine ⟨ret_bool ?_, hE.bel⟩
    rw [HV.out]
    exact decide_eq_decide.2 ⟨fun h => Rat.ext H1.out (by omega), fun h => by rw [h]⟩
  · skip
    have hE := ((((Env.start w).fv ha).fv hb).blk 29 #[.bool sa, .slice Aa na ca, .bool ta, .slice Ba ma da] (g := w.heap.size) rfl).blk 29 #[.bool sb, .slice Ab nb cb, .bool tb, .slice Bb mb db] (g := w.heap.size + 1) (by simp)
    obtain ⟨W0, hW0⟩ : ∃ W0, W0 = ((w.alloc (.cells #[.bool sa, .slice Aa na ca, .bool ta, .slice Ba ma da] 29)).alloc (.cells #[.bool sb, .slice Ab nb cb, .bool tb, .slice Bb mb db] 29)) := ⟨_, rfl⟩
    rw [← hW0] at hE
    have HW0 := Lib.hid hW0
    clear hW0
    go_enter Tryz.func56, Tryz.ntmps56
    go_upto_region 1 with (fail)
    rw [← HW0.out]
    obtain ⟨k1, k2, k3, k4⟩ := (hE.here.1.2).c4
    obtain ⟨k5, k6, k7, k8⟩ := (hE.here.2).c4
    go_wp2_with fail
    have hc := refSame_v (c := ca) (d := cb) (hE.here.1.1.1.2).1 (hE.here.1.1.2).1 la1 lb1
    rw [decide_eq_false h1] at hc
    refine hc.mono ?_
    clear hc
    clear k1 k2 k3 k4 k5 k6 k7 k8
    rintro e w1 ⟨rfl, hb⟩
    replace hE := hE.step hb
    clear hb
    go_wp2_with fail
    go_ret
    exact ⟨ret_bool (decide_eq_false (fun h => h1 (by rw [h]))).symm, hE.bel⟩
end Go.Proofs.YtmjlankpihnicaaGreat
