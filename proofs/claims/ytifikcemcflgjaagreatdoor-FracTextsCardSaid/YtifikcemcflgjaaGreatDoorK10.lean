/-
  Several texts in one: The walk of whole.timesShort. The walk of whole.Parse. The walks of frac.Parse at two texts that are not in lowest terms. The walk of frac.Div at a divisor that is 0. The walk of frac.Int. Floors and ceilings of fractions, in plain words. The walk of frac.power where the power is too long.
-/
import Derived.Test.YtifikcemcflgjaaGreatDoorK1
import Derived.Test.YtifikcemcflgjaaGreatDoorK5
import Derived.Test.YtifikcemcflgjaaGreatDoorK9
import Derived.Deep.CutRange
import Derived.WalkSpells
import Derived.Test.YtifikcemcflgjaaGreatDoorK8
import Derived.Test.YtifikcemcflgjaaGreatDoorK6
namespace Go.Proofs.YtifikcemcflgjaaGreatDoor
open Go.RowKit

set_option maxHeartbeats 400000 in
theorem timesShort_any (A : Option Addr) (c x m p : Nat) (w : World) (hx : Num32 w A x) (hm : m < 4294967296) (hp : p < 4294967296) (hn : ln b32 x ≤ 1000000) :
    Calls Tryz.prog 108 #[.slice A (ln b32 x) c, .int .u32 (m : Int), .int .u32 (p : Int)] w (W32 w (x * m + p)) := by
  have HN := Lib.hid (@tdg_total x m p hm hp)
  have hmk := mk32 0 (ln b32 x + 1) (by omega) (by omega)
  rw [show ((ln b32 x + 1 : Nat) : Int) = (ln b32 x : Int) + 1 by omega, show ((0 : Nat) : Int) = 0 by rfl] at hmk
  go_enter Tryz.func108, Tryz.ntmps108
  go_wp2_with fail
  refine (collector_any _ _).mono ?_
  rintro e w1 ⟨rfl, rfl⟩
  go_wp2_with fail
  clear hmk
  go_loopw [9, 21] (fun e i wr => ∃ k : Nat, k ≤ ln b32 x ∧ i = .int .i64 k ∧ e = .int .u64 (ex p k : Nat) ∧ Coll w.heap.size (w.heap.size + 1 + 1 + 1) (w.heap.size + 1 + 1) (w.heap.size + 1) w.heap.size (ln b32 x + 1) (tdg (dgt b32 x) m p) wr k (tcry (dgt b32 x) m p k) ∧ Below w.heap.size w wr) (fun _ i _ => ln b32 x - (intOf i).toNat)
  case atStart => exact ⟨0, Nat.zero_le _, rfl, rfl, coll_start _ _ _, coll_below _ _ _ _ _⟩
  case round =>
    obtain ⟨k, hk, rfl, rfl, hcoll, hbel⟩ := hrel
    have hcr := tcry_lt (fun i => dgt32_lt x i) hm hp k
    have hex := ex_lt (k := k) hp
    by_cases hlt : k < ln b32 x
    · have hxk := dgt32_lt x k
      obtain ⟨b, o, rfl, hb, hca⟩ := hx (by omega)
      have c0 := (hbel.cell (p := ⟨b, o + k, none⟩) hb).trans (hca k hlt)
      have hmul := mul_digit hxk hm
      have hmulI : ((dgt b32 x k : Nat) : Int) * (m : Int) ≤ 18446744065119617025 := by rw [← Int.natCast_mul]; omega
      have hmul0 : 0 ≤ ((dgt b32 x k : Nat) : Int) * (m : Int) := by rw [← Int.natCast_mul]; omega
      have hsum : dgt b32 x k * m + ex p k + tcry (dgt b32 x) m p k < 18446744073709551616 := by omega
      have hcol := collect_int _ _ _ _ _ _ _ _ _ (dgt b32 x k * m + ex p k) (((dgt b32 x k : Nat) : Int) * (m : Int) + (ex p k : Nat)) _ hcoll (by omega) hsum rfl (by rw [Int.natCast_add, Int.natCast_mul])
      have HC := Lib.hid hcol
      clear hcol hmul hsum
      go_wp2_with fail
      refine HC.out.mono ?_
      rintro e w2 ⟨rfl, hcoll2, hbel2⟩
      go_wp2
      go_roundw
      case rel => exact ⟨k + 1, by omega, by go_num, rfl, hcoll2, hbel.trans hbel2⟩
      case measure => simp [intOf]; omega
    · obtain rfl : k = ln b32 x := by omega
      have h0 : dgt b32 x (ln b32 x) = 0 := dgt_of_lt (lt_pow_ln b32_two x)
      have hcol := collect_int _ _ _ _ _ _ _ _ _ (ex p (ln b32 x)) ((ex p (ln b32 x) : Nat) : Int) _ hcoll (by omega) (by omega) (by rw [tdg, h0, Nat.zero_mul, Nat.zero_add]) rfl
      have HC := Lib.hid hcol
      clear hcol h0
      go_wp2_with fail
      refine HC.out.mono ?_
      rintro e w2 ⟨rfl, hcoll2, hbel2⟩
      have c3 := cell_of_one hcoll2.var
      have ht := trim_any (some ⟨w.heap.size, 0, none⟩) _ (ln b32 x + 1) _ w2 (hcoll2.row.rd (Nat.le_refl _) hcoll2.row.lt) (fun i _ => tdg_lt ..) (Nat.le_refl _) (by omega)
      rw [HN.out] at ht
      have HT := Lib.hid ht
      clear ht
      go_wp2_with fail
      refine HT.out.mono ?_
      rintro e w3 ⟨rfl, rfl, hnum, hlc⟩
      go_wp2
      go_ret
      exact ⟨_, _, rfl, hlc, hnum, hbel.trans hbel2⟩
end Go.Proofs.YtifikcemcflgjaaGreatDoor
namespace Go.Proofs.YtifikcemcflgjaaGreatDoor
open Go.RowKit

def str (l : List UInt8) : ByteArray := ⟨l.toArray⟩
theorem str_size (l : List UInt8) : (str l).size = l.length := by simp [str, ByteArray.size]
theorem idx_at {l : List UInt8} {k : Nat} (h : k < l.length) (W : World) : (Instr.index 9 (.string (str l)) (.int .i64 (k : Int))).run Tryz.prog W = .ok (.int .u8 ((l[k].toNat : Nat) : Int)) W := by
  have hs := str_size l
  rw [run_index_string W 9 (str l) .i64 (k : Int) Tryz.underlying9, dif_pos (by omega)]
  congr 1
theorem slice_at {l : List UInt8} {k : Nat} (h : k ≤ l.length) (W : World) : (Instr.slice 9 (.string (str l)) (some (.int .i64 (k : Int))) none none).run Tryz.prog W = .ok (.string (str (l.drop k))) W := by
  have hs := str_size l
  rw [run_slice_string_l W 9 (str l) Tryz.underlying9 .i64 (k : Int) (by omega) (by omega)]
  have e : (str l).extract (k : Int).toNat (str l).size = str (l.drop k) := by
    apply ByteArray.ext
    rw [ByteArray.data_extract, hs, Int.toNat_natCast]
    simp [str, List.take_of_length_le]
  rw [e]
/-- Does a text open with a minus sign? -/
def negT (l : List UInt8) : Bool := l.head? == some 45
def bodyT (l : List UInt8) : List UInt8 := if negT l then l.drop 1 else l
def badHead (g : Bool) (d : List UInt8) : Bool := d.isEmpty || (d.head? == some 48 && (g || decide (1 < d.length)))
def allDg (d : List UInt8) (k : Nat) : Prop := ∀ i, i < k → ∀ c, d[i]? = some c → 48 ≤ c.toNat ∧ c.toNat ≤ 57
def numOK (l : List UInt8) : Prop := badHead (negT l) (bodyT l) = false ∧ allDg (bodyT l) (bodyT l).length
/-- What whole.Parse returns. -/
def ParseR (l : List UInt8) (w : World) (e : Ending) (w' : World) : Prop :=
  (¬ numOK l ∧ ErrW1 10 w e w') ∨ (numOK l ∧ 4933 < (bodyT l).length ∧ ErrW1 3 w e w') ∨ (numOK l ∧ (bodyT l).length ≤ 4933 ∧ RI w (toI (negT l) (pv (bodyT l))) e w')
def lenS : Value → Nat
  | .string s => s.size
  | _ => 0
theorem str_drop {l : List UInt8} {k : Nat} (_ : k ≤ l.length) : (str l).extract k l.length = str (l.drop k) := by
  have hs := str_size l
  apply ByteArray.ext
  rw [ByteArray.data_extract]
  simp [str, List.take_of_length_le]
theorem u8_eq (c d : UInt8) : (((c.toNat : Nat) : Int) == ((d.toNat : Nat) : Int)) = (c == d) := by
  by_cases h : c = d
  · subst h; simp
  · have h1 : c.toNat ≠ d.toNat := fun e => h (UInt8.toNat.inj e)
    rw [beq_eq_false_iff_ne.2 (show ((c.toNat : Nat) : Int) ≠ ((d.toNat : Nat) : Int) by omega), beq_eq_false_iff_ne.2 h]
theorem neg_cons (c : UInt8) (r : List UInt8) : negT (c :: r) = (c == 45) := by simp [negT]
theorem badHead_cons (g : Bool) (c : UInt8) (r : List UInt8) : badHead g (c :: r) = (c == 48 && (g || decide (0 < r.length))) := by simp [badHead]
set_option linter.unusedSimpArgs false in
set_option maxRecDepth 100000 in
set_option maxHeartbeats 4000000 in
theorem parse_walk (l : List UInt8) (w : World) (hl : l.length ≤ 1000000) : Calls Tryz.prog 60 #[.string (str l)] w (ParseR l w) := by
  have hb0 : Below w.heap.size w (w.alloc (.cells #[.bool false, .slice none 0 0] 24)) := (Below.refl _ w).alloc (Nat.le_refl _) _
  have hR0 := WholeAt.new w false (.slice none 0 0)
  obtain ⟨w0, hw0⟩ : ∃ w0, w0 = w.alloc (.cells #[.bool false, .slice none 0 0] 24) := ⟨_, rfl⟩
  rw [← hw0] at hb0 hR0
  have HW0 := Lib.hid hw0
  clear hw0
  have hs := str_size l
  go_enter Tryz.func60, Tryz.ntmps60
  go_upto_region 2 with (fail)
  rw [← HW0.out]
  go_cut [5] from 13 to 20 (fun v wx => v = .bool (negT l) ∧ wx = w0)
  case first =>
    by_cases h0 : l = []
    · subst h0
      go_wp2_with fail
      go_meet
      exact ⟨rfl, rfl⟩
    · have hp : 0 < l.length := List.length_pos_iff.2 h0
      have hi := idx_at (l := l) (k := 0) hp
      have t0 : (0 : Int) < (l.length : Int) := by omega
      obtain ⟨c, r, rfl⟩ := List.exists_cons_of_ne_nil h0
      go_wp2_with fail
      go_meet
      exact ⟨by rw [neg_cons, ← u8_eq]; rfl, rfl⟩
  case rest =>
  obtain ⟨rfl, rfl⟩ := hcut
  go_upto_if 21 with (fail)
  go_cut [4, 5] from 21 to 23 (fun v u wx => v = .string (str (bodyT l)) ∧ u = .bool (negT l) ∧ wx = wc)
  case first =>
    cases hn : negT l
    · go_wp2_with fail
      go_meet
      exact ⟨by unfold bodyT; rw [hn]; rfl, by rw [hn], rfl⟩
    · have hp : 1 ≤ l.length := by
        cases l with
        | nil => simp [negT] at hn
        | cons c r => simp
      have hsl := slice_at (l := l) (k := 1) hp
      have t1 : (1 : Int) ≤ (l.length : Int) := by omega
      go_wp2_with fail
      go_meet
      refine ⟨?_, by rw [hn], rfl⟩
      unfold bodyT
      rw [hn]
      first | rfl | exact congrArg Value.string (str_drop hp)
  case rest =>
  obtain ⟨rfl, rfl, rfl⟩ := hcut
  obtain ⟨d, hd⟩ : ∃ d, d = bodyT l := ⟨_, rfl⟩
  obtain ⟨g, hg⟩ : ∃ g, g = negT l := ⟨_, rfl⟩
  rw [← hd, ← hg]
  have hdl : d.length ≤ 1000000 := by
    rw [hd]; unfold bodyT
    split
    · rw [List.length_drop]; omega
    · exact hl
  have HD := Lib.hid hd
  have HG := Lib.hid hg
  clear hd hg hl hs
  have hs := str_size d
  obtain ⟨r0, r1⟩ := hR0.cells
  have g0 := hR0.frozen 0
  have g1 := hR0.frozen 1
  go_upto_region 5 with (fail)
  go_cut [39, 5] from 24 to 39 (fun v u wx => v = .bool (badHead g d) ∧ u = .bool g ∧ wx = wc)
  case first =>
    by_cases h0 : d = []
    · subst h0
      go_wp2_with fail
      go_meet
      exact ⟨rfl, rfl, rfl⟩
    · obtain ⟨c, r, rfl⟩ := List.exists_cons_of_ne_nil h0
      have hz : (str (c :: r))[0]'(by rw [str_size]; simp) = c := rfl
      have t0 : (0 : Int) < ((c :: r).length : Int) := by simp only [List.length_cons]; omega
      have t1 : ((r.length : Int) + 1 == 0) = false := beq_eq_false_iff_ne.2 (by omega)
      by_cases hc : c = 48
      · subst hc
        cases g
        · go_wp2_with fail
          go_meet
          exact ⟨by rw [badHead_cons, show ((48 : UInt8) == 48) = true from rfl, Bool.true_and, Bool.false_or]; exact congrArg Value.bool (decide_eq_decide.2 (by omega)), rfl, rfl⟩
        · go_wp2_with fail
          go_meet
          exact ⟨by rw [badHead_cons]; rfl, rfl, rfl⟩
      · have t2 : (((c.toNat : Nat) : Int) == 48) = false := (u8_eq c 48).trans (beq_eq_false_iff_ne.2 hc)
        go_wp2_with fail
        go_meet
        exact ⟨by rw [badHead_cons, beq_eq_false_iff_ne.2 hc, Bool.false_and], rfl, rfl⟩
  case rest =>
  obtain ⟨rfl, rfl, rfl⟩ := hcut
  cases hbad : badHead g d
  · go_wp2_with fail
    go_loopw [43] (fun i wr => ∃ k : Nat, k ≤ d.length ∧ i = .int .i64 (k : Int) ∧ Hid (allDg d k) ∧ wr = wc) (fun i _ => d.length - (intOf i).toNat)
    case atStart => exact ⟨0, Nat.zero_le _, rfl, Lib.hid (fun i hi => absurd hi (by omega)), rfl⟩
    case round =>
      obtain ⟨k, hk, rfl, hdg, rfl⟩ := hrel
      by_cases hlt : k < d.length
      · obtain ⟨c, hc⟩ : ∃ c, d[k] = c := ⟨_, rfl⟩
        have hix := fun W => idx_at (l := d) hlt W
        rw [hc] at hix
        have hz : (str d)[k]'(by rw [hs]; exact hlt) = c := hc
        have t0 : (k : Int) < (d.length : Int) := by omega
        by_cases h1 : 48 ≤ c.toNat
        · by_cases h2 : c.toNat ≤ 57
          · have t1 : decide (((c.toNat : Nat) : Int) < 48) = false := decide_eq_false (by omega)
            have t2 : decide ((57 : Int) < ((c.toNat : Nat) : Int)) = false := decide_eq_false (by omega)
            have n1 : ¬ c.toNat < 48 := by omega
            have n2 : ¬ 57 < c.toNat := by omega
            have n3 : decide (c.toNat < 48) = false := decide_eq_false n1
            have n4 : decide (57 < c.toNat) = false := decide_eq_false n2
            have hnext : allDg d (k + 1) := fun i hi x hx => by
              rcases Nat.lt_or_ge i k with h3 | h3
              · exact hdg.out i h3 x hx
              · obtain rfl : i = k := by omega
                rw [List.getElem?_eq_getElem hlt, hc] at hx
                obtain rfl := Option.some.inj hx
                exact ⟨h1, h2⟩
            have HN := Lib.hid hnext
            clear hnext
            go_wp2_with fail
            go_roundw
            case rel => exact ⟨k + 1, by omega, by go_num, HN, by first | trivial | rfl⟩
            case measure => simp [intOf]; omega
          · have n1 : ¬ c.toNat < 48 := by omega
            have t1 : decide (((c.toNat : Nat) : Int) < 48) = false := decide_eq_false (by omega)
            have t2 : decide ((57 : Int) < ((c.toNat : Nat) : Int)) = true := decide_eq_true (by omega)
            have hno : ¬ numOK l := fun h => by
              have h3 := h.2
              rw [← HD.out] at h3
              have h4 := h3 k hlt c (by rw [List.getElem?_eq_getElem hlt, hc])
              omega
            obtain ⟨hW, hbW⟩ := store_whole hR0 hb0 (Nat.le_refl _) false (.slice none 0 0)
            have HW := Lib.hid hW
            clear hW
            go_wp2_with fail
            have hW := HW.out
            clear HW
            generalize ((wr.setCell ⟨w.heap.size, 0, none⟩ (.bool false)).setCell ⟨w.heap.size, 1, none⟩ (.slice none 0 0)) = WW at *
            obtain ⟨y0, y1⟩ := hW.cells
            refine bodyPost_ret (v := .tuple #[.agg #[.bool false, .slice none 0 0], .int .i64 10]) (by simp [results, Tryz.results60, go_sem, y0, y1]) rfl ?_
            exact .inl ⟨hno, rfl, hbW⟩
        · have t1 : decide (((c.toNat : Nat) : Int) < 48) = true := decide_eq_true (by omega)
          have hno : ¬ numOK l := fun h => by
            have h3 := h.2
            rw [← HD.out] at h3
            have h4 := h3 k hlt c (by rw [List.getElem?_eq_getElem hlt, hc])
            omega
          obtain ⟨hW, hbW⟩ := store_whole hR0 hb0 (Nat.le_refl _) false (.slice none 0 0)
          have HW := Lib.hid hW
          clear hW
          go_wp2_with fail
          have hW := HW.out
          clear HW
          generalize ((wr.setCell ⟨w.heap.size, 0, none⟩ (.bool false)).setCell ⟨w.heap.size, 1, none⟩ (.slice none 0 0)) = WW at *
          obtain ⟨y0, y1⟩ := hW.cells
          refine bodyPost_ret (v := .tuple #[.agg #[.bool false, .slice none 0 0], .int .i64 10]) (by simp [results, Tryz.results60, go_sem, y0, y1]) rfl ?_
          exact .inl ⟨hno, rfl, hbW⟩
      · obtain rfl : k = d.length := by omega
        have hok : numOK l := by
          unfold numOK
          rw [← HD.out, ← HG.out]
          exact ⟨hbad, hdg.out⟩
        have HOK := Lib.hid hok
        clear hok
        by_cases h5 : d.length ≤ 4933
        · have t1 : decide ((4933 : Int) < (d.length : Int)) = false := decide_eq_false (by omega)
          have hdgs := hdg.out
          have HDG := Lib.hid hdgs
          clear hdgs hdg hlt
          go_wp2_with fail
          go_loopw [4, 7] (fun v y wx => ∃ (k : Nat) (A : Option Addr) (c : Nat), k ≤ d.length ∧ v = .string (str (d.drop k)) ∧ y = .slice A (ln b32 (pv (d.take k))) c ∧ Num32 wx A (pv (d.take k)) ∧ ln b32 (pv (d.take k)) ≤ c ∧ WholeAt wx w.heap.size false (.slice none 0 0) ∧ Below w.heap.size w wx) (fun v _ _ => lenS v)
          case atStart =>
            refine ⟨0, none, 0, Nat.zero_le _, by simp, ?_, ?_, ?_, hR0, hb0⟩
            · rw [List.take_zero, pv_nil, ln_zero]
            · rw [List.take_zero, pv_nil]; exact Num32.zero _ _
            · rw [List.take_zero, pv_nil, ln_zero]; exact Nat.le_refl _
          case round =>
            obtain ⟨k, A, cc, hk2, rfl, rfl, hn, hcc, hRx, hbx⟩ := hrel
            by_cases hlt2 : k < d.length
            · have hs2 := str_size (d.drop k)
              rw [List.length_drop] at hs2
              obtain ⟨m, hm⟩ : ∃ m, m = d.length - k := ⟨_, rfl⟩
              rw [← hm] at hs2
              have t2 : (0 : Int) < (m : Int) := by omega
              obtain ⟨cnt, hcnt⟩ : ∃ cnt, cnt = min 9 m := ⟨_, rfl⟩
              have hc9 : cnt ≤ 9 := by omega
              have hcm : cnt ≤ m := by omega
              have hcp : 0 < cnt := by omega
              have hmin : min (9 : Int) (m : Int) = (cnt : Int) := by omega
              have HM := Lib.hid hm
              clear hm hcnt
              go_wp2_with fail
              obtain ⟨e, he⟩ : ∃ e, e = d.drop k := ⟨_, rfl⟩
              rw [← he] at hs2 ⊢
              have hel : e.length = m := by rw [he, List.length_drop, HM.out]
              have hed : ∀ j, j < m → ∀ x, e[j]? = some x → 48 ≤ x.toNat ∧ x.toNat ≤ 57 := by
                intro j hj x hx
                rw [he, List.getElem?_drop] at hx
                exact HDG.out (k + j) (by have := HM.out; omega) x hx
              have HE := Lib.hid he
              clear he
              go_loopw [9, 10, 69] (fun x y i wy => ∃ j : Nat, j ≤ cnt ∧ i = .int .i64 (j : Int) ∧ x = .int .u32 ((10 ^ j : Nat) : Int) ∧ y = .int .u32 ((pv (e.take j) : Nat) : Int) ∧ wy = wr) (fun _ _ i _ => cnt - (intOf i).toNat)
              case atStart => exact ⟨0, Nat.zero_le _, rfl, rfl, by rw [List.take_zero]; rfl, rfl⟩
              case round =>
                obtain ⟨j, hj, rfl, rfl, rfl, rfl⟩ := hrel
                by_cases hj2 : j < cnt
                · have hje : j < e.length := by omega
                  obtain ⟨c, hc⟩ : ∃ c, e[j] = c := ⟨_, rfl⟩
                  have hc2 := hed j (by omega) c (by rw [List.getElem?_eq_getElem hje, hc])
                  have hix := fun W => idx_at (l := e) hje W
                  rw [hc] at hix
                  have t3 : (j : Int) < (cnt : Int) := by omega
                  have t4 : (j : Int) < (m : Int) := by omega
                  have hp10 : 10 ^ j ≤ 100000000 := Nat.pow_le_pow_right (n := 10) (by decide) (show j ≤ 8 by omega)
                  have htk : pv (e.take j) < 100000000 := by
                    have h6 := pv_lt (e.take j) (fun x hx => by
                      obtain ⟨i, hi, rfl⟩ := List.mem_take_iff_getElem.1 hx
                      exact (hed i (by omega) _ (List.getElem?_eq_getElem _)).2)
                    rw [List.length_take, Nat.min_eq_left (by omega)] at h6
                    omega
                  have hstep : pv (e.take (j + 1)) = pv (e.take j) * 10 + (c.toNat - 48) := by
                    rw [List.take_succ_eq_append_getElem hje, pv_snoc, hc]
                  have HST := Lib.hid hstep
                  obtain ⟨V, hV⟩ : ∃ V, V = pv (e.take j) := ⟨_, rfl⟩
                  rw [← hV] at htk ⊢
                  have HV := Lib.hid hV
                  obtain ⟨T, hT⟩ : ∃ T, T = 10 ^ j := ⟨_, rfl⟩
                  rw [← hT] at hp10 ⊢
                  have HT := Lib.hid hT
                  clear hstep hV hT
                  have o1 : IntKind.u32.wrap ((T : Int) * 10) = (T : Int) * 10 := by rw [IntKind.wrap_u32]; omega
                  have o2 : IntKind.u32.wrap ((V : Int) * 10) = (V : Int) * 10 := by rw [IntKind.wrap_u32]; omega
                  have o3 : IntKind.u8.wrap (((c.toNat : Nat) : Int) - 48) = ((c.toNat : Nat) : Int) - 48 := by rw [IntKind.wrap_u8]; omega
                  have o4 : IntKind.u32.wrap (((c.toNat : Nat) : Int) - 48) = ((c.toNat : Nat) : Int) - 48 := by rw [IntKind.wrap_u32]; omega
                  have o5 : IntKind.u32.wrap ((V : Int) * 10 + (((c.toNat : Nat) : Int) - 48)) = (V : Int) * 10 + (((c.toNat : Nat) : Int) - 48) := by rw [IntKind.wrap_u32]; omega
                  go_wp2_with fail
                  go_roundw
                  case rel => exact ⟨j + 1, by omega, by go_num, by rw [Nat.pow_succ, ← HT.out]; go_num, by rw [HST.out, ← HV.out]; congr 1; omega, by first | trivial | rfl⟩
                  case measure => simp [intOf]; omega
                · obtain rfl : j = cnt := by omega
                  have hxl : ln b32 (pv (d.take k)) ≤ 1000000 := by
                    have h6 := pv_lt (d.take k) (fun x hx => by
                      obtain ⟨i, hi, rfl⟩ := List.mem_take_iff_getElem.1 hx
                      exact (HDG.out i (by omega) _ (List.getElem?_eq_getElem _)).2)
                    have h7 : ln b32 (pv (d.take k)) ≤ (d.take k).length := (ln_le b32_two).2 (Nat.lt_of_lt_of_le h6 (Nat.pow_le_pow_left (by decide) _))
                    rw [List.length_take] at h7
                    omega
                  have hpl : pv (e.take j) < 4294967296 := by
                    have h6 := pv_lt (e.take j) (fun x hx => by
                      obtain ⟨i, hi, rfl⟩ := List.mem_take_iff_getElem.1 hx
                      exact (hed i (by omega) _ (List.getElem?_eq_getElem _)).2)
                    rw [List.length_take, Nat.min_eq_left (by omega)] at h6
                    have h8 : 10 ^ j ≤ 1000000000 := Nat.pow_le_pow_right (n := 10) (by decide) hc9
                    omega
                  have hFl : 10 ^ j < 4294967296 := by
                    have h8 : 10 ^ j ≤ 1000000000 := Nat.pow_le_pow_right (n := 10) (by decide) hc9
                    omega
                  have hval : pv (d.take (k + j)) = pv (d.take k) * 10 ^ j + pv (e.take j) := by
                    rw [List.take_add, ← HE.out, pv_append, List.length_take, Nat.min_eq_left (by omega)]
                  have hdr : e.drop j = d.drop (k + j) := by rw [HE.out, List.drop_drop]
                  have hsd := str_drop (l := e) (k := j) (by omega)
                  have hsl := fun W => slice_at (l := e) (k := j) (by omega) W
                  rw [hdr] at hsd hsl
                  rw [hel] at hsd
                  obtain ⟨F, hF⟩ : ∃ F, F = 10 ^ j := ⟨_, rfl⟩
                  obtain ⟨p, hp⟩ : ∃ p, p = pv (e.take j) := ⟨_, rfl⟩
                  obtain ⟨x, hx⟩ : ∃ x, x = pv (d.take k) := ⟨_, rfl⟩
                  rw [← hF] at hFl hval ⊢
                  rw [← hp] at hpl hval ⊢
                  rw [← hx] at hxl hval hn hcc ⊢
                  have HVAL := Lib.hid hval
                  clear hF hp hx hval hed
                  have t4 : (j : Int) ≤ (m : Int) := by omega
                  go_wp2_with fail
                  refine (timesShort_any A cc x F p wr hn hFl hpl hxl).mono ?_
                  rintro e2 w7 ⟨A7, c7, rfl, hc7, hn7, hb7⟩
                  go_wp2_with fail
                  go_roundw
                  case rel => exact ⟨k + j, A7, c7, by have := HM.out; omega, rfl, by rw [HVAL.out], by rw [HVAL.out]; exact hn7, by rw [HVAL.out]; exact hc7, hRx.below hb7 hRx.lt, hbx.trans (hb7.mono hbx.size)⟩
                  case measure =>
                    show (str (List.drop (k + j) d)).size < (str (List.drop k d)).size
                    rw [str_size, str_size, List.length_drop, List.length_drop]
                    omega
            · obtain rfl : k = d.length := by omega
              rw [List.take_length] at hn hcc ⊢
              rw [List.drop_length]
              have hs3 := str_size []
              have hxl : ln b32 (pv d) ≤ 1000000 := by
                have h6 := pv_lt d (fun x hx => by
                  obtain ⟨i, hi, rfl⟩ := List.mem_iff_getElem.1 hx
                  exact (HDG.out i hi _ (List.getElem?_eq_getElem _)).2)
                have h7 : ln b32 (pv d) ≤ d.length := (ln_le b32_two).2 (Nat.lt_of_lt_of_le h6 (Nat.pow_le_pow_left (by decide) _))
                omega
              go_wp2_with fail
              refine (result_any g A cc (pv d) wr hn hcc hxl).mono ?_
              rintro e2 w8 hri
              obtain ⟨s', A', n', c', kk, rfl, hv, hb8⟩ := hri.vals
              have hR8 := hRx.below hb8 hRx.lt
              have hbl8 := hbx.trans (hb8.mono hbx.size)
              obtain ⟨q0, q1⟩ := hR8.cells
              have g2 := hR8.frozen 0
              have g3 := hR8.frozen 1
              obtain ⟨hW, hbW⟩ := store_whole hR8 hbl8 (Nat.le_refl _) s' (.slice A' n' c')
              have hv2 := (hv.store hRx.lt s' (.slice A' n' c')).lower hbx.size
              have HW := Lib.hid hW
              have HV2 := Lib.hid hv2
              clear hv hri hW hv2
              go_wp2_with fail
              have hW := HW.out
              have hv2 := HV2.out
              clear HW HV2
              generalize ((w8.setCell ⟨w.heap.size, 0, none⟩ (.bool s')).setCell ⟨w.heap.size, 1, none⟩ (.slice A' n' c')) = WW at *
              obtain ⟨y0, y1⟩ := hW.cells
              refine bodyPost_ret (v := .tuple #[.agg #[.bool s', .slice A' n' c'], .int .i64 kk]) (by simp [results, Tryz.results60, go_sem, y0, y1]) rfl ?_
              refine .inr (.inr ⟨HOK.out, by rw [← HD.out]; exact h5, ?_⟩)
              rw [← HD.out, ← HG.out]
              exact hv2.ri hbW
        · have t1 : decide ((4933 : Int) < (d.length : Int)) = true := decide_eq_true (by omega)
          have hlong : 4933 < (bodyT l).length := by rw [← HD.out]; omega
          have HLO := Lib.hid hlong
          clear hlong
          obtain ⟨hW, hbW⟩ := store_whole hR0 hb0 (Nat.le_refl _) false (.slice none 0 0)
          have HW := Lib.hid hW
          clear hW
          go_wp2_with fail
          have hW := HW.out
          clear HW
          generalize ((wr.setCell ⟨w.heap.size, 0, none⟩ (.bool false)).setCell ⟨w.heap.size, 1, none⟩ (.slice none 0 0)) = WW at *
          obtain ⟨y0, y1⟩ := hW.cells
          refine bodyPost_ret (v := .tuple #[.agg #[.bool false, .slice none 0 0], .int .i64 3]) (by simp [results, Tryz.results60, go_sem, y0, y1]) rfl ?_
          exact .inr (.inl ⟨HOK.out, HLO.out, rfl, hbW⟩)
  · have hno : ¬ numOK l := fun h => by
      have h1 := h.1
      rw [← HD.out, ← HG.out, hbad] at h1
      cases h1
    obtain ⟨hW, hbW⟩ := store_whole hR0 hb0 (Nat.le_refl _) false (.slice none 0 0)
    have HW := Lib.hid hW
    clear hW
    go_wp2_with fail
    have hW := HW.out
    clear HW
    generalize ((wc.setCell ⟨w.heap.size, 0, none⟩ (.bool false)).setCell ⟨w.heap.size, 1, none⟩ (.slice none 0 0)) = WW at *
    obtain ⟨y0, y1⟩ := hW.cells
    refine bodyPost_ret (v := .tuple #[.agg #[.bool false, .slice none 0 0], .int .i64 10]) (by simp [results, Tryz.results60, go_sem, y0, y1]) rfl ?_
    exact .inl ⟨hno, rfl, hbW⟩
end Go.Proofs.YtifikcemcflgjaaGreatDoor
namespace Go.Proofs.YtifikcemcflgjaaGreatDoor
open Go.RowKit

theorem below_drewN (B n : Nat) (w : World) : Below B w (w.drewN n) := by
  induction n with
  | zero => exact Below.refl _ _
  | succ n ih => exact ih.trans (⟨rfl, rfl, rfl, Nat.le_refl _, fun _ _ => rfl⟩ : Below B (w.drewN n) (w.drewN n).drew)
theorem parse_w {l : List UInt8} {z : Int} (w : World) (hl : l.length ≤ 1000000) (hok : numOK l) (hlen : (bodyT l).length ≤ 4933) (hz : toI (negT l) (pv (bodyT l)) = z) (hln : ln b16 z.natAbs ≤ 1024) :
    Calls Tryz.prog 60 #[.string (str l)] w (WOK z w) := by
  refine (parse_walk l w hl).mono ?_
  rintro e w' (⟨h, _⟩ | ⟨_, h, _⟩ | ⟨_, _, h⟩)
  · exact absurd hok h
  · omega
  · rw [hz] at h
    rcases h with ⟨_, A, c, he, ho, hb⟩ | ⟨h, _⟩
    · exact ⟨_, A, _, c, he, ⟨rfl, rfl, ho.num⟩, hb⟩
    · omega
theorem numOK_digit (c : UInt8) (h : 48 ≤ c.toNat ∧ c.toNat ≤ 57) : numOK [c] := by
  have hn : negT [c] = false := by
    unfold negT
    show (some c == some 45) = false
    rw [beq_eq_false_iff_ne]
    intro e
    injection e with e
    subst e
    exact absurd h.1 (by decide)
  have hbd : bodyT [c] = [c] := by unfold bodyT; rw [hn]; rfl
  refine ⟨?_, ?_⟩
  · rw [hbd, hn]
    simp [badHead]
  · rw [hbd]
    intro i hi d hd
    match i, hi with
    | 0, _ =>
      have : c = d := by simpa using hd
      subst this
      exact h
    | i + 1, hi => simp at hi
set_option linter.unusedSimpArgs false in
set_option maxRecDepth 100000 in
set_option maxHeartbeats 4000000 in
theorem fparse_24 (w : World) {k : Int} (hm : w.cell? ⟨1, 0, none⟩ = some (.int .i64 k)) (hlt : 1 < w.heap.size) :
    Calls Tryz.prog 24 #[.string ⟨#[50, 47, 52]⟩] w (FErr 21 w) := by
  have hE := (Env.start w).blk 26 #[.bool false, .slice none 0 0, .bool false, .slice none 0 0] (g := w.heap.size) rfl
  have hm0 : (w.alloc (.cells #[.bool false, .slice none 0 0, .bool false, .slice none 0 0] 26)).cell? ⟨1, 0, none⟩ = some (.int .i64 k) := (((Below.refl _ w).alloc (Nat.le_refl _) _).cell (p := ⟨1, 0, none⟩) hlt).trans hm
  obtain ⟨W0, hW0⟩ : ∃ W0, W0 = w.alloc (.cells #[.bool false, .slice none 0 0, .bool false, .slice none 0 0] 26) := ⟨_, rfl⟩
  rw [← hW0] at hE hm0
  have HW0 := Lib.hid hW0
  clear hW0 hm hlt
  go_enter Tryz.func24, Tryz.ntmps24
  go_upto_region 1 with (fail)
  rw [← HW0.out]
  go_wp2_with fail
  have hc := Tryz.strings_Cut ⟨#[50, 47, 52]⟩ ⟨#[47]⟩ k W0 (by decide) hm0
  rw [show Lib.cut (ByteArray.mk #[50, 47, 52]).data.toList (ByteArray.mk #[47]).data.toList = ([50], [52], true) by decide] at hc
  refine hc.mono ?_
  clear hc hm0
  rintro e w1 ⟨rfl, j, rfl⟩
  replace hE := hE.step (below_drewN _ j W0)
  generalize W0.drewN j = w1 at hE ⊢
  go_wp2_with fail
  have hc : Calls Tryz.prog 60 #[.string ⟨#[50]⟩] _ (WOK 2 _) := parse_w (l := [50]) (z := 2) w1 (by decide) (numOK_digit 50 (by decide)) (by decide) (by decide) (by decide)
  refine hc.mono ?_
  clear hc
  rintro e w1 ⟨sx, Ax, nx, cx, rfl, hx, hb⟩
  replace hE := hE.step hb
  clear hb
  replace hE := hE.wv hx
  clear hx
  go_upto_region 3 with (fail)
  obtain ⟨g2, hg2⟩ : ∃ g2, g2 = w1.heap.size := ⟨_, rfl⟩
  have hl2_0 : w.heap.size < g2 := by rw [hg2]; exact (hE.here.1.2).lt
  replace hE := hE.blk 24 #[.bool sx, .slice Ax nx cx] (g := g2) hg2.symm
  generalize w1.alloc (.cells #[.bool sx, .slice Ax nx cx] 24) = W2 at hE ⊢
  rw [← hg2]
  clear hg2
  go_wp2_with fail
  have hc := fromInt_v 1 W2 (by decide) (by decide)
  refine hc.mono ?_
  clear hc
  rintro e w3 ⟨so, Ao, no, co, rfl, ho, hb⟩
  replace hE := hE.step hb
  clear hb
  replace hE := hE.wv ho
  clear ho
  go_upto_region 4 with (fail)
  obtain ⟨g4, hg4⟩ : ∃ g4, g4 = w3.heap.size := ⟨_, rfl⟩
  have hl4_0 : w.heap.size < g4 := by rw [hg4]; exact (hE.here.1.1.1.2).lt
  have hl4_2 : g2 < g4 := by rw [hg4]; exact (hE.here.1.2).lt
  replace hE := hE.blk 24 #[.bool so, .slice Ao no co] (g := g4) hg4.symm
  generalize w3.alloc (.cells #[.bool so, .slice Ao no co] 24) = W4 at hE ⊢
  rw [← hg4]
  clear hg4
  go_wp2_with fail
  have hc : Calls Tryz.prog 60 #[.string ⟨#[52]⟩] _ (WOK 4 _) := parse_w (l := [52]) (z := 4) W4 (by decide) (numOK_digit 52 (by decide)) (by decide) (by decide) (by decide)
  refine hc.mono ?_
  clear hc
  rintro e w5 ⟨sy, Ay, ny, cy, rfl, hy, hb⟩
  replace hE := hE.step hb
  clear hb
  replace hE := hE.wv hy
  clear hy
  have hgl6 : w.heap.size ≤ g4 := by omega
  obtain ⟨x6_0, x6_1⟩ := (hE.here.1.2).c2
  obtain ⟨f6_0, f6_1⟩ := hE.here.1.2.f2
  replace hE := (((((((Env.again (bel2 hE.bel hgl6 (.bool sy) (.slice Ay ny cy))).blkI ((hE.here.1.1.1.1.1.2).far2 (R := g4) (by omega) (.bool sy) (.slice Ay ny cy))).wv ((hE.here.1.1.1.1.2).sep2 hE.here.1.2 rfl (.bool sy) (.slice Ay ny cy) rfl)).blkI ((hE.here.1.1.1.2).far2 (R := g4) (by omega) (.bool sy) (.slice Ay ny cy))).wv ((hE.here.1.1.2).sep2 hE.here.1.2 rfl (.bool sy) (.slice Ay ny cy) rfl)).blkI ((hE.here.1.2).s2 (.bool sy) (.slice Ay ny cy))).wv ((hE.here.2).sep2 hE.here.1.2 rfl (.bool sy) (.slice Ay ny cy) rfl))
  go_upto_region 6 with (fail)
  clear x6_0 x6_1 f6_0 f6_1 hgl6
  generalize ((w5.setCell ⟨g4, 0, none⟩ (.bool sy)).setCell ⟨g4, 1, none⟩ (.slice Ay ny cy)) = W6 at hE ⊢
  go_upto_region 10 with (fail)
  obtain ⟨k7, k8⟩ := (hE.here.1.1.1.2).c2
  obtain ⟨k9, k10⟩ := (hE.here.1.2).c2
  go_upto_region 11 with (fail)
  clear k7 k8 k9 k10
  obtain ⟨g11, hg11⟩ : ∃ g11, g11 = W6.heap.size := ⟨_, rfl⟩
  have hl11_0 : w.heap.size < g11 := by rw [hg11]; exact (hE.here.1.1.1.1.1.2).lt
  have hl11_2 : g2 < g11 := by rw [hg11]; exact (hE.here.1.1.1.2).lt
  have hl11_4 : g4 < g11 := by rw [hg11]; exact (hE.here.1.2).lt
  replace hE := hE.blk 63 #[.bool sx, .slice Ax nx cx, .bool sy, .slice Ay ny cy] (g := g11) hg11.symm
  generalize W6.alloc (.cells #[.bool sx, .slice Ax nx cx, .bool sy, .slice Ay ny cy] 63) = W11 at hE ⊢
  rw [← hg11]
  clear hg11
  obtain ⟨k12, k13, k14, k15⟩ := (hE.here.2).c4
  go_wp2_with fail
  refine (flong_r sx sy Ax Ay nx ny cx cy _ false (by rw [(hE.here.1.1.1.1.1.2).len, (hE.here.1.2).len]; decide)).mono ?_
  clear k12 k13 k14 k15
  rintro e w8 ⟨rfl, hb⟩
  replace hE := hE.step hb
  clear hb
  obtain ⟨k16, k17, k18, k19⟩ := (hE.here.2).c4
  go_wp2_with fail
  have hx := hE.here.1.1.1.1.1.2
  have hy := hE.here.1.2
  have hok : okF sx nx (dgt b16 2) sy ny (dgt b16 4) = false := by rw [hx.sgn, hy.sgn, hx.len, hy.len]; decide +kernel
  have hrd : FRd w8 Ax nx (dgt b16 2) Ay ny (dgt b16 4) := ⟨by have := hx.2.2; unfold Num16 at this; rw [← hx.2.1] at this; exact this, by have := hy.2.2; unfold Num16 at this; rw [← hy.2.1] at this; exact this, fun j _ => dgt16_lt _ j, fun j _ => dgt16_lt _ j⟩
  have l1 : nx ≤ 1000000 := by rw [hx.len]; decide
  have l2 : ny ≤ 1000000 := by rw [hy.len]; decide
  refine (ftvalid_r sx sy Ax Ay nx ny cx cy _ _ _ hrd l1 l2 false hok).mono ?_
  clear k16 k17 k18 k19
  clear hx hy hok hrd l1 l2
  rintro e w9 ⟨rfl, hb⟩
  replace hE := hE.step hb
  clear hb
  obtain ⟨k20, k21, k22, k23⟩ := (hE.here.1.1.1.1.1.1.2).c4
  have z0 := (hE.here.1.1.1.1.1.1.2).frozen 0
  have z1 := (hE.here.1.1.1.1.1.1.2).frozen 1
  have z2 := (hE.here.1.1.1.1.1.1.2).frozen 2
  have z3 := (hE.here.1.1.1.1.1.1.2).frozen 3
  have hbl := bel4 hE.bel (Nat.le_refl _) (.bool false) (.slice none 0 0) (.bool false) (.slice none 0 0)
  have hB := (hE.here.1.1.1.1.1.1.2).s4 (.bool false) (.slice none 0 0) (.bool false) (.slice none 0 0)
  clear hE
  go_wp2_with fail
  obtain ⟨y0, y1, y2, y3⟩ := hB.c4
  refine bodyPost_ret (v := .tuple #[.agg #[.bool false, .slice none 0 0, .bool false, .slice none 0 0], .int .i64 21]) (by simp [results, Tryz.results24, go_sem, y0, y1, y2, y3]) rfl ?_
  exact ⟨rfl, hbl⟩
set_option linter.unusedSimpArgs false in
set_option maxRecDepth 100000 in
set_option maxHeartbeats 4000000 in
theorem fparse_02 (w : World) {k : Int} (hm : w.cell? ⟨1, 0, none⟩ = some (.int .i64 k)) (hlt : 1 < w.heap.size) :
    Calls Tryz.prog 24 #[.string ⟨#[48, 47, 50]⟩] w (FErr 21 w) := by
  have hE := (Env.start w).blk 26 #[.bool false, .slice none 0 0, .bool false, .slice none 0 0] (g := w.heap.size) rfl
  have hm0 : (w.alloc (.cells #[.bool false, .slice none 0 0, .bool false, .slice none 0 0] 26)).cell? ⟨1, 0, none⟩ = some (.int .i64 k) := (((Below.refl _ w).alloc (Nat.le_refl _) _).cell (p := ⟨1, 0, none⟩) hlt).trans hm
  obtain ⟨W0, hW0⟩ : ∃ W0, W0 = w.alloc (.cells #[.bool false, .slice none 0 0, .bool false, .slice none 0 0] 26) := ⟨_, rfl⟩
  rw [← hW0] at hE hm0
  have HW0 := Lib.hid hW0
  clear hW0 hm hlt
  go_enter Tryz.func24, Tryz.ntmps24
  go_upto_region 1 with (fail)
  rw [← HW0.out]
  go_wp2_with fail
  have hc := Tryz.strings_Cut ⟨#[48, 47, 50]⟩ ⟨#[47]⟩ k W0 (by decide) hm0
  rw [show Lib.cut (ByteArray.mk #[48, 47, 50]).data.toList (ByteArray.mk #[47]).data.toList = ([48], [50], true) by decide] at hc
  refine hc.mono ?_
  clear hc hm0
  rintro e w1 ⟨rfl, j, rfl⟩
  replace hE := hE.step (below_drewN _ j W0)
  generalize W0.drewN j = w1 at hE ⊢
  go_wp2_with fail
  have hc : Calls Tryz.prog 60 #[.string ⟨#[48]⟩] _ (WOK 0 _) := parse_w (l := [48]) (z := 0) w1 (by decide) (numOK_digit 48 (by decide)) (by decide) (by decide) (by decide)
  refine hc.mono ?_
  clear hc
  rintro e w1 ⟨sx, Ax, nx, cx, rfl, hx, hb⟩
  replace hE := hE.step hb
  clear hb
  replace hE := hE.wv hx
  clear hx
  go_upto_region 3 with (fail)
  obtain ⟨g2, hg2⟩ : ∃ g2, g2 = w1.heap.size := ⟨_, rfl⟩
  have hl2_0 : w.heap.size < g2 := by rw [hg2]; exact (hE.here.1.2).lt
  replace hE := hE.blk 24 #[.bool sx, .slice Ax nx cx] (g := g2) hg2.symm
  generalize w1.alloc (.cells #[.bool sx, .slice Ax nx cx] 24) = W2 at hE ⊢
  rw [← hg2]
  clear hg2
  go_wp2_with fail
  have hc := fromInt_v 1 W2 (by decide) (by decide)
  refine hc.mono ?_
  clear hc
  rintro e w3 ⟨so, Ao, no, co, rfl, ho, hb⟩
  replace hE := hE.step hb
  clear hb
  replace hE := hE.wv ho
  clear ho
  go_upto_region 4 with (fail)
  obtain ⟨g4, hg4⟩ : ∃ g4, g4 = w3.heap.size := ⟨_, rfl⟩
  have hl4_0 : w.heap.size < g4 := by rw [hg4]; exact (hE.here.1.1.1.2).lt
  have hl4_2 : g2 < g4 := by rw [hg4]; exact (hE.here.1.2).lt
  replace hE := hE.blk 24 #[.bool so, .slice Ao no co] (g := g4) hg4.symm
  generalize w3.alloc (.cells #[.bool so, .slice Ao no co] 24) = W4 at hE ⊢
  rw [← hg4]
  clear hg4
  go_wp2_with fail
  have hc : Calls Tryz.prog 60 #[.string ⟨#[50]⟩] _ (WOK 2 _) := parse_w (l := [50]) (z := 2) W4 (by decide) (numOK_digit 50 (by decide)) (by decide) (by decide) (by decide)
  refine hc.mono ?_
  clear hc
  rintro e w5 ⟨sy, Ay, ny, cy, rfl, hy, hb⟩
  replace hE := hE.step hb
  clear hb
  replace hE := hE.wv hy
  clear hy
  have hgl6 : w.heap.size ≤ g4 := by omega
  obtain ⟨x6_0, x6_1⟩ := (hE.here.1.2).c2
  obtain ⟨f6_0, f6_1⟩ := hE.here.1.2.f2
  replace hE := (((((((Env.again (bel2 hE.bel hgl6 (.bool sy) (.slice Ay ny cy))).blkI ((hE.here.1.1.1.1.1.2).far2 (R := g4) (by omega) (.bool sy) (.slice Ay ny cy))).wv ((hE.here.1.1.1.1.2).sep2 hE.here.1.2 rfl (.bool sy) (.slice Ay ny cy) rfl)).blkI ((hE.here.1.1.1.2).far2 (R := g4) (by omega) (.bool sy) (.slice Ay ny cy))).wv ((hE.here.1.1.2).sep2 hE.here.1.2 rfl (.bool sy) (.slice Ay ny cy) rfl)).blkI ((hE.here.1.2).s2 (.bool sy) (.slice Ay ny cy))).wv ((hE.here.2).sep2 hE.here.1.2 rfl (.bool sy) (.slice Ay ny cy) rfl))
  go_upto_region 6 with (fail)
  clear x6_0 x6_1 f6_0 f6_1 hgl6
  generalize ((w5.setCell ⟨g4, 0, none⟩ (.bool sy)).setCell ⟨g4, 1, none⟩ (.slice Ay ny cy)) = W6 at hE ⊢
  go_upto_region 10 with (fail)
  obtain ⟨k7, k8⟩ := (hE.here.1.1.1.2).c2
  obtain ⟨k9, k10⟩ := (hE.here.1.2).c2
  go_upto_region 11 with (fail)
  clear k7 k8 k9 k10
  obtain ⟨g11, hg11⟩ : ∃ g11, g11 = W6.heap.size := ⟨_, rfl⟩
  have hl11_0 : w.heap.size < g11 := by rw [hg11]; exact (hE.here.1.1.1.1.1.2).lt
  have hl11_2 : g2 < g11 := by rw [hg11]; exact (hE.here.1.1.1.2).lt
  have hl11_4 : g4 < g11 := by rw [hg11]; exact (hE.here.1.2).lt
  replace hE := hE.blk 63 #[.bool sx, .slice Ax nx cx, .bool sy, .slice Ay ny cy] (g := g11) hg11.symm
  generalize W6.alloc (.cells #[.bool sx, .slice Ax nx cx, .bool sy, .slice Ay ny cy] 63) = W11 at hE ⊢
  rw [← hg11]
  clear hg11
  obtain ⟨k12, k13, k14, k15⟩ := (hE.here.2).c4
  go_wp2_with fail
  refine (flong_r sx sy Ax Ay nx ny cx cy _ false (by rw [(hE.here.1.1.1.1.1.2).len, (hE.here.1.2).len]; decide)).mono ?_
  clear k12 k13 k14 k15
  rintro e w8 ⟨rfl, hb⟩
  replace hE := hE.step hb
  clear hb
  obtain ⟨k16, k17, k18, k19⟩ := (hE.here.2).c4
  go_wp2_with fail
  have hx := hE.here.1.1.1.1.1.2
  have hy := hE.here.1.2
  have hok : okF sx nx (dgt b16 0) sy ny (dgt b16 2) = false := by rw [hx.sgn, hy.sgn, hx.len, hy.len]; decide +kernel
  have hrd : FRd w8 Ax nx (dgt b16 0) Ay ny (dgt b16 2) := ⟨by have := hx.2.2; unfold Num16 at this; rw [← hx.2.1] at this; exact this, by have := hy.2.2; unfold Num16 at this; rw [← hy.2.1] at this; exact this, fun j _ => dgt16_lt _ j, fun j _ => dgt16_lt _ j⟩
  have l1 : nx ≤ 1000000 := by rw [hx.len]; decide
  have l2 : ny ≤ 1000000 := by rw [hy.len]; decide
  refine (ftvalid_r sx sy Ax Ay nx ny cx cy _ _ _ hrd l1 l2 false hok).mono ?_
  clear k16 k17 k18 k19
  clear hx hy hok hrd l1 l2
  rintro e w9 ⟨rfl, hb⟩
  replace hE := hE.step hb
  clear hb
  obtain ⟨k20, k21, k22, k23⟩ := (hE.here.1.1.1.1.1.1.2).c4
  have z0 := (hE.here.1.1.1.1.1.1.2).frozen 0
  have z1 := (hE.here.1.1.1.1.1.1.2).frozen 1
  have z2 := (hE.here.1.1.1.1.1.1.2).frozen 2
  have z3 := (hE.here.1.1.1.1.1.1.2).frozen 3
  have hbl := bel4 hE.bel (Nat.le_refl _) (.bool false) (.slice none 0 0) (.bool false) (.slice none 0 0)
  have hB := (hE.here.1.1.1.1.1.1.2).s4 (.bool false) (.slice none 0 0) (.bool false) (.slice none 0 0)
  clear hE
  go_wp2_with fail
  obtain ⟨y0, y1, y2, y3⟩ := hB.c4
  refine bodyPost_ret (v := .tuple #[.agg #[.bool false, .slice none 0 0, .bool false, .slice none 0 0], .int .i64 21]) (by simp [results, Tryz.results24, go_sem, y0, y1, y2, y3]) rfl ?_
  exact ⟨rfl, hbl⟩
end Go.Proofs.YtifikcemcflgjaaGreatDoor
namespace Go.Proofs.YtifikcemcflgjaaGreatDoor
open Go.RowKit

set_option linter.unusedSimpArgs false in
set_option maxRecDepth 100000 in
set_option maxHeartbeats 4000000 in
theorem fdiv_zero {a b : Rat} {sa ta sb tb : Bool} {Aa Ba Ab Bb : Option Addr} {na ca ma da nb cb mb db : Nat} {w : World} (ha : FV w a sa Aa na ta Ba ma) (hb : FV w b sb Ab nb tb Bb mb) (la : fl a ≤ 256) (lb : fl b ≤ 256) (hb0 : b.num = 0) :
    Calls Tryz.prog 12 #[.agg #[.bool sa, .slice Aa na ca, .bool ta, .slice Ba ma da], .agg #[.bool sb, .slice Ab nb cb, .bool tb, .slice Bb mb db]] w (FErr 20 w) := by
  have hE := ((((Env.start w).fv ha).fv hb).blk 26 #[.bool sa, .slice Aa na ca, .bool ta, .slice Ba ma da] (g := w.heap.size) rfl).blk 26 #[.bool sb, .slice Ab nb cb, .bool tb, .slice Bb mb db] (g := w.heap.size + 1) (by simp)
  have hE := hE.blk 26 #[.bool false, .slice none 0 0, .bool false, .slice none 0 0] (g := w.heap.size + 1 + 1) (by simp)
  obtain ⟨W0, hW0⟩ : ∃ W0, W0 = (((w.alloc (.cells #[.bool sa, .slice Aa na ca, .bool ta, .slice Ba ma da] 26)).alloc (.cells #[.bool sb, .slice Ab nb cb, .bool tb, .slice Bb mb db] 26)).alloc (.cells #[.bool false, .slice none 0 0, .bool false, .slice none 0 0] 26)) := ⟨_, rfl⟩
  rw [← hW0] at hE
  have HW0 := Lib.hid hW0
  clear hW0
  go_enter Tryz.func12, Tryz.ntmps12
  go_upto_region 1 with (fail)
  rw [← HW0.out]
  obtain ⟨k1, k2, k3, k4⟩ := (hE.here.1.1.2).c4
  obtain ⟨k5, k6, k7, k8⟩ := (hE.here.1.2).c4
  go_wp2_with fail
  have hc := fallValid_v (c := ca) (d := da) (c2 := cb) (d2 := db) hE.here.1.1.1.1.2 hE.here.1.1.1.2 la lb
  refine hc.mono ?_
  clear hc
  clear k1 k2 k3 k4 k5 k6 k7 k8
  rintro e w9 ⟨rfl, hb⟩
  replace hE := hE.step hb
  clear hb
  obtain ⟨k10, k11, k12, k13⟩ := (hE.here.1.2).c4
  go_wp2_with fail
  have hc := ftzero_v (c := cb) (d := db) hE.here.1.1.1.2 true (decide_eq_true hb0)
  refine hc.mono ?_
  clear hc
  clear k10 k11 k12 k13
  rintro e w14 ⟨rfl, hb⟩
  replace hE := hE.step hb
  clear hb
  go_upto_region 4 with (fail)
  have hRl : w.heap.size ≤ w.heap.size + 1 + 1 := by omega
  have hB := (hE.here.2).s4 (.bool false) (.slice none 0 0) (.bool false) (.slice none 0 0)
  have hBel := bel4 hE.bel hRl (.bool false) (.slice none 0 0) (.bool false) (.slice none 0 0)
  obtain ⟨WW, hWW⟩ : ∃ x, x = (((w14.setCell ⟨w.heap.size + 1 + 1, 0, none⟩ (.bool false)).setCell ⟨w.heap.size + 1 + 1, 1, none⟩ (.slice none 0 0)).setCell ⟨w.heap.size + 1 + 1, 2, none⟩ (.bool false)).setCell ⟨w.heap.size + 1 + 1, 3, none⟩ (.slice none 0 0) := ⟨_, rfl⟩
  rw [← hWW] at hB hBel
  obtain ⟨x0, x1, x2, x3⟩ := (hE.here.2).c4
  obtain ⟨fz0, fz1, fz2, fz3⟩ := hE.here.2.f4
  have HWW := Lib.hid hWW
  clear hWW
  go_wp2_with fail
  clear x0 x1 x2 x3
  rw [← HWW.out]
  obtain ⟨y0, y1, y2, y3⟩ := hB.c4
  refine bodyPost_ret (v := .tuple #[.agg #[.bool false, .slice none 0 0, .bool false, .slice none 0 0], .int .i64 20]) (by simp [results, Tryz.results12, go_sem, y0, y1, y2, y3]) rfl ?_
  exact ⟨rfl, hBel⟩
end Go.Proofs.YtifikcemcflgjaaGreatDoor
namespace Go.Proofs.YtifikcemcflgjaaGreatDoor
open Go.RowKit

theorem wint_v {z : Int} {s : Bool} {A : Option Addr} {n c : Nat} {w : World} (ha : WV w z s A n) (la : n ≤ 1024) :
    Calls Tryz.prog 54 #[.agg #[.bool s, .slice A n c]] w fun e w' => ∃ r k, e = .returned (.tuple #[.int .i64 r, .int .i64 k]) ∧ IntR z r k ∧ Below w.heap.size w w' := by
  obtain ⟨rfl, rfl, hA⟩ := ha
  by_cases h4 : ln b16 z.natAbs ≤ 4
  · have h := int_walk (decide (z < 0)) A (ln b16 z.natAbs) c (dgt b16 z.natAbs) w hA (fun i => dgt16_lt _ i) (okW_num la) h4
    rw [vs_dgt_ln b16_two, toI_int] at h
    exact h
  · refine (int_long (decide (z < 0)) A (ln b16 z.natAbs) c (dgt b16 z.natAbs) w hA (fun i _ => dgt16_lt _ i) (by omega) (okW_num la) (by omega)).mono ?_
    rintro e w' ⟨rfl, hb⟩
    have h5 : ¬ z.natAbs < b16 ^ 4 := fun h => h4 ((ln_le b16_two).2 h)
    have h6 : b16 ^ 4 = 18446744073709551616 := rfl
    refine ⟨0, 3, rfl, .inr ⟨?_, rfl, rfl⟩, hb⟩
    unfold fits
    by_cases h7 : -9223372036854775808 ≤ z
    · rw [decide_eq_false (show ¬ z ≤ 9223372036854775807 by omega), Bool.and_false]
    · rw [decide_eq_false h7, Bool.false_and]
/-- What frac.Int returns. -/
def FIntR (a : Rat) (r k : Int) : Prop := ((a.den : Int) = 1 ∧ IntR a.num r k) ∨ (¬ (a.den : Int) = 1 ∧ r = 0 ∧ k = 22)
set_option linter.unusedSimpArgs false in
set_option maxRecDepth 100000 in
set_option maxHeartbeats 2000000 in
theorem fint_v {a : Rat} {sa ta : Bool} {Aa Ba : Option Addr} {na ca ma da : Nat} {w : World} (ha : FV w a sa Aa na ta Ba ma) (la : fl a ≤ 256) :
    Calls Tryz.prog 19 #[.agg #[.bool sa, .slice Aa na ca, .bool ta, .slice Ba ma da]] w (fun e w' => ∃ r k, e = .returned (.tuple #[.int .i64 r, .int .i64 k]) ∧ FIntR a r k ∧ Below w.heap.size w w') := by
  have hE := ((Env.start w).fv ha).blk 26 #[.bool sa, .slice Aa na ca, .bool ta, .slice Ba ma da] (g := w.heap.size) rfl
  obtain ⟨W0, hW0⟩ : ∃ W0, W0 = (w.alloc (.cells #[.bool sa, .slice Aa na ca, .bool ta, .slice Ba ma da] 26)) := ⟨_, rfl⟩
  rw [← hW0] at hE
  have HW0 := Lib.hid hW0
  clear hW0
  go_enter Tryz.func19, Tryz.ntmps19
  go_upto_region 1 with (fail)
  rw [← HW0.out]
  obtain ⟨ha1, ha2⟩ := ha.ln la
  obtain ⟨qa1, qa2⟩ := fv_lens ha la
  obtain ⟨k1, k2, k3, k4⟩ := (hE.here.2).c4
  go_wp2_with fail
  have hc := fvalid_v0 (c := ca) (d := da) hE.here.1.2 la
  refine hc.mono ?_
  clear hc
  clear k1 k2 k3 k4
  rintro e w5 ⟨rfl, hb⟩
  replace hE := hE.step hb
  clear hb
  by_cases h1 : (a.den : Int) = 1
  · have hd : decide ((a.den : Int) = 1) = true := decide_eq_true h1
    obtain ⟨k6, k7, k8, k9⟩ := (hE.here.2).c4
    go_wp2_with fail
    have hc := fintegral_v (s := sa) (A := Aa) (n := na) (c := ca) (d := da) (hE.here.1.2).2 (by omega)
    rw [hd] at hc
    refine hc.mono ?_
    clear hc
    clear k6 k7 k8 k9
    rintro e w10 ⟨rfl, hb⟩
    replace hE := hE.step hb
    clear hb
    obtain ⟨k11, k12, k13, k14⟩ := (hE.here.2).c4
    go_wp2_with fail
    refine (wint_v (c := ca) (hE.here.1.2).1 (by omega)).mono ?_
    clear k11 k12 k13 k14
    rintro e w9 ⟨r, k, rfl, hr, hb⟩
    replace hE := hE.step hb
    clear hb
    go_wp2_with fail
    refine bodyPost_ret (v := .tuple #[.int .i64 r, .int .i64 k]) (by simp [results, Tryz.results19, go_sem]) rfl ?_
    exact ⟨r, k, rfl, .inl ⟨h1, hr⟩, hE.bel⟩
  · have hd : decide ((a.den : Int) = 1) = false := decide_eq_false h1
    obtain ⟨k15, k16, k17, k18⟩ := (hE.here.2).c4
    go_wp2_with fail
    have hc := fintegral_v (s := sa) (A := Aa) (n := na) (c := ca) (d := da) (hE.here.1.2).2 (by omega)
    rw [hd] at hc
    refine hc.mono ?_
    clear hc
    clear k15 k16 k17 k18
    rintro e w19 ⟨rfl, hb⟩
    replace hE := hE.step hb
    clear hb
    go_wp2_with fail
    refine bodyPost_ret (v := .tuple #[.int .i64 0, .int .i64 22]) (by simp [results, Tryz.results19, go_sem]) rfl ?_
    exact ⟨0, 22, rfl, .inr ⟨h1, rfl, rfl⟩, hE.bel⟩
end Go.Proofs.YtifikcemcflgjaaGreatDoor
namespace Go.Proofs.YtifikcemcflgjaaGreatDoor
open Go.RowKit

def floorQ (a : Rat) : Int := a.num.fdiv (a.den : Int)
theorem floorQ_mul (a : Rat) : floorQ a * (a.den : Int) ≤ a.num ∧ a.num < (floorQ a + 1) * (a.den : Int) ∧ (a.num.fmod (a.den : Int) = 0 ↔ floorQ a * (a.den : Int) = a.num) := by
  have hp := den_posZ a
  have h1 := Int.fmod_nonneg_of_pos a.num hp
  have h2 := Int.fmod_lt_of_pos a.num hp
  have h3 := Int.fmod_add_mul_fdiv a.num (a.den : Int)
  unfold floorQ
  have h4 : a.num.fdiv (a.den : Int) * (a.den : Int) = (a.den : Int) * a.num.fdiv (a.den : Int) := Int.mul_comm _ _
  have h5 : (a.num.fdiv (a.den : Int) + 1) * (a.den : Int) = a.num.fdiv (a.den : Int) * (a.den : Int) + (a.den : Int) := by rw [Int.add_mul, Int.one_mul]
  omega
theorem int_num (z : Int) : ((z : Int) : Rat).num = z ∧ ((z : Int) : Rat).den = 1 := ⟨Rat.num_intCast z, Rat.den_intCast z⟩
theorem z_le {z : Int} {a : Rat} : ((z : Int) : Rat) ≤ a ↔ z * (a.den : Int) ≤ a.num := by
  rw [Rat.le_iff, (int_num z).1, (int_num z).2]; simp
theorem lt_z {z : Int} {a : Rat} : a < ((z : Int) : Rat) ↔ a.num < z * (a.den : Int) := by
  rw [Rat.lt_iff, (int_num z).1, (int_num z).2]; simp
theorem z_eq {z : Int} {a : Rat} : ((z : Int) : Rat) = a ↔ z * (a.den : Int) = a.num := by
  rw [Rat.eq_iff_mul_eq_mul, (int_num z).1, (int_num z).2]; simp
theorem floorQ_le (a : Rat) : ((floorQ a : Int) : Rat) ≤ a := z_le.2 (floorQ_mul a).1
theorem floorQ_lt (a : Rat) : a < ((floorQ a + 1 : Int) : Rat) := lt_z.2 (floorQ_mul a).2.1
theorem floorQ_int {a : Rat} : (a.den : Int) = 1 ↔ ((floorQ a : Int) : Rat) = a := by
  constructor
  · intro h
    rw [z_eq]
    have := floorQ_mul a
    rw [h] at this ⊢
    omega
  · intro h
    have := (int_num (floorQ a)).2
    rw [h] at this
    omega
theorem ceilQ_val (a : Rat) : ceilQ a = if (a.den : Int) = 1 then floorQ a else floorQ a + 1 := by
  unfold ceilQ
  have h := (floorQ_mul a).2.2
  rw [← z_eq, ← floorQ_int] at h
  by_cases h1 : (a.den : Int) = 1
  · rw [if_pos (h.2 h1), if_pos h1]; rfl
  · rw [if_neg (fun x => h1 (h.1 x)), if_neg h1]; rfl
theorem floorQ_uniq {a : Rat} {z : Int} (h1 : ((z : Int) : Rat) ≤ a) (h2 : a < ((z + 1 : Int) : Rat)) : floorQ a = z := by
  have h3 := floorQ_le a
  have h4 := floorQ_lt a
  have h5 : ((z : Int) : Rat) < ((floorQ a + 1 : Int) : Rat) := by grind
  have h6 : ((floorQ a : Int) : Rat) < ((z + 1 : Int) : Rat) := by grind
  rw [Rat.intCast_lt_intCast] at h5 h6
  omega
theorem ceil_floor (a : Rat) : ceilQ a + floorQ (-a) = 0 := by
  rw [ceilQ_val]
  have h1 := floorQ_le a
  have h2 := floorQ_lt a
  have h3 := floorQ_int (a := a)
  by_cases h : (a.den : Int) = 1
  · rw [if_pos h]
    have e := h3.1 h
    rw [floorQ_uniq (a := -a) (z := -floorQ a)]
    · omega
    · rw [Rat.intCast_neg, e]; grind
    · rw [Rat.intCast_add, Rat.intCast_neg, e]; grind
  · rw [if_neg h]
    have hne : ¬ ((floorQ a : Int) : Rat) = a := fun x => h (h3.2 x)
    rw [floorQ_uniq (a := -a) (z := -(floorQ a + 1))]
    · omega
    · rw [Rat.intCast_neg]; grind
    · rw [show (-(floorQ a + 1) + 1 : Int) = -floorQ a by omega, Rat.intCast_neg]; grind
end Go.Proofs.YtifikcemcflgjaaGreatDoor
namespace Go.Proofs.YtifikcemcflgjaaGreatDoor
open Go.RowKit

/-- The call returned no number, and false. -/
def WF (w : World) (e : Ending) (w' : World) : Prop := e = .returned (.tuple #[.agg #[.bool false, .slice none 0 0], .bool false]) ∧ Below w.heap.size w w'
set_option linter.unusedSimpArgs false in
set_option maxRecDepth 100000 in
set_option maxHeartbeats 8000000 in
theorem fpower_long {a : Int} {sa : Bool} {Aa : Option Addr} {na ca : Nat} {w : World} (ha : WV w a sa Aa na) (n : Nat) (hn : n ≤ 18446744073709551615) (hl : 256 < ln b16 (a ^ n).natAbs) (la : na ≤ 256) :
    Calls Tryz.prog 47 #[.agg #[.bool sa, .slice Aa na ca], .int .u64 (n : Int)] w (WF w) := by
  have ha2 : 2 ≤ a.natAbs := by
    rcases Nat.lt_or_ge a.natAbs 2 with h | h
    · exfalso
      have h1 : (a ^ n).natAbs ≤ 1 := by
        rw [Int.natAbs_pow]
        exact Nat.le_trans (Nat.pow_le_pow_left (show a.natAbs ≤ 1 by omega) n) (by rw [Nat.one_pow]; exact Nat.le_refl _)
      have h2 := Nat.le_trans (ln_mono b16_two h1) (show ln b16 1 ≤ 1 by decide)
      omega
    · exact h
  have hp : 0 < na := by rw [ha.len]; exact (ln_pos b16_two).2 (by omega)
  by_cases hna : na = 1
  · skip
    obtain rfl : na = 1 := hna
    obtain ⟨b, o, rfl, hbl, hcell⟩ := limb_one ha
    have t3 : (((a.natAbs : Nat) : Int) == 1) = false := beq_eq_false_iff_ne.2 (by omega)
    obtain ⟨d, hd⟩ : ∃ d, d = ((a.natAbs : Nat) : Int) := ⟨_, rfl⟩
    rw [← hd] at t3 hcell
    clear hd
    have hE := (((Env.start w).wv ha).at_ hbl hcell).blk 24 #[.bool sa, .slice (some ⟨b, o, none⟩) 1 ca] (g := w.heap.size) rfl
    have hE := hE.blk 24 #[.bool false, .slice none 0 0] (g := w.heap.size + 1) (by simp)
    obtain ⟨W0, hW0⟩ : ∃ W0, W0 = ((w.alloc (.cells #[.bool sa, .slice (some ⟨b, o, none⟩) 1 ca] 24)).alloc (.cells #[.bool false, .slice none 0 0] 24)) := ⟨_, rfl⟩
    rw [← hW0] at hE
    have HW0 := Lib.hid hW0
    clear hW0
    go_enter Tryz.func47, Tryz.ntmps47
    go_upto_region 1 with (fail)
    rw [← HW0.out]
    go_wp2_with fail
    have hc := fromInt_v 1 W0 (by decide) (by decide)
    refine hc.mono ?_
    clear hc
    rintro e w1 ⟨so, Ao, no, co, rfl, ho, hb⟩
    replace hE := hE.step hb
    clear hb
    replace hE := hE.wv ho
    clear ho
    go_upto_region 2 with (fail)
    obtain ⟨g2, hg2⟩ : ∃ g2, g2 = w1.heap.size := ⟨_, rfl⟩
    have hl2_2 : w.heap.size < g2 := by rw [hg2]; exact (hE.here.1.1.2).lt
    have hl2_3 : w.heap.size + 1 < g2 := by rw [hg2]; exact (hE.here.1.2).lt
    replace hE := hE.blk 24 #[.bool so, .slice Ao no co] (g := g2) hg2.symm
    generalize w1.alloc (.cells #[.bool so, .slice Ao no co] 24) = W2 at hE ⊢
    rw [← hg2]
    clear hg2
    obtain ⟨k3, k4⟩ := (hE.here.1.1.1.2).c2
    obtain ⟨k5, k6⟩ := (hE.here.2).c2
    have k7 := (hE.here.1.1.1.1.2).2
    go_upto_region 8 with (fail)
    clear k3 k4 k5 k6 k7
    obtain ⟨g8, hg8⟩ : ∃ g8, g8 = W2.heap.size := ⟨_, rfl⟩
    have hl8_2 : w.heap.size < g8 := by rw [hg8]; exact (hE.here.1.1.1.2).lt
    have hl8_3 : w.heap.size + 1 < g8 := by rw [hg8]; exact (hE.here.1.1.2).lt
    have hl8_5 : g2 < g8 := by rw [hg8]; exact (hE.here.2).lt
    replace hE := hE.blk 24 #[.bool so, .slice Ao no co] (g := g8) hg8.symm
    generalize W2.alloc (.cells #[.bool so, .slice Ao no co] 24) = W8 at hE ⊢
    rw [← hg8]
    clear hg8
    have hGl : w.heap.size + 1 < g8 := by omega
    go_wp2_with fail
    go_loopw [8] (fun x wr => ∃ i : Nat, ∃ sv Av nv cv, i ≤ 64 ∧ x = .int .i64 ((i : Int) - 1) ∧ Hid (ln b16 (a ^ (n / 2 ^ i)).natAbs ≤ 256) ∧ Env w (fun V => (((((True ∧ WV V a sa (some ⟨b, o, none⟩) 1) ∧ Blk 24 (w.heap.size) #[.bool sa, .slice (some ⟨b, o, none⟩) 1 ca] V) ∧ Blk 24 (w.heap.size + 1) #[.bool false, .slice none 0 0] V) ∧ WV V (a ^ (n / 2 ^ i)) sv Av nv) ∧ Blk 24 (g8) #[.bool sv, .slice Av nv cv] V)) wr) (fun x _ => (intOf x + 1).toNat)
    case atStart =>
      have hv := hE.here.1.1.2
      have h64 : a ^ (n / 2 ^ 64) = 1 := by rw [Nat.div_eq_of_lt (by omega), Int.pow_zero]
      rw [← h64] at hv
      exact ⟨64, so, Ao, no, co, Nat.le_refl _, rfl, Lib.hid (by rw [h64]; decide), ((((Env.again hE.bel).wv (hE.here.1.1.1.1.1.1.2)).blkI (hE.here.1.1.1.1.2)).blkI (hE.here.1.1.1.2)).wv hv |>.blkI (hE.here.2)⟩
    case round =>
      clear hE
      obtain ⟨i, sv, Av, nv, cv, hi, rfl, HI, hE⟩ := hrel
      by_cases h0 : i = 0
      · exact absurd HI.out (by rw [h0, Nat.pow_zero, Nat.div_one]; omega)
      · obtain ⟨j, rfl⟩ : ∃ j, i = j + 1 := ⟨i - 1, by omega⟩
        have e1 : ((j + 1 : Nat) : Int) - 1 = (j : Int) := by omega
        rw [e1]
        clear e1 h0
        have lv : nv ≤ 256 := by rw [(hE.here.1.2).len]; exact HI.out
        have l2 : ln b16 (a ^ (n / 2 ^ (j + 1)) * a ^ (n / 2 ^ (j + 1))).natAbs ≤ 256 + 256 := ln_mulZ HI.out HI.out
        obtain ⟨bit, hbit⟩ : ∃ b, b = n / 2 ^ j % 2 := ⟨_, rfl⟩
        have HB := Lib.hid hbit
        have HL := Lib.hid l2
        clear hbit l2
        obtain ⟨k9, k10⟩ := (hE.here.1.1.1.2).c2
        obtain ⟨k11, k12⟩ := (hE.here.2).c2
        go_wp2_with fail
        have hc := ftimes_v (ca := cv) (cb := cv) hE.here.1.2 hE.here.1.2 (Nat.le_trans lv (by decide)) (Nat.le_trans lv (by decide)) (Nat.le_trans HL.out (by decide))
        refine hc.mono ?_
        clear hc
        clear k9 k10 k11 k12
        rintro e w13 ⟨sq, Aq, nq, cq, rfl, hq, hb⟩
        replace hE := hE.step hb
        clear hb
        replace hE := hE.wv hq
        clear hq
        have hgl14 : w.heap.size ≤ g8 := by omega
        obtain ⟨x14_0, x14_1⟩ := (hE.here.1.2).c2
        obtain ⟨f14_0, f14_1⟩ := hE.here.1.2.f2
        replace hE := (((((((Env.again (bel2 hE.bel hgl14 (.bool sq) (.slice Aq nq cq))).wv ((hE.here.1.1.1.1.1.2).sep2 hE.here.1.2 rfl (.bool sq) (.slice Aq nq cq) rfl)).blkI ((hE.here.1.1.1.1.2).far2 (R := g8) (by omega) (.bool sq) (.slice Aq nq cq))).blkI ((hE.here.1.1.1.2).far2 (R := g8) (by omega) (.bool sq) (.slice Aq nq cq))).wv ((hE.here.1.1.2).sep2 hE.here.1.2 rfl (.bool sq) (.slice Aq nq cq) rfl)).blkI ((hE.here.1.2).s2 (.bool sq) (.slice Aq nq cq))).wv ((hE.here.2).sep2 hE.here.1.2 rfl (.bool sq) (.slice Aq nq cq) rfl))
        go_upto_region 12 with (fail)
        clear x14_0 x14_1 f14_0 f14_1 hgl14
        generalize ((w13.setCell ⟨g8, 0, none⟩ (.bool sq)).setCell ⟨g8, 1, none⟩ (.slice Aq nq cq)) = W14 at hE ⊢
        have hb2 : bit = 0 ∨ bit = 1 := by have := HB.out; omega
        have e9 : (n : Int) / 2 ^ j = ((n / 2 ^ j : Nat) : Int) := by simp
        have HE9 := Lib.hid e9
        clear e9
        rcases hb2 with rfl | rfl
        · have hb9 := HB.out
          have hd9 := Nat.div_le_self n (2 ^ j)
          have o3 : (bits .and .u64 ((n : Int) / 2 ^ j) 1 == 1) = false := by
            rw [HE9.out]
            generalize n / 2 ^ j = X at hb9 hd9 ⊢
            rw [Lib.u64_and1 _ (by omega) (by omega)]
            rw [beq_eq_false_iff_ne]; omega
          clear hd9
          clear hb9
          have lq : nq ≤ 512 := by rw [(hE.here.2).len]; exact HL.out
          go_upto_region 14 with (fail)
          have hv := hE.here.2
          rw [pow_step a n j HB.out.symm] at hv
          have hvl := hv.len
          have HV := Lib.hid hv
          have HVL := Lib.hid hvl
          clear hv hvl
          by_cases hlg : 256 < nq
          · have t8 : decide (256 < (nq : Int)) = true := decide_eq_true (by omega)
            have t9 : decide (256 < nq) = true := decide_eq_true hlg
            clear hlg
            have hz := zero_wv W14
            replace hE := hE.wv hz
            clear hz
            obtain ⟨k15, k16⟩ := (hE.here.1.1.2).c2
            have hRl : w.heap.size ≤ w.heap.size + 1 := by omega
            obtain ⟨WW, hWW, hB, hV, hBel⟩ := ret_whole hE hE.here.1.1.1.1.2 hRl hE.here.2 0
            obtain ⟨x0, x1⟩ := (hE.here.1.1.1.1.2).c2
            obtain ⟨fz0, fz1⟩ := hE.here.1.1.1.1.2.f2
            have HWW := Lib.hid hWW
            clear hWW
            go_wp2_with fail
            clear x0 x1
            rw [← HWW.out]
            obtain ⟨y0, y1⟩ := hB.c2
            refine bodyPost_ret (v := .tuple #[.agg #[.bool false, .slice none 0 0], .bool false]) (by simp [results, Tryz.results47, go_sem, y0, y1]) rfl ?_
            exact ⟨rfl, hBel⟩
          · have t8 : decide (256 < (nq : Int)) = false := decide_eq_false (by omega)
            have t9 : decide (256 < nq) = false := decide_eq_false hlg
            have HS := Lib.hid hlg
            clear hlg
            obtain ⟨k17, k18⟩ := (hE.here.1.2).c2
            go_wp2_with fail
            clear k17 k18
            go_roundw
            case rel => exact ⟨j, sq, Aq, nq, cq, by omega, by go_num, Lib.hid (by have h1 := HS.out; have h2 := HVL.out; omega), ((((Env.again hE.bel).wv (hE.here.1.1.1.1.1.2)).blkI (hE.here.1.1.1.1.2)).blkI (hE.here.1.1.1.2)).wv HV.out |>.blkI (hE.here.1.2)⟩
            case measure => (simp [intOf]) <;> omega
        · have hb9 := HB.out
          have hd9 := Nat.div_le_self n (2 ^ j)
          have o3 : (bits .and .u64 ((n : Int) / 2 ^ j) 1 == 1) = true := by
            rw [HE9.out]
            generalize n / 2 ^ j = X at hb9 hd9 ⊢
            rw [Lib.u64_and1 _ (by omega) (by omega)]
            rw [beq_iff_eq]; omega
          clear hd9
          clear hb9
          have lq : nq ≤ 512 := by rw [(hE.here.2).len]; exact HL.out
          obtain ⟨k19, k20⟩ := (hE.here.1.1.1.1.2).c2
          obtain ⟨k21, k22⟩ := (hE.here.1.2).c2
          go_wp2_with fail
          have hc := ftimes_v (ca := cq) (cb := ca) hE.here.2 hE.here.1.1.1.1.1.2 (Nat.le_trans lq (by decide)) (by omega) (Nat.le_trans (ln_mulZ HL.out (show ln b16 a.natAbs ≤ 256 by rw [← (hE.here.1.1.1.1.1.2).len]; omega)) (by decide))
          refine hc.mono ?_
          clear hc
          clear k19 k20 k21 k22
          rintro e w23 ⟨sp, Ap, np, cp, rfl, hp, hb⟩
          replace hE := hE.step hb
          clear hb
          replace hE := hE.wv hp
          clear hp
          have hgl24 : w.heap.size ≤ g8 := by omega
          obtain ⟨x24_0, x24_1⟩ := (hE.here.1.1.2).c2
          obtain ⟨f24_0, f24_1⟩ := hE.here.1.1.2.f2
          replace hE := ((((((((Env.again (bel2 hE.bel hgl24 (.bool sp) (.slice Ap np cp))).wv ((hE.here.1.1.1.1.1.1.2).sep2 hE.here.1.1.2 rfl (.bool sp) (.slice Ap np cp) rfl)).blkI ((hE.here.1.1.1.1.1.2).far2 (R := g8) (by omega) (.bool sp) (.slice Ap np cp))).blkI ((hE.here.1.1.1.1.2).far2 (R := g8) (by omega) (.bool sp) (.slice Ap np cp))).wv ((hE.here.1.1.1.2).sep2 hE.here.1.1.2 rfl (.bool sp) (.slice Ap np cp) rfl)).blkI ((hE.here.1.1.2).s2 (.bool sp) (.slice Ap np cp))).wv ((hE.here.1.2).sep2 hE.here.1.1.2 rfl (.bool sp) (.slice Ap np cp) rfl)).wv ((hE.here.2).sep2 hE.here.1.1.2 rfl (.bool sp) (.slice Ap np cp) rfl))
          go_upto_region 14 with (fail)
          clear x24_0 x24_1 f24_0 f24_1 hgl24
          generalize ((w23.setCell ⟨g8, 0, none⟩ (.bool sp)).setCell ⟨g8, 1, none⟩ (.slice Ap np cp)) = W24 at hE ⊢
          have hv := hE.here.2
          rw [pow_step1 a n j HB.out.symm] at hv
          have hvl := hv.len
          have HV := Lib.hid hv
          have HVL := Lib.hid hvl
          clear hv hvl
          by_cases hlg : 256 < np
          · have t8 : decide (256 < (np : Int)) = true := decide_eq_true (by omega)
            have t9 : decide (256 < np) = true := decide_eq_true hlg
            clear hlg
            have hz := zero_wv W24
            replace hE := hE.wv hz
            clear hz
            obtain ⟨k25, k26⟩ := (hE.here.1.1.1.2).c2
            have hRl : w.heap.size ≤ w.heap.size + 1 := by omega
            obtain ⟨WW, hWW, hB, hV, hBel⟩ := ret_whole hE hE.here.1.1.1.1.1.2 hRl hE.here.2 0
            obtain ⟨x0, x1⟩ := (hE.here.1.1.1.1.1.2).c2
            obtain ⟨fz0, fz1⟩ := hE.here.1.1.1.1.1.2.f2
            have HWW := Lib.hid hWW
            clear hWW
            go_wp2_with fail
            clear x0 x1
            rw [← HWW.out]
            obtain ⟨y0, y1⟩ := hB.c2
            refine bodyPost_ret (v := .tuple #[.agg #[.bool false, .slice none 0 0], .bool false]) (by simp [results, Tryz.results47, go_sem, y0, y1]) rfl ?_
            exact ⟨rfl, hBel⟩
          · have t8 : decide (256 < (np : Int)) = false := decide_eq_false (by omega)
            have t9 : decide (256 < np) = false := decide_eq_false hlg
            have HS := Lib.hid hlg
            clear hlg
            obtain ⟨k27, k28⟩ := (hE.here.1.1.2).c2
            go_wp2_with fail
            clear k27 k28
            go_roundw
            case rel => exact ⟨j, sp, Ap, np, cp, by omega, by go_num, Lib.hid (by have h1 := HS.out; have h2 := HVL.out; omega), ((((Env.again hE.bel).wv (hE.here.1.1.1.1.1.1.2)).blkI (hE.here.1.1.1.1.1.2)).blkI (hE.here.1.1.1.1.2)).wv HV.out |>.blkI (hE.here.1.1.2)⟩
            case measure => (simp [intOf]) <;> omega
  · skip
    have t1 : ((na : Int) == 0) = false := beq_eq_false_iff_ne.2 (by omega)
    have t2 : (na == 0) = false := beq_eq_false_iff_ne.2 (by omega)
    have t3 : ((na : Int) == 1) = false := beq_eq_false_iff_ne.2 (by omega)
    have t4 : (na == 1) = false := beq_eq_false_iff_ne.2 (by omega)
    have hE := ((Env.start w).wv ha).blk 24 #[.bool sa, .slice Aa na ca] (g := w.heap.size) rfl
    have hE := hE.blk 24 #[.bool false, .slice none 0 0] (g := w.heap.size + 1) (by simp)
    obtain ⟨W0, hW0⟩ : ∃ W0, W0 = ((w.alloc (.cells #[.bool sa, .slice Aa na ca] 24)).alloc (.cells #[.bool false, .slice none 0 0] 24)) := ⟨_, rfl⟩
    rw [← hW0] at hE
    have HW0 := Lib.hid hW0
    clear hW0
    go_enter Tryz.func47, Tryz.ntmps47
    go_upto_region 1 with (fail)
    rw [← HW0.out]
    go_wp2_with fail
    have hc := fromInt_v 1 W0 (by decide) (by decide)
    refine hc.mono ?_
    clear hc
    rintro e w1 ⟨so, Ao, no, co, rfl, ho, hb⟩
    replace hE := hE.step hb
    clear hb
    replace hE := hE.wv ho
    clear ho
    go_upto_region 2 with (fail)
    obtain ⟨g2, hg2⟩ : ∃ g2, g2 = w1.heap.size := ⟨_, rfl⟩
    have hl2_1 : w.heap.size < g2 := by rw [hg2]; exact (hE.here.1.1.2).lt
    have hl2_2 : w.heap.size + 1 < g2 := by rw [hg2]; exact (hE.here.1.2).lt
    replace hE := hE.blk 24 #[.bool so, .slice Ao no co] (g := g2) hg2.symm
    generalize w1.alloc (.cells #[.bool so, .slice Ao no co] 24) = W2 at hE ⊢
    rw [← hg2]
    clear hg2
    obtain ⟨k3, k4⟩ := (hE.here.1.1.1.2).c2
    obtain ⟨k5, k6⟩ := (hE.here.2).c2
    go_upto_region 8 with (fail)
    clear k3 k4 k5 k6
    obtain ⟨g7, hg7⟩ : ∃ g7, g7 = W2.heap.size := ⟨_, rfl⟩
    have hl7_1 : w.heap.size < g7 := by rw [hg7]; exact (hE.here.1.1.1.2).lt
    have hl7_2 : w.heap.size + 1 < g7 := by rw [hg7]; exact (hE.here.1.1.2).lt
    have hl7_4 : g2 < g7 := by rw [hg7]; exact (hE.here.2).lt
    replace hE := hE.blk 24 #[.bool so, .slice Ao no co] (g := g7) hg7.symm
    generalize W2.alloc (.cells #[.bool so, .slice Ao no co] 24) = W7 at hE ⊢
    rw [← hg7]
    clear hg7
    have hGl : w.heap.size + 1 < g7 := by omega
    go_wp2_with fail
    go_loopw [8] (fun x wr => ∃ i : Nat, ∃ sv Av nv cv, i ≤ 64 ∧ x = .int .i64 ((i : Int) - 1) ∧ Hid (ln b16 (a ^ (n / 2 ^ i)).natAbs ≤ 256) ∧ Env w (fun V => (((((True ∧ WV V a sa Aa na) ∧ Blk 24 (w.heap.size) #[.bool sa, .slice Aa na ca] V) ∧ Blk 24 (w.heap.size + 1) #[.bool false, .slice none 0 0] V) ∧ WV V (a ^ (n / 2 ^ i)) sv Av nv) ∧ Blk 24 (g7) #[.bool sv, .slice Av nv cv] V)) wr) (fun x _ => (intOf x + 1).toNat)
    case atStart =>
      have hv := hE.here.1.1.2
      have h64 : a ^ (n / 2 ^ 64) = 1 := by rw [Nat.div_eq_of_lt (by omega), Int.pow_zero]
      rw [← h64] at hv
      exact ⟨64, so, Ao, no, co, Nat.le_refl _, rfl, Lib.hid (by rw [h64]; decide), ((((Env.again hE.bel).wv (hE.here.1.1.1.1.1.2)).blkI (hE.here.1.1.1.1.2)).blkI (hE.here.1.1.1.2)).wv hv |>.blkI (hE.here.2)⟩
    case round =>
      clear hE
      obtain ⟨i, sv, Av, nv, cv, hi, rfl, HI, hE⟩ := hrel
      by_cases h0 : i = 0
      · exact absurd HI.out (by rw [h0, Nat.pow_zero, Nat.div_one]; omega)
      · obtain ⟨j, rfl⟩ : ∃ j, i = j + 1 := ⟨i - 1, by omega⟩
        have e1 : ((j + 1 : Nat) : Int) - 1 = (j : Int) := by omega
        rw [e1]
        clear e1 h0
        have lv : nv ≤ 256 := by rw [(hE.here.1.2).len]; exact HI.out
        have l2 : ln b16 (a ^ (n / 2 ^ (j + 1)) * a ^ (n / 2 ^ (j + 1))).natAbs ≤ 256 + 256 := ln_mulZ HI.out HI.out
        obtain ⟨bit, hbit⟩ : ∃ b, b = n / 2 ^ j % 2 := ⟨_, rfl⟩
        have HB := Lib.hid hbit
        have HL := Lib.hid l2
        clear hbit l2
        obtain ⟨k8, k9⟩ := (hE.here.1.1.1.2).c2
        obtain ⟨k10, k11⟩ := (hE.here.2).c2
        go_wp2_with fail
        have hc := ftimes_v (ca := cv) (cb := cv) hE.here.1.2 hE.here.1.2 (Nat.le_trans lv (by decide)) (Nat.le_trans lv (by decide)) (Nat.le_trans HL.out (by decide))
        refine hc.mono ?_
        clear hc
        clear k8 k9 k10 k11
        rintro e w12 ⟨sq, Aq, nq, cq, rfl, hq, hb⟩
        replace hE := hE.step hb
        clear hb
        replace hE := hE.wv hq
        clear hq
        have hgl13 : w.heap.size ≤ g7 := by omega
        obtain ⟨x13_0, x13_1⟩ := (hE.here.1.2).c2
        obtain ⟨f13_0, f13_1⟩ := hE.here.1.2.f2
        replace hE := (((((((Env.again (bel2 hE.bel hgl13 (.bool sq) (.slice Aq nq cq))).wv ((hE.here.1.1.1.1.1.2).sep2 hE.here.1.2 rfl (.bool sq) (.slice Aq nq cq) rfl)).blkI ((hE.here.1.1.1.1.2).far2 (R := g7) (by omega) (.bool sq) (.slice Aq nq cq))).blkI ((hE.here.1.1.1.2).far2 (R := g7) (by omega) (.bool sq) (.slice Aq nq cq))).wv ((hE.here.1.1.2).sep2 hE.here.1.2 rfl (.bool sq) (.slice Aq nq cq) rfl)).blkI ((hE.here.1.2).s2 (.bool sq) (.slice Aq nq cq))).wv ((hE.here.2).sep2 hE.here.1.2 rfl (.bool sq) (.slice Aq nq cq) rfl))
        go_upto_region 12 with (fail)
        clear x13_0 x13_1 f13_0 f13_1 hgl13
        generalize ((w12.setCell ⟨g7, 0, none⟩ (.bool sq)).setCell ⟨g7, 1, none⟩ (.slice Aq nq cq)) = W13 at hE ⊢
        have hb2 : bit = 0 ∨ bit = 1 := by have := HB.out; omega
        have e9 : (n : Int) / 2 ^ j = ((n / 2 ^ j : Nat) : Int) := by simp
        have HE9 := Lib.hid e9
        clear e9
        rcases hb2 with rfl | rfl
        · have hb9 := HB.out
          have hd9 := Nat.div_le_self n (2 ^ j)
          have o3 : (bits .and .u64 ((n : Int) / 2 ^ j) 1 == 1) = false := by
            rw [HE9.out]
            generalize n / 2 ^ j = X at hb9 hd9 ⊢
            rw [Lib.u64_and1 _ (by omega) (by omega)]
            rw [beq_eq_false_iff_ne]; omega
          clear hd9
          clear hb9
          have lq : nq ≤ 512 := by rw [(hE.here.2).len]; exact HL.out
          go_upto_region 14 with (fail)
          have hv := hE.here.2
          rw [pow_step a n j HB.out.symm] at hv
          have hvl := hv.len
          have HV := Lib.hid hv
          have HVL := Lib.hid hvl
          clear hv hvl
          by_cases hlg : 256 < nq
          · have t8 : decide (256 < (nq : Int)) = true := decide_eq_true (by omega)
            have t9 : decide (256 < nq) = true := decide_eq_true hlg
            clear hlg
            have hz := zero_wv W13
            replace hE := hE.wv hz
            clear hz
            obtain ⟨k14, k15⟩ := (hE.here.1.1.2).c2
            have hRl : w.heap.size ≤ w.heap.size + 1 := by omega
            obtain ⟨WW, hWW, hB, hV, hBel⟩ := ret_whole hE hE.here.1.1.1.1.2 hRl hE.here.2 0
            obtain ⟨x0, x1⟩ := (hE.here.1.1.1.1.2).c2
            obtain ⟨fz0, fz1⟩ := hE.here.1.1.1.1.2.f2
            have HWW := Lib.hid hWW
            clear hWW
            go_wp2_with fail
            clear x0 x1
            rw [← HWW.out]
            obtain ⟨y0, y1⟩ := hB.c2
            refine bodyPost_ret (v := .tuple #[.agg #[.bool false, .slice none 0 0], .bool false]) (by simp [results, Tryz.results47, go_sem, y0, y1]) rfl ?_
            exact ⟨rfl, hBel⟩
          · have t8 : decide (256 < (nq : Int)) = false := decide_eq_false (by omega)
            have t9 : decide (256 < nq) = false := decide_eq_false hlg
            have HS := Lib.hid hlg
            clear hlg
            obtain ⟨k16, k17⟩ := (hE.here.1.2).c2
            go_wp2_with fail
            clear k16 k17
            go_roundw
            case rel => exact ⟨j, sq, Aq, nq, cq, by omega, by go_num, Lib.hid (by have h1 := HS.out; have h2 := HVL.out; omega), ((((Env.again hE.bel).wv (hE.here.1.1.1.1.1.2)).blkI (hE.here.1.1.1.1.2)).blkI (hE.here.1.1.1.2)).wv HV.out |>.blkI (hE.here.1.2)⟩
            case measure => (simp [intOf]) <;> omega
        · have hb9 := HB.out
          have hd9 := Nat.div_le_self n (2 ^ j)
          have o3 : (bits .and .u64 ((n : Int) / 2 ^ j) 1 == 1) = true := by
            rw [HE9.out]
            generalize n / 2 ^ j = X at hb9 hd9 ⊢
            rw [Lib.u64_and1 _ (by omega) (by omega)]
            rw [beq_iff_eq]; omega
          clear hd9
          clear hb9
          have lq : nq ≤ 512 := by rw [(hE.here.2).len]; exact HL.out
          obtain ⟨k18, k19⟩ := (hE.here.1.1.1.1.2).c2
          obtain ⟨k20, k21⟩ := (hE.here.1.2).c2
          go_wp2_with fail
          have hc := ftimes_v (ca := cq) (cb := ca) hE.here.2 hE.here.1.1.1.1.1.2 (Nat.le_trans lq (by decide)) (by omega) (Nat.le_trans (ln_mulZ HL.out (show ln b16 a.natAbs ≤ 256 by rw [← (hE.here.1.1.1.1.1.2).len]; omega)) (by decide))
          refine hc.mono ?_
          clear hc
          clear k18 k19 k20 k21
          rintro e w22 ⟨sp, Ap, np, cp, rfl, hp, hb⟩
          replace hE := hE.step hb
          clear hb
          replace hE := hE.wv hp
          clear hp
          have hgl23 : w.heap.size ≤ g7 := by omega
          obtain ⟨x23_0, x23_1⟩ := (hE.here.1.1.2).c2
          obtain ⟨f23_0, f23_1⟩ := hE.here.1.1.2.f2
          replace hE := ((((((((Env.again (bel2 hE.bel hgl23 (.bool sp) (.slice Ap np cp))).wv ((hE.here.1.1.1.1.1.1.2).sep2 hE.here.1.1.2 rfl (.bool sp) (.slice Ap np cp) rfl)).blkI ((hE.here.1.1.1.1.1.2).far2 (R := g7) (by omega) (.bool sp) (.slice Ap np cp))).blkI ((hE.here.1.1.1.1.2).far2 (R := g7) (by omega) (.bool sp) (.slice Ap np cp))).wv ((hE.here.1.1.1.2).sep2 hE.here.1.1.2 rfl (.bool sp) (.slice Ap np cp) rfl)).blkI ((hE.here.1.1.2).s2 (.bool sp) (.slice Ap np cp))).wv ((hE.here.1.2).sep2 hE.here.1.1.2 rfl (.bool sp) (.slice Ap np cp) rfl)).wv ((hE.here.2).sep2 hE.here.1.1.2 rfl (.bool sp) (.slice Ap np cp) rfl))
          go_upto_region 14 with (fail)
          clear x23_0 x23_1 f23_0 f23_1 hgl23
          generalize ((w22.setCell ⟨g7, 0, none⟩ (.bool sp)).setCell ⟨g7, 1, none⟩ (.slice Ap np cp)) = W23 at hE ⊢
          have hv := hE.here.2
          rw [pow_step1 a n j HB.out.symm] at hv
          have hvl := hv.len
          have HV := Lib.hid hv
          have HVL := Lib.hid hvl
          clear hv hvl
          by_cases hlg : 256 < np
          · have t8 : decide (256 < (np : Int)) = true := decide_eq_true (by omega)
            have t9 : decide (256 < np) = true := decide_eq_true hlg
            clear hlg
            have hz := zero_wv W23
            replace hE := hE.wv hz
            clear hz
            obtain ⟨k24, k25⟩ := (hE.here.1.1.1.2).c2
            have hRl : w.heap.size ≤ w.heap.size + 1 := by omega
            obtain ⟨WW, hWW, hB, hV, hBel⟩ := ret_whole hE hE.here.1.1.1.1.1.2 hRl hE.here.2 0
            obtain ⟨x0, x1⟩ := (hE.here.1.1.1.1.1.2).c2
            obtain ⟨fz0, fz1⟩ := hE.here.1.1.1.1.1.2.f2
            have HWW := Lib.hid hWW
            clear hWW
            go_wp2_with fail
            clear x0 x1
            rw [← HWW.out]
            obtain ⟨y0, y1⟩ := hB.c2
            refine bodyPost_ret (v := .tuple #[.agg #[.bool false, .slice none 0 0], .bool false]) (by simp [results, Tryz.results47, go_sem, y0, y1]) rfl ?_
            exact ⟨rfl, hBel⟩
          · have t8 : decide (256 < (np : Int)) = false := decide_eq_false (by omega)
            have t9 : decide (256 < np) = false := decide_eq_false hlg
            have HS := Lib.hid hlg
            clear hlg
            obtain ⟨k26, k27⟩ := (hE.here.1.1.2).c2
            go_wp2_with fail
            clear k26 k27
            go_roundw
            case rel => exact ⟨j, sp, Ap, np, cp, by omega, by go_num, Lib.hid (by have h1 := HS.out; have h2 := HVL.out; omega), ((((Env.again hE.bel).wv (hE.here.1.1.1.1.1.1.2)).blkI (hE.here.1.1.1.1.1.2)).blkI (hE.here.1.1.1.1.2)).wv HV.out |>.blkI (hE.here.1.1.2)⟩
            case measure => (simp [intOf]) <;> omega
end Go.Proofs.YtifikcemcflgjaaGreatDoor
