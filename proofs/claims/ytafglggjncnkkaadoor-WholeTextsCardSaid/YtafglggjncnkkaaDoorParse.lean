/-
  The walk of whole.Parse.
-/
import Derived.Test.YtafglggjncnkkaaDoorV
import Derived.Test.YtafglggjncnkkaaDoorDecP
import Derived.Test.YtafglggjncnkkaaDoorTimesShort
import Derived.Deep.CutRange
import Derived.WalkSpells
namespace Go.Proofs.YtafglggjncnkkaaDoor
open Go.RowKit

def str (l : List UInt8) : ByteArray := ⟨l.toArray⟩
theorem str_size (l : List UInt8) : (str l).size = l.length := by simp [str, ByteArray.size]
theorem idx_at {l : List UInt8} {k : Nat} (h : k < l.length) (W : World) : (Instr.index 9 (.string (str l)) (.int .i64 (k : Int))).run Tryd.prog W = .ok (.int .u8 ((l[k].toNat : Nat) : Int)) W := by
  have hs := str_size l
  rw [run_index_string W 9 (str l) .i64 (k : Int) Tryd.underlying9, dif_pos (by omega)]
  congr 1
theorem slice_at {l : List UInt8} {k : Nat} (h : k ≤ l.length) (W : World) : (Instr.slice 9 (.string (str l)) (some (.int .i64 (k : Int))) none none).run Tryd.prog W = .ok (.string (str (l.drop k))) W := by
  have hs := str_size l
  rw [run_slice_string_l W 9 (str l) Tryd.underlying9 .i64 (k : Int) (by omega) (by omega)]
  have e : (str l).extract (k : Int).toNat (str l).size = str (l.drop k) := by
    apply ByteArray.ext
    rw [ByteArray.data_extract, hs, Int.toNat_natCast]
    simp [str, List.take_of_length_le]
  rw [e]
/-- Does a text open with a minus sign? -/
def negT (l : List UInt8) : Bool := l.head? == some 45
def bodyT (l : List UInt8) : List UInt8 := if negT l then l.drop 1 else l
def badHead (g : Bool) (d : List UInt8) : Bool := d.isEmpty || (d.head? == some 48 && (g || decide (1 < d.length)))
def allDg (d : List UInt8) (k : Nat) : Prop := ∀ i, i < k → ∀ c, d[i]? = some c → 48 ≤ c.toNat ∧ c.toNat ≤ 57
def numOK (l : List UInt8) : Prop := badHead (negT l) (bodyT l) = false ∧ allDg (bodyT l) (bodyT l).length
/-- What whole.Parse returns. -/
def ParseR (l : List UInt8) (w : World) (e : Ending) (w' : World) : Prop :=
  (¬ numOK l ∧ ErrW1 10 w e w') ∨ (numOK l ∧ 4933 < (bodyT l).length ∧ ErrW1 3 w e w') ∨ (numOK l ∧ (bodyT l).length ≤ 4933 ∧ RI w (toI (negT l) (pv (bodyT l))) e w')
def lenS : Value → Nat
  | .string s => s.size
  | _ => 0
theorem str_drop {l : List UInt8} {k : Nat} (_ : k ≤ l.length) : (str l).extract k l.length = str (l.drop k) := by
  have hs := str_size l
  apply ByteArray.ext
  rw [ByteArray.data_extract]
  simp [str, List.take_of_length_le]
theorem u8_eq (c d : UInt8) : (((c.toNat : Nat) : Int) == ((d.toNat : Nat) : Int)) = (c == d) := by
  by_cases h : c = d
  · subst h; simp
  · have h1 : c.toNat ≠ d.toNat := fun e => h (UInt8.toNat.inj e)
    rw [beq_eq_false_iff_ne.2 (show ((c.toNat : Nat) : Int) ≠ ((d.toNat : Nat) : Int) by omega), beq_eq_false_iff_ne.2 h]
theorem neg_cons (c : UInt8) (r : List UInt8) : negT (c :: r) = (c == 45) := by simp [negT]
theorem badHead_cons (g : Bool) (c : UInt8) (r : List UInt8) : badHead g (c :: r) = (c == 48 && (g || decide (0 < r.length))) := by simp [badHead]
set_option linter.unusedSimpArgs false in
set_option maxRecDepth 100000 in
set_option maxHeartbeats 4000000 in
theorem parse_walk (l : List UInt8) (w : World) (hl : l.length ≤ 1000000) : Calls Tryd.prog 22 #[.string (str l)] w (ParseR l w) := by
  have hb0 : Below w.heap.size w (w.alloc (.cells #[.bool false, .slice none 0 0] 24)) := (Below.refl _ w).alloc (Nat.le_refl _) _
  have hR0 := WholeAt.new w false (.slice none 0 0)
  obtain ⟨w0, hw0⟩ : ∃ w0, w0 = w.alloc (.cells #[.bool false, .slice none 0 0] 24) := ⟨_, rfl⟩
  rw [← hw0] at hb0 hR0
  have HW0 := Lib.hid hw0
  clear hw0
  have hs := str_size l
  go_enter Tryd.func22, Tryd.ntmps22
  go_upto_region 2 with (fail)
  rw [← HW0.out]
  go_cut [5] from 13 to 20 (fun v wx => v = .bool (negT l) ∧ wx = w0)
  case first =>
    by_cases h0 : l = []
    · subst h0
      go_wp2_with fail
      go_meet
      exact ⟨rfl, rfl⟩
    · have hp : 0 < l.length := List.length_pos_iff.2 h0
      have hi := idx_at (l := l) (k := 0) hp
      have t0 : (0 : Int) < (l.length : Int) := by omega
      obtain ⟨c, r, rfl⟩ := List.exists_cons_of_ne_nil h0
      go_wp2_with fail
      go_meet
      exact ⟨by rw [neg_cons, ← u8_eq]; rfl, rfl⟩
  case rest =>
  obtain ⟨rfl, rfl⟩ := hcut
  go_upto_if 21 with (fail)
  go_cut [4, 5] from 21 to 23 (fun v u wx => v = .string (str (bodyT l)) ∧ u = .bool (negT l) ∧ wx = wc)
  case first =>
    cases hn : negT l
    · go_wp2_with fail
      go_meet
      exact ⟨by unfold bodyT; rw [hn]; rfl, by rw [hn], rfl⟩
    · have hp : 1 ≤ l.length := by
        cases l with
        | nil => simp [negT] at hn
        | cons c r => simp
      have hsl := slice_at (l := l) (k := 1) hp
      have t1 : (1 : Int) ≤ (l.length : Int) := by omega
      go_wp2_with fail
      go_meet
      refine ⟨?_, by rw [hn], rfl⟩
      unfold bodyT
      rw [hn]
      first | rfl | exact congrArg Value.string (str_drop hp)
  case rest =>
  obtain ⟨rfl, rfl, rfl⟩ := hcut
  obtain ⟨d, hd⟩ : ∃ d, d = bodyT l := ⟨_, rfl⟩
  obtain ⟨g, hg⟩ : ∃ g, g = negT l := ⟨_, rfl⟩
  rw [← hd, ← hg]
  have hdl : d.length ≤ 1000000 := by
    rw [hd]; unfold bodyT
    split
    · rw [List.length_drop]; omega
    · exact hl
  have HD := Lib.hid hd
  have HG := Lib.hid hg
  clear hd hg hl hs
  have hs := str_size d
  obtain ⟨r0, r1⟩ := hR0.cells
  have g0 := hR0.frozen 0
  have g1 := hR0.frozen 1
  go_upto_region 5 with (fail)
  go_cut [39, 5] from 24 to 39 (fun v u wx => v = .bool (badHead g d) ∧ u = .bool g ∧ wx = wc)
  case first =>
    by_cases h0 : d = []
    · subst h0
      go_wp2_with fail
      go_meet
      exact ⟨rfl, rfl, rfl⟩
    · obtain ⟨c, r, rfl⟩ := List.exists_cons_of_ne_nil h0
      have hz : (str (c :: r))[0]'(by rw [str_size]; simp) = c := rfl
      have t0 : (0 : Int) < ((c :: r).length : Int) := by simp only [List.length_cons]; omega
      have t1 : ((r.length : Int) + 1 == 0) = false := beq_eq_false_iff_ne.2 (by omega)
      by_cases hc : c = 48
      · subst hc
        cases g
        · go_wp2_with fail
          go_meet
          exact ⟨by rw [badHead_cons, show ((48 : UInt8) == 48) = true from rfl, Bool.true_and, Bool.false_or]; exact congrArg Value.bool (decide_eq_decide.2 (by omega)), rfl, rfl⟩
        · go_wp2_with fail
          go_meet
          exact ⟨by rw [badHead_cons]; rfl, rfl, rfl⟩
      · have t2 : (((c.toNat : Nat) : Int) == 48) = false := (u8_eq c 48).trans (beq_eq_false_iff_ne.2 hc)
        go_wp2_with fail
        go_meet
        exact ⟨by rw [badHead_cons, beq_eq_false_iff_ne.2 hc, Bool.false_and], rfl, rfl⟩
  case rest =>
  obtain ⟨rfl, rfl, rfl⟩ := hcut
  cases hbad : badHead g d
  · go_wp2_with fail
    go_loopw [43] (fun i wr => ∃ k : Nat, k ≤ d.length ∧ i = .int .i64 (k : Int) ∧ Hid (allDg d k) ∧ wr = wc) (fun i _ => d.length - (intOf i).toNat)
    case atStart => exact ⟨0, Nat.zero_le _, rfl, Lib.hid (fun i hi => absurd hi (by omega)), rfl⟩
    case round =>
      obtain ⟨k, hk, rfl, hdg, rfl⟩ := hrel
      by_cases hlt : k < d.length
      · obtain ⟨c, hc⟩ : ∃ c, d[k] = c := ⟨_, rfl⟩
        have hix := fun W => idx_at (l := d) hlt W
        rw [hc] at hix
        have hz : (str d)[k]'(by rw [hs]; exact hlt) = c := hc
        have t0 : (k : Int) < (d.length : Int) := by omega
        by_cases h1 : 48 ≤ c.toNat
        · by_cases h2 : c.toNat ≤ 57
          · have t1 : decide (((c.toNat : Nat) : Int) < 48) = false := decide_eq_false (by omega)
            have t2 : decide ((57 : Int) < ((c.toNat : Nat) : Int)) = false := decide_eq_false (by omega)
            have n1 : ¬ c.toNat < 48 := by omega
            have n2 : ¬ 57 < c.toNat := by omega
            have n3 : decide (c.toNat < 48) = false := decide_eq_false n1
            have n4 : decide (57 < c.toNat) = false := decide_eq_false n2
            have hnext : allDg d (k + 1) := fun i hi x hx => by
              rcases Nat.lt_or_ge i k with h3 | h3
              · exact hdg.out i h3 x hx
              · obtain rfl : i = k := by omega
                rw [List.getElem?_eq_getElem hlt, hc] at hx
                obtain rfl := Option.some.inj hx
                exact ⟨h1, h2⟩
            have HN := Lib.hid hnext
            clear hnext
            go_wp2_with fail
            go_roundw
            case rel => exact ⟨k + 1, by omega, by go_num, HN, by first | trivial | rfl⟩
            case measure => simp [intOf]; omega
          · have n1 : ¬ c.toNat < 48 := by omega
            have t1 : decide (((c.toNat : Nat) : Int) < 48) = false := decide_eq_false (by omega)
            have t2 : decide ((57 : Int) < ((c.toNat : Nat) : Int)) = true := decide_eq_true (by omega)
            have hno : ¬ numOK l := fun h => by
              have h3 := h.2
              rw [← HD.out] at h3
              have h4 := h3 k hlt c (by rw [List.getElem?_eq_getElem hlt, hc])
              omega
            obtain ⟨hW, hbW⟩ := store_whole hR0 hb0 (Nat.le_refl _) false (.slice none 0 0)
            have HW := Lib.hid hW
            clear hW
            go_wp2_with fail
            have hW := HW.out
            clear HW
            generalize ((wr.setCell ⟨w.heap.size, 0, none⟩ (.bool false)).setCell ⟨w.heap.size, 1, none⟩ (.slice none 0 0)) = WW at *
            obtain ⟨y0, y1⟩ := hW.cells
            refine bodyPost_ret (v := .tuple #[.agg #[.bool false, .slice none 0 0], .int .i64 10]) (by simp [results, Tryd.results22, go_sem, y0, y1]) rfl ?_
            exact .inl ⟨hno, rfl, hbW⟩
        · have t1 : decide (((c.toNat : Nat) : Int) < 48) = true := decide_eq_true (by omega)
          have hno : ¬ numOK l := fun h => by
            have h3 := h.2
            rw [← HD.out] at h3
            have h4 := h3 k hlt c (by rw [List.getElem?_eq_getElem hlt, hc])
            omega
          obtain ⟨hW, hbW⟩ := store_whole hR0 hb0 (Nat.le_refl _) false (.slice none 0 0)
          have HW := Lib.hid hW
          clear hW
          go_wp2_with fail
          have hW := HW.out
          clear HW
          generalize ((wr.setCell ⟨w.heap.size, 0, none⟩ (.bool false)).setCell ⟨w.heap.size, 1, none⟩ (.slice none 0 0)) = WW at *
          obtain ⟨y0, y1⟩ := hW.cells
          refine bodyPost_ret (v := .tuple #[.agg #[.bool false, .slice none 0 0], .int .i64 10]) (by simp [results, Tryd.results22, go_sem, y0, y1]) rfl ?_
          exact .inl ⟨hno, rfl, hbW⟩
      · obtain rfl : k = d.length := by omega
        have hok : numOK l := by
          unfold numOK
          rw [← HD.out, ← HG.out]
          exact ⟨hbad, hdg.out⟩
        have HOK := Lib.hid hok
        clear hok
        by_cases h5 : d.length ≤ 4933
        · have t1 : decide ((4933 : Int) < (d.length : Int)) = false := decide_eq_false (by omega)
          have hdgs := hdg.out
          have HDG := Lib.hid hdgs
          clear hdgs hdg hlt
          go_wp2_with fail
          go_loopw [4, 7] (fun v y wx => ∃ (k : Nat) (A : Option Addr) (c : Nat), k ≤ d.length ∧ v = .string (str (d.drop k)) ∧ y = .slice A (ln b32 (pv (d.take k))) c ∧ Num32 wx A (pv (d.take k)) ∧ ln b32 (pv (d.take k)) ≤ c ∧ WholeAt wx w.heap.size false (.slice none 0 0) ∧ Below w.heap.size w wx) (fun v _ _ => lenS v)
          case atStart =>
            refine ⟨0, none, 0, Nat.zero_le _, by simp, ?_, ?_, ?_, hR0, hb0⟩
            · rw [List.take_zero, pv_nil, ln_zero]
            · rw [List.take_zero, pv_nil]; exact Num32.zero _ _
            · rw [List.take_zero, pv_nil, ln_zero]; exact Nat.le_refl _
          case round =>
            obtain ⟨k, A, cc, hk2, rfl, rfl, hn, hcc, hRx, hbx⟩ := hrel
            by_cases hlt2 : k < d.length
            · have hs2 := str_size (d.drop k)
              rw [List.length_drop] at hs2
              obtain ⟨m, hm⟩ : ∃ m, m = d.length - k := ⟨_, rfl⟩
              rw [← hm] at hs2
              have t2 : (0 : Int) < (m : Int) := by omega
              obtain ⟨cnt, hcnt⟩ : ∃ cnt, cnt = min 9 m := ⟨_, rfl⟩
              have hc9 : cnt ≤ 9 := by omega
              have hcm : cnt ≤ m := by omega
              have hcp : 0 < cnt := by omega
              have hmin : min (9 : Int) (m : Int) = (cnt : Int) := by omega
              have HM := Lib.hid hm
              clear hm hcnt
              go_wp2_with fail
              obtain ⟨e, he⟩ : ∃ e, e = d.drop k := ⟨_, rfl⟩
              rw [← he] at hs2 ⊢
              have hel : e.length = m := by rw [he, List.length_drop, HM.out]
              have hed : ∀ j, j < m → ∀ x, e[j]? = some x → 48 ≤ x.toNat ∧ x.toNat ≤ 57 := by
                intro j hj x hx
                rw [he, List.getElem?_drop] at hx
                exact HDG.out (k + j) (by have := HM.out; omega) x hx
              have HE := Lib.hid he
              clear he
              go_loopw [9, 10, 69] (fun x y i wy => ∃ j : Nat, j ≤ cnt ∧ i = .int .i64 (j : Int) ∧ x = .int .u32 ((10 ^ j : Nat) : Int) ∧ y = .int .u32 ((pv (e.take j) : Nat) : Int) ∧ wy = wr) (fun _ _ i _ => cnt - (intOf i).toNat)
              case atStart => exact ⟨0, Nat.zero_le _, rfl, rfl, by rw [List.take_zero]; rfl, rfl⟩
              case round =>
                obtain ⟨j, hj, rfl, rfl, rfl, rfl⟩ := hrel
                by_cases hj2 : j < cnt
                · have hje : j < e.length := by omega
                  obtain ⟨c, hc⟩ : ∃ c, e[j] = c := ⟨_, rfl⟩
                  have hc2 := hed j (by omega) c (by rw [List.getElem?_eq_getElem hje, hc])
                  have hix := fun W => idx_at (l := e) hje W
                  rw [hc] at hix
                  have t3 : (j : Int) < (cnt : Int) := by omega
                  have t4 : (j : Int) < (m : Int) := by omega
                  have hp10 : 10 ^ j ≤ 100000000 := Nat.pow_le_pow_right (n := 10) (by decide) (show j ≤ 8 by omega)
                  have htk : pv (e.take j) < 100000000 := by
                    have h6 := pv_lt (e.take j) (fun x hx => by
                      obtain ⟨i, hi, rfl⟩ := List.mem_take_iff_getElem.1 hx
                      exact (hed i (by omega) _ (List.getElem?_eq_getElem _)).2)
                    rw [List.length_take, Nat.min_eq_left (by omega)] at h6
                    omega
                  have hstep : pv (e.take (j + 1)) = pv (e.take j) * 10 + (c.toNat - 48) := by
                    rw [List.take_succ_eq_append_getElem hje, pv_snoc, hc]
                  have HST := Lib.hid hstep
                  obtain ⟨V, hV⟩ : ∃ V, V = pv (e.take j) := ⟨_, rfl⟩
                  rw [← hV] at htk ⊢
                  have HV := Lib.hid hV
                  obtain ⟨T, hT⟩ : ∃ T, T = 10 ^ j := ⟨_, rfl⟩
                  rw [← hT] at hp10 ⊢
                  have HT := Lib.hid hT
                  clear hstep hV hT
                  have o1 : IntKind.u32.wrap ((T : Int) * 10) = (T : Int) * 10 := by rw [IntKind.wrap_u32]; omega
                  have o2 : IntKind.u32.wrap ((V : Int) * 10) = (V : Int) * 10 := by rw [IntKind.wrap_u32]; omega
                  have o3 : IntKind.u8.wrap (((c.toNat : Nat) : Int) - 48) = ((c.toNat : Nat) : Int) - 48 := by rw [IntKind.wrap_u8]; omega
                  have o4 : IntKind.u32.wrap (((c.toNat : Nat) : Int) - 48) = ((c.toNat : Nat) : Int) - 48 := by rw [IntKind.wrap_u32]; omega
                  have o5 : IntKind.u32.wrap ((V : Int) * 10 + (((c.toNat : Nat) : Int) - 48)) = (V : Int) * 10 + (((c.toNat : Nat) : Int) - 48) := by rw [IntKind.wrap_u32]; omega
                  go_wp2_with fail
                  go_roundw
                  case rel => exact ⟨j + 1, by omega, by go_num, by rw [Nat.pow_succ, ← HT.out]; go_num, by rw [HST.out, ← HV.out]; congr 1; omega, by first | trivial | rfl⟩
                  case measure => simp [intOf]; omega
                · obtain rfl : j = cnt := by omega
                  have hxl : ln b32 (pv (d.take k)) ≤ 1000000 := by
                    have h6 := pv_lt (d.take k) (fun x hx => by
                      obtain ⟨i, hi, rfl⟩ := List.mem_take_iff_getElem.1 hx
                      exact (HDG.out i (by omega) _ (List.getElem?_eq_getElem _)).2)
                    have h7 : ln b32 (pv (d.take k)) ≤ (d.take k).length := (ln_le b32_two).2 (Nat.lt_of_lt_of_le h6 (Nat.pow_le_pow_left (by decide) _))
                    rw [List.length_take] at h7
                    omega
                  have hpl : pv (e.take j) < 4294967296 := by
                    have h6 := pv_lt (e.take j) (fun x hx => by
                      obtain ⟨i, hi, rfl⟩ := List.mem_take_iff_getElem.1 hx
                      exact (hed i (by omega) _ (List.getElem?_eq_getElem _)).2)
                    rw [List.length_take, Nat.min_eq_left (by omega)] at h6
                    have h8 : 10 ^ j ≤ 1000000000 := Nat.pow_le_pow_right (n := 10) (by decide) hc9
                    omega
                  have hFl : 10 ^ j < 4294967296 := by
                    have h8 : 10 ^ j ≤ 1000000000 := Nat.pow_le_pow_right (n := 10) (by decide) hc9
                    omega
                  have hval : pv (d.take (k + j)) = pv (d.take k) * 10 ^ j + pv (e.take j) := by
                    rw [List.take_add, ← HE.out, pv_append, List.length_take, Nat.min_eq_left (by omega)]
                  have hdr : e.drop j = d.drop (k + j) := by rw [HE.out, List.drop_drop]
                  have hsd := str_drop (l := e) (k := j) (by omega)
                  have hsl := fun W => slice_at (l := e) (k := j) (by omega) W
                  rw [hdr] at hsd hsl
                  rw [hel] at hsd
                  obtain ⟨F, hF⟩ : ∃ F, F = 10 ^ j := ⟨_, rfl⟩
                  obtain ⟨p, hp⟩ : ∃ p, p = pv (e.take j) := ⟨_, rfl⟩
                  obtain ⟨x, hx⟩ : ∃ x, x = pv (d.take k) := ⟨_, rfl⟩
                  rw [← hF] at hFl hval ⊢
                  rw [← hp] at hpl hval ⊢
                  rw [← hx] at hxl hval hn hcc ⊢
                  have HVAL := Lib.hid hval
                  clear hF hp hx hval hed
                  have t4 : (j : Int) ≤ (m : Int) := by omega
                  go_wp2_with fail
                  refine (timesShort_any A cc x F p wr hn hFl hpl hxl).mono ?_
                  rintro e2 w7 ⟨A7, c7, rfl, hc7, hn7, hb7⟩
                  go_wp2_with fail
                  go_roundw
                  case rel => exact ⟨k + j, A7, c7, by have := HM.out; omega, rfl, by rw [HVAL.out], by rw [HVAL.out]; exact hn7, by rw [HVAL.out]; exact hc7, hRx.below hb7 hRx.lt, hbx.trans (hb7.mono hbx.size)⟩
                  case measure =>
                    show (str (List.drop (k + j) d)).size < (str (List.drop k d)).size
                    rw [str_size, str_size, List.length_drop, List.length_drop]
                    omega
            · obtain rfl : k = d.length := by omega
              rw [List.take_length] at hn hcc ⊢
              rw [List.drop_length]
              have hs3 := str_size []
              have hxl : ln b32 (pv d) ≤ 1000000 := by
                have h6 := pv_lt d (fun x hx => by
                  obtain ⟨i, hi, rfl⟩ := List.mem_iff_getElem.1 hx
                  exact (HDG.out i hi _ (List.getElem?_eq_getElem _)).2)
                have h7 : ln b32 (pv d) ≤ d.length := (ln_le b32_two).2 (Nat.lt_of_lt_of_le h6 (Nat.pow_le_pow_left (by decide) _))
                omega
              go_wp2_with fail
              refine (result_any g A cc (pv d) wr hn hcc hxl).mono ?_
              rintro e2 w8 hri
              obtain ⟨s', A', n', c', kk, rfl, hv, hb8⟩ := hri.vals
              have hR8 := hRx.below hb8 hRx.lt
              have hbl8 := hbx.trans (hb8.mono hbx.size)
              obtain ⟨q0, q1⟩ := hR8.cells
              have g2 := hR8.frozen 0
              have g3 := hR8.frozen 1
              obtain ⟨hW, hbW⟩ := store_whole hR8 hbl8 (Nat.le_refl _) s' (.slice A' n' c')
              have hv2 := (hv.store hRx.lt s' (.slice A' n' c')).lower hbx.size
              have HW := Lib.hid hW
              have HV2 := Lib.hid hv2
              clear hv hri hW hv2
              go_wp2_with fail
              have hW := HW.out
              have hv2 := HV2.out
              clear HW HV2
              generalize ((w8.setCell ⟨w.heap.size, 0, none⟩ (.bool s')).setCell ⟨w.heap.size, 1, none⟩ (.slice A' n' c')) = WW at *
              obtain ⟨y0, y1⟩ := hW.cells
              refine bodyPost_ret (v := .tuple #[.agg #[.bool s', .slice A' n' c'], .int .i64 kk]) (by simp [results, Tryd.results22, go_sem, y0, y1]) rfl ?_
              refine .inr (.inr ⟨HOK.out, by rw [← HD.out]; exact h5, ?_⟩)
              rw [← HD.out, ← HG.out]
              exact hv2.ri hbW
        · have t1 : decide ((4933 : Int) < (d.length : Int)) = true := decide_eq_true (by omega)
          have hlong : 4933 < (bodyT l).length := by rw [← HD.out]; omega
          have HLO := Lib.hid hlong
          clear hlong
          obtain ⟨hW, hbW⟩ := store_whole hR0 hb0 (Nat.le_refl _) false (.slice none 0 0)
          have HW := Lib.hid hW
          clear hW
          go_wp2_with fail
          have hW := HW.out
          clear HW
          generalize ((wr.setCell ⟨w.heap.size, 0, none⟩ (.bool false)).setCell ⟨w.heap.size, 1, none⟩ (.slice none 0 0)) = WW at *
          obtain ⟨y0, y1⟩ := hW.cells
          refine bodyPost_ret (v := .tuple #[.agg #[.bool false, .slice none 0 0], .int .i64 3]) (by simp [results, Tryd.results22, go_sem, y0, y1]) rfl ?_
          exact .inr (.inl ⟨HOK.out, HLO.out, rfl, hbW⟩)
  · have hno : ¬ numOK l := fun h => by
      have h1 := h.1
      rw [← HD.out, ← HG.out, hbad] at h1
      cases h1
    obtain ⟨hW, hbW⟩ := store_whole hR0 hb0 (Nat.le_refl _) false (.slice none 0 0)
    have HW := Lib.hid hW
    clear hW
    go_wp2_with fail
    have hW := HW.out
    clear HW
    generalize ((wc.setCell ⟨w.heap.size, 0, none⟩ (.bool false)).setCell ⟨w.heap.size, 1, none⟩ (.slice none 0 0)) = WW at *
    obtain ⟨y0, y1⟩ := hW.cells
    refine bodyPost_ret (v := .tuple #[.agg #[.bool false, .slice none 0 0], .int .i64 10]) (by simp [results, Tryd.results22, go_sem, y0, y1]) rfl ?_
    exact .inl ⟨hno, rfl, hbW⟩
end Go.Proofs.YtafglggjncnkkaaDoor
