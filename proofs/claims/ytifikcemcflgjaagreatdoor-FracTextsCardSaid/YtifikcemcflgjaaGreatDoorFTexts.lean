/-
  The walk of FracTexts.
-/
import Derived.Test.YtifikcemcflgjaaGreatDoorGTV
import Derived.Test.YtifikcemcflgjaaGreatDoorGTP
import Derived.Test.YtifikcemcflgjaaGreatDoorGS0
import Derived.Test.YtifikcemcflgjaaGreatDoorGA
namespace Go.Proofs.YtifikcemcflgjaaGreatDoor
open Go.RowKit

theorem tx_len {q : Rat} (h : fl q ≤ 40) : (ftext q).length ≤ 1005 ∧ (Lib.itoa q.num).length ≤ 502 ∧ (Lib.itoa (q.den : Int)).length ≤ 502 := by
  obtain ⟨h1, h2⟩ := fl_le.1 h
  have q1 := (len_body_itoa (z := q.num) (Nat.le_trans h1 (by decide)) [] (Nat.zero_le _)).2.1
  have q2 := (len_body_itoa (z := (q.den : Int)) (by rw [Int.natAbs_natCast]; exact Nat.le_trans h2 (by decide)) [] (Nat.zero_le _)).2.1
  rw [List.append_nil] at q1 q2
  refine ⟨?_, q1, q2⟩
  unfold ftext
  split
  · omega
  · rw [List.length_append, List.length_cons]; omega
theorem tx_fl {q : Rat} (h : (ftext q).length ≤ 400) : fl q ≤ 100 := by
  have h1 : (Lib.itoa q.num).length ≤ 400 := by
    unfold ftext at h
    split at h
    · exact h
    · rw [List.length_append] at h; omega
  have h2 := ln_text (numOK_itoa q.num) h1
  rw [val_itoa] at h2
  refine fl_le.2 ⟨h2, ?_⟩
  by_cases hd : q.den = 1
  · rw [hd]; decide
  · have h3 : (Lib.itoa (q.den : Int)).length ≤ 400 := by
      unfold ftext at h
      rw [if_neg hd, List.length_append, List.length_cons] at h
      omega
    have h4 := ln_text (numOK_itoa (q.den : Int)) h3
    rw [val_itoa, Int.natAbs_natCast] at h4
    exact h4
set_option linter.unusedSimpArgs false in
set_option maxRecDepth 100000 in
set_option maxHeartbeats 16000000 in
theorem ftexts_l {sa ta : Bool} {Aa Ba : Option Addr} {na ca ma da : Nat} {fa ga : Nat → Nat} {k0 : Int} {w : World} (hlt : 1 < w.heap.size) (hm : w.cell? ⟨1, 0, none⟩ = some (.int .i64 k0)) (htab : Tab w) (ra : FRd w Aa na fa Ba ma ga) (l : List UInt8) :
    Calls Tryz.prog 5 #[.agg #[.bool sa, .slice Aa na ca, .bool ta, .slice Ba ma da], .string (str l)] w (fun e w' => e = .returned (.bool true) ∧ Below w.heap.size w w') := by
  have hE := (((Env.start w).at_ hlt hm).frd ra).blk 26 #[.bool sa, .slice Aa na ca, .bool ta, .slice Ba ma da] (g := w.heap.size) rfl
  obtain ⟨W0, hW0⟩ : ∃ W0, W0 = (w.alloc (.cells #[.bool sa, .slice Aa na ca, .bool ta, .slice Ba ma da] 26)) := ⟨_, rfl⟩
  rw [← hW0] at hE
  have HW0 := Lib.hid hW0
  clear hW0
  go_enter Tryz.func5, Tryz.ntmps5
  go_upto_region 1 with (fail)
  rw [← HW0.out]
  go_wp2_with fail
  refine (awake2_t _ (hE.here.1.1.2).2 (hE.here.1.1.2).1).mono ?_
  rintro e w1 ⟨rfl, hb⟩
  replace hE := hE.step hb
  clear hb
  obtain ⟨k2, k3, k4, k5⟩ := (hE.here.2).c4
  go_wp2_with fail
  refine (usable1 ⟨sa, Aa, na, ca, fa, ta, Ba, ma, da, ga⟩ _ (hE.here.1.2)).mono ?_
  clear k2 k3 k4 k5
  rintro e w6 ⟨v, rfl, hv, hb⟩
  replace hE := hE.step hb
  clear hb
  cases v with
  | false =>
    clear hv
    go_wp2_with fail
    go_ret
    exact ⟨rfl, hE.bel⟩
  | true =>
    have ua := hv rfl
    clear hv
    obtain ⟨a, ha, la⟩ := us_fv ua (hE.here.1.2)
    replace hE := (hE.fv ha)
    clear ha ua
    replace hE := ((((Env.again hE.bel).atI hE.here.1.1.1.2).blkI hE.here.1.2).fv hE.here.2)
    by_cases h400 : l.length ≤ 400
    · have t1 : decide ((400 : Int) < (l.length : Int)) = false := decide_eq_false (by omega)
      have ts : (str l).size = l.length := str_size l
      obtain ⟨z1, z2, z3⟩ := tx_len la
      go_upto_region 5 with (fail)
      obtain ⟨k7, k8, k9, k10⟩ := (hE.here.1.2).c4
      go_wp2_with fail
      refine (ftext_v (ca := ca) (da := da) (hE.here.2) (fl_le2 la (by decide)) (htab.below hE.bel)).mono ?_
      clear k7 k8 k9 k10
      rintro e w11 ⟨rfl, hb⟩
      replace hE := hE.step hb
      clear hb
      go_upto_region 6 with (fail)
      go_wp2_with fail
      refine (fparse_v (ftext a) _ (by omega) (hE.here.1.1.2).2 (hE.here.1.1.2).1).mono ?_
      rintro e w12 (⟨hno, _⟩ | ⟨b, hb1, lb, sb, Ab, nb, cb, tb, Bb, mb, db, rfl, hb, hbl⟩)
      · exact absurd rfl (hno a)
      obtain rfl : a = b := (ftext_inj hb1).symm
      clear hb1
      replace hE := hE.step hbl
      clear hbl
      replace hE := hE.fv hb
      clear hb
      go_upto_region 7 with (fail)
      obtain ⟨g13, hg13⟩ : ∃ g13, g13 = w12.heap.size := ⟨_, rfl⟩
      have hl13_1 : w.heap.size < g13 := by rw [hg13]; exact (hE.here.1.1.2).lt
      replace hE := hE.blk 26 #[.bool sb, .slice Ab nb cb, .bool tb, .slice Bb mb db] (g := g13) hg13.symm
      generalize w12.alloc (.cells #[.bool sb, .slice Ab nb cb, .bool tb, .slice Bb mb db] 26) = W13 at hE ⊢
      rw [← hg13]
      clear hg13
      obtain ⟨k14, k15, k16, k17⟩ := (hE.here.1.1.1.2).c4
      go_wp2_with fail
      refine (text_s (c := ca) (hE.here.1.1.2).1 (by have := (fl_le.1 la).1; rw [(hE.here.1.1.2).1.len]; omega) (htab.below hE.bel) rfl).mono ?_
      clear k14 k15 k16 k17
      rintro e w18 ⟨rfl, hb⟩
      replace hE := hE.step hb
      clear hb
      go_upto_region 8 with (fail)
      obtain ⟨k19, k20, k21, k22⟩ := (hE.here.1.1.1.2).c4
      go_wp2_with fail
      refine (text_s (c := da) (hE.here.1.1.2).2 (by have := (fl_le.1 la).2; rw [(hE.here.1.1.2).2.len, Int.natAbs_natCast]; omega) (htab.below hE.bel) rfl).mono ?_
      clear k19 k20 k21 k22
      rintro e w23 ⟨rfl, hb⟩
      replace hE := hE.step hb
      clear hb
      go_upto_region 9 with (fail)
      go_cut [90] from 50 to 91 (fun p wx => p = .bool false ∧ Env w (fun V => (((((True ∧ At 1 0 (.int .i64 k0) V) ∧ Blk 26 (w.heap.size) #[.bool sa, .slice Aa na ca, .bool ta, .slice Ba ma da] V) ∧ FV V a sa Aa na ta Ba ma) ∧ FV V a sb Ab nb tb Bb mb) ∧ Blk 26 (g13) #[.bool sb, .slice Ab nb cb, .bool tb, .slice Bb mb db] V)) wx)
      case first =>
        by_cases hd : a.den = 1
        · have x1 : Lib.itoa (a.den : Int) = [49] := by rw [hd]; exact itoa_one
          have x2 : ftext a = Lib.itoa a.num := by unfold ftext; rw [if_pos hd]
          have y1 : (str (Lib.itoa (a.den : Int))).toList = [49] := by rw [ByteArray.toList_eq]; exact x1
          have y2 : (str (ftext a)).toList = (str (Lib.itoa a.num)).toList := by rw [x2]
          clear x1 x2 hd
          obtain ⟨k24, k25, k26, k27⟩ := (hE.here.1.1.1.2).c4
          obtain ⟨k28, k29, k30, k31⟩ := (hE.here.2).c4
          go_wp2_with fail
          refine (lw_equal (v := true) (ca := ca) (da := da) (cb := cb) (db := db) (hE.here.1.1.2) (hE.here.1.2) (fl_le2 la (by decide)) lb (decide_eq_true rfl)).mono ?_
          clear k24 k25 k26 k27 k28 k29 k30 k31
          rintro e w32 ⟨rfl, hb⟩
          replace hE := hE.step hb
          clear hb
          go_wp2_with fail
          go_meet
          exact ⟨rfl, hE⟩
        · have x1 : Lib.itoa (a.den : Int) ≠ [49] := fun h => hd (by have := itoa_inj (h.trans itoa_one.symm); omega)
          have x2 : ftext a = Lib.itoa a.num ++ 47 :: Lib.itoa (a.den : Int) := by unfold ftext; rw [if_neg hd]
          have q1 : ¬ (str (Lib.itoa (a.den : Int))).toList = [49] := by rw [ByteArray.toList_eq]; exact x1
          have q2 : ¬ 9223372036854775807 < (str (Lib.itoa a.num)).size + 1 := by rw [str_size]; omega
          have q3 : ¬ 9223372036854775807 < (str (Lib.itoa a.num)).size + 1 + (str (Lib.itoa (a.den : Int))).size := by rw [str_size, str_size]; omega
          have q4 : str (Lib.itoa a.num) ++ (⟨#[47]⟩ : ByteArray) ++ str (Lib.itoa (a.den : Int)) = str (ftext a) := by rw [show (⟨#[47]⟩ : ByteArray) = str [47] from rfl, str_app, str_app, x2, List.append_assoc]; rfl
          clear x1 x2 hd
          obtain ⟨k24, k25, k26, k27⟩ := (hE.here.1.1.1.2).c4
          obtain ⟨k28, k29, k30, k31⟩ := (hE.here.2).c4
          go_wp2_with fail
          refine (lw_equal (v := true) (ca := ca) (da := da) (cb := cb) (db := db) (hE.here.1.1.2) (hE.here.1.2) (fl_le2 la (by decide)) lb (decide_eq_true rfl)).mono ?_
          clear k24 k25 k26 k27 k28 k29 k30 k31
          rintro e w32 ⟨rfl, hb⟩
          replace hE := hE.step hb
          clear hb
          go_wp2_with fail
          go_meet
          exact ⟨rfl, hE⟩
      case rest =>
      clear hE
      obtain ⟨rfl, hE⟩ := hcut
      generalize wc = wk at hE ⊢
      go_upto_region 11 with (fail)
      go_wp2_with fail
      refine (fparse_v (l) _ (by omega) (hE.here.1.1.1.1.2).2 (hE.here.1.1.1.1.2).1).mono ?_
      rintro e w24 (⟨_, rfl, hbl⟩ | ⟨p, hp1, lp, sp, Ap, np, cp, tp, Bp, mp, dp, rfl, hp, hbl⟩)
      · skip
        replace hE := hE.step hbl
        clear hbl
        go_upto_region 12 with (fail)
        obtain ⟨g25, hg25⟩ : ∃ g25, g25 = w24.heap.size := ⟨_, rfl⟩
        have hl25_1 : w.heap.size < g25 := by rw [hg25]; exact (hE.here.1.1.1.2).lt
        have hl25_4 : g13 < g25 := by rw [hg25]; exact (hE.here.2).lt
        replace hE := hE.blk 26 #[.bool false, .slice none 0 0, .bool false, .slice none 0 0] (g := g25) hg25.symm
        generalize w24.alloc (.cells #[.bool false, .slice none 0 0, .bool false, .slice none 0 0] 26) = W25 at hE ⊢
        rw [← hg25]
        clear hg25
        obtain ⟨k26, k27, k28, k29⟩ := (hE.here.2).c4
        go_wp2_with fail
        refine (frsame_00).mono ?_
        clear k26 k27 k28 k29
        rintro e w30 ⟨rfl, hb⟩
        replace hE := hE.step hb
        clear hb
        go_wp2_with fail
        go_ret
        exact ⟨rfl, hE.bel⟩
      · skip
        replace hE := hE.step hbl
        clear hbl
        replace hE := hE.fv hp
        clear hp
        go_upto_region 12 with (fail)
        obtain ⟨g25, hg25⟩ : ∃ g25, g25 = w24.heap.size := ⟨_, rfl⟩
        have hl25_1 : w.heap.size < g25 := by rw [hg25]; exact (hE.here.1.1.1.1.2).lt
        have hl25_4 : g13 < g25 := by rw [hg25]; exact (hE.here.1.2).lt
        replace hE := hE.blk 26 #[.bool sp, .slice Ap np cp, .bool tp, .slice Bp mp dp] (g := g25) hg25.symm
        generalize w24.alloc (.cells #[.bool sp, .slice Ap np cp, .bool tp, .slice Bp mp dp] 26) = W25 at hE ⊢
        rw [← hg25]
        clear hg25
        have lp2 : fl p ≤ 100 := tx_fl (by rw [hp1]; omega)
        obtain ⟨k26, k27, k28, k29⟩ := (hE.here.2).c4
        go_wp2_with fail
        refine (ftext_v (ca := cp) (da := dp) (hE.here.1.2) lp2 (htab.below hE.bel)).mono ?_
        clear k26 k27 k28 k29
        rintro e w30 ⟨rfl, hb⟩
        replace hE := hE.step hb
        clear hb
        rw [hp1]
        go_wp2_with fail
        go_ret
        exact ⟨rfl, hE.bel⟩
    · have t1 : decide ((400 : Int) < (l.length : Int)) = true := decide_eq_true (by omega)
      have ts : (str l).size = l.length := str_size l
      go_wp2_with fail
      go_ret
      exact ⟨rfl, hE.bel⟩
theorem ftexts_walk {sa ta : Bool} {Aa Ba : Option Addr} {na ca ma da : Nat} {fa ga : Nat → Nat} {k0 : Int} {w : World} (hlt : 1 < w.heap.size) (hm : w.cell? ⟨1, 0, none⟩ = some (.int .i64 k0)) (htab : Tab w) (ra : FRd w Aa na fa Ba ma ga) (x : ByteArray) :
    Calls Tryz.prog 5 #[.agg #[.bool sa, .slice Aa na ca, .bool ta, .slice Ba ma da], .string x] w fun e w' => e = .returned (.bool true) ∧ Below w.heap.size w w' := by
  obtain ⟨l, rfl⟩ : ∃ l, x = str l := ⟨x.data.toList, by cases x; simp [str]⟩
  exact ftexts_l hlt hm htab ra l
end Go.Proofs.YtifikcemcflgjaaGreatDoor
