/-
  The walk of frac.Text at a valid fraction.
-/
import Derived.Test.YtifikcemcflgjaaGreatDoorK8
import Derived.Test.YtifikcemcflgjaaGreatDoorGTM
namespace Go.Proofs.YtifikcemcflgjaaGreatDoor
open Go.RowKit

theorem str_app (a b : List UInt8) : str a ++ str b = str (a ++ b) := by apply ByteArray.ext; simp [str, ByteArray.data_append]
theorem text_s {a : Int} {s : Bool} {A : Option Addr} {n c : Nat} {w : World} (ha : WV w a s A n) (la : n ≤ 1024) (htab : Tab w) {t : List UInt8} (ht : Lib.itoa a = t) :
    Calls Tryz.prog 32 #[.agg #[.bool s, .slice A n c]] w fun e w' => e = .returned (.tuple #[.string (str t), .int .i64 0]) ∧ Below w.heap.size w w' := by
  refine (text_v ha la htab).mono ?_
  rintro e w' ⟨⟨T, rfl, hT⟩, hb⟩
  rw [hT.out, ht]
  exact ⟨rfl, hb⟩
set_option linter.unusedSimpArgs false in
set_option maxRecDepth 100000 in
set_option maxHeartbeats 2000000 in
theorem ftext_v {q : Rat} {sa ta : Bool} {Aa Ba : Option Addr} {na ca ma da : Nat} {w : World} (ha : FV w q sa Aa na ta Ba ma) (la : fl q ≤ 100) (htab : Tab w) :
    Calls Tryz.prog 20 #[.agg #[.bool sa, .slice Aa na ca, .bool ta, .slice Ba ma da]] w (fun e w' => e = .returned (.tuple #[.string (str (ftext q)), .int .i64 0]) ∧ Below w.heap.size w w') := by
  obtain ⟨ln1, ln2⟩ := ha.ln la
  have hE := ((Env.start w).fv ha).blk 26 #[.bool sa, .slice Aa na ca, .bool ta, .slice Ba ma da] (g := w.heap.size) rfl
  obtain ⟨W0, hW0⟩ : ∃ W0, W0 = (w.alloc (.cells #[.bool sa, .slice Aa na ca, .bool ta, .slice Ba ma da] 26)) := ⟨_, rfl⟩
  rw [← hW0] at hE
  have HW0 := Lib.hid hW0
  clear hW0
  go_enter Tryz.func20, Tryz.ntmps20
  go_upto_region 1 with (fail)
  rw [← HW0.out]
  obtain ⟨k1, k2, k3, k4⟩ := (hE.here.2).c4
  go_wp2_with fail
  have hc := fvalid_v0 (c := ca) (d := da) (hE.here.1.2) (Nat.le_trans la (by decide))
  refine hc.mono ?_
  clear hc
  clear k1 k2 k3 k4
  rintro e w5 ⟨rfl, hb⟩
  replace hE := hE.step hb
  clear hb
  go_upto_region 3 with (fail)
  obtain ⟨k6, k7, k8, k9⟩ := (hE.here.2).c4
  go_wp2_with fail
  have hc := text_s (c := ca) (hE.here.1.2).1 (by omega) (htab.below hE.bel) rfl
  refine hc.mono ?_
  clear hc
  clear k6 k7 k8 k9
  rintro e w10 ⟨rfl, hb⟩
  replace hE := hE.step hb
  clear hb
  go_upto_region 4 with (fail)
  obtain ⟨k11, k12, k13, k14⟩ := (hE.here.2).c4
  go_wp2_with fail
  have hc := fintegral_v (s := sa) (A := Aa) (n := na) (c := ca) (d := da) (hE.here.1.2).2 (by omega)
  refine hc.mono ?_
  clear hc
  clear k11 k12 k13 k14
  rintro e w15 ⟨rfl, hb⟩
  replace hE := hE.step hb
  clear hb
  by_cases hd : ((q.den : Nat) : Int) = 1
  · have hd1 : q.den = 1 := by omega
    rw [decide_eq_true hd]
    have ht : ftext q = Lib.itoa q.num := by unfold ftext; rw [if_pos hd1]
    go_wp2_with fail
    refine bodyPost_ret (v := .tuple #[.string (str (Lib.itoa q.num)), .int .i64 0]) (by simp [results, Tryz.results20, go_sem]) rfl ?_
    exact ⟨by rw [ht], hE.bel⟩
  · have hd1 : q.den ≠ 1 := by omega
    rw [decide_eq_false hd]
    have ht : ftext q = Lib.itoa q.num ++ 47 :: Lib.itoa (q.den : Int) := by unfold ftext; rw [if_neg hd1]
    go_upto_region 5 with (fail)
    obtain ⟨k16, k17, k18, k19⟩ := (hE.here.2).c4
    go_wp2_with fail
    have hc := text_s (c := da) (hE.here.1.2).2 (by omega) (htab.below hE.bel) rfl
    refine hc.mono ?_
    clear hc
    clear k16 k17 k18 k19
    rintro e w20 ⟨rfl, hb⟩
    replace hE := hE.step hb
    clear hb
    go_upto_region 6 with (fail)
    have q1 := (len_body_itoa (z := q.num) (by rw [← ha.1.len]; omega) [] (Nat.zero_le _)).2.1
    have q2 := (len_body_itoa (z := (q.den : Int)) (by rw [← ha.2.len]; omega) [] (Nat.zero_le _)).2.1
    rw [List.append_nil] at q1 q2
    have z1 : (⟨#[47]⟩ : ByteArray).size + (str (Lib.itoa (q.den : Int))).size ≤ 9223372036854775807 := by rw [str_size, show (⟨#[47]⟩ : ByteArray).size = 1 from rfl]; omega
    have p1 : (⟨#[47]⟩ : ByteArray) ++ str (Lib.itoa (q.den : Int)) = str (47 :: Lib.itoa (q.den : Int)) := str_app [47] _
    have z2 : (str (Lib.itoa q.num)).size + (str (47 :: Lib.itoa (q.den : Int))).size ≤ 9223372036854775807 := by rw [str_size, str_size, List.length_cons]; omega
    have p2 : str (Lib.itoa q.num) ++ str (47 :: Lib.itoa (q.den : Int)) = str (ftext q) := by rw [ht, str_app]
    go_wp2_with fail
    refine bodyPost_ret (v := .tuple #[.string (str (ftext q)), .int .i64 0]) (by simp [results, Tryz.results20, go_sem, p2, ht, str_app]) rfl ?_
    exact ⟨rfl, hE.bel⟩
end Go.Proofs.YtifikcemcflgjaaGreatDoor
