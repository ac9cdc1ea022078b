/-
  The walks of annuitantref01's Make, FromInt and Same, of the laws' num and is.
-/
import Derived.Test.YtafglggjncnkkaaDoorSame
import Derived.Test.YtafglggjncnkkaaDoorTextA
import Derived.Test.YtafglggjncnkkaaDoorAdd
import Derived.Deep.RegionHeld3
namespace Go.Proofs.YtafglggjncnkkaaDoor
open Go.RowKit

set_option maxRecDepth 100000 in
theorem make_any (t : Bool) (A : Option Addr) (n c : Nat) (w : World) : Calls Tryd.prog 73 #[.bool t, .slice A n c] w fun e w' => e = .returned (.agg #[.bool (t && decide (0 < n)), .slice A n c]) ∧ Below w.heap.size w w' := by
  have b1 : Below w.heap.size w (w.alloc (.cells #[.bool false, .slice none 0 0] 24)) := (Below.refl _ w).alloc (Nat.le_refl _) _
  go_enter Tryd.func73, Tryd.ntmps73
  cases t
  · go_wp2_with fail
    exact bodyPost_ret (v := .agg #[.bool false, .slice A n c]) (by simp [results, Tryd.results73, go_sem]) rfl ⟨by simp, (Below.refl _ w).alloc (Nat.le_refl _) _⟩
  · by_cases hn : 0 < n
    · have t1 : (0 : Int) < (n : Int) := by omega
      go_wp2_with fail
      exact bodyPost_ret (v := .agg #[.bool true, .slice A n c]) (by simp [results, Tryd.results73, go_sem]) rfl ⟨by simp [hn], (Below.refl _ w).alloc (Nat.le_refl _) _⟩
    · obtain rfl : n = 0 := by omega
      go_wp2_with fail
      exact bodyPost_ret (v := .agg #[.bool false, .slice A 0 c]) (by simp [results, Tryd.results73, go_sem]) rfl ⟨by simp, (Below.refl _ w).alloc (Nat.le_refl _) _⟩

theorem own_slice16 {base n : Nat} {w : World} {v : Value} {xs : List Value} (h : w.ownsRow base 40 1 v n xs) : ∃ A c, v = .slice A n c := by
  rcases h.2 with ⟨hv, hn⟩ | ⟨g, cap, cur, hv, _⟩
  · exact ⟨none, 0, by rw [hv, hn]⟩
  · exact ⟨_, _, hv⟩
theorem ln16_step {x k : Nat} : 0 < x / 65536 ^ k ↔ k < ln b16 x := by
  rw [ln_lt b16_two, Nat.div_pos_iff]
  exact ⟨fun h => h.2, fun h => ⟨Nat.pow_pos (by decide), h⟩⟩
set_option maxRecDepth 100000 in
set_option maxHeartbeats 2000000 in
theorem refFromInt_any (z : Int) (w : World) (h1 : -9223372036854775808 ≤ z) (h2 : z ≤ 9223372036854775807) : Calls Tryd.prog 61 #[.int .i64 z] w (WI w z) := by
  obtain ⟨x, hx⟩ : ∃ x, x = z.natAbs := ⟨_, rfl⟩
  have hx64 : x < 18446744073709551616 := by omega
  have hl4 : ln b16 x ≤ 4 := (ln_le b16_two).2 hx64
  obtain ⟨i0, hi, hz0, hz1, hz2⟩ := info_parts info_u16
  go_enter Tryd.func61, Tryd.ntmps61
  go_upto_if 8 with (fail)
  go_cut [3] (fun v wx => v = .int .u64 (x : Int) ∧ wx = w.alloc (.cells #[.bool false, .slice none 0 0] 24))
  case first =>
    by_cases hneg : z < 0
    · go_wp2_with fail
      go_meet
      refine ⟨?_, rfl⟩
      congr 1
      rw [IntKind.wrap_u64, IntKind.wrap_u64]; omega
    · go_wp2_with fail
      go_meet
      refine ⟨?_, rfl⟩
      congr 1
      rw [IntKind.wrap_u64]; omega
  case rest =>
    obtain ⟨rfl, rfl⟩ := hcut
    have HX := Lib.hid hx
    clear hx
    have hR0 := WholeAt.new w false (.slice none 0 0)
    have hb0 : Below w.heap.size w (w.alloc (.cells #[.bool false, .slice none 0 0] 24)) := (Below.refl _ w).alloc (Nat.le_refl _) _
    go_wp2_with fail
    go_loopw [3, 4] (fun u v wr => ∃ k X, u = .int .u64 ((X : Nat) : Int) ∧ Hid (X = x / 65536 ^ k) ∧ X < 18446744073709551616 ∧ k ≤ ln b16 x ∧ Hid (lenV v = k) ∧ wr.ownsRow (w.heap.size + 1) 40 1 v k (nums .u16 k (dgt b16 x)) ∧ WholeAt wr w.heap.size false (.slice none 0 0) ∧ Below w.heap.size w wr) (fun _ v _ => ln b16 x - lenV v)
    case atStart => exact ⟨0, x, rfl, Lib.hid (by simp), hx64, Nat.zero_le _, Lib.hid rfl, World.ownsRow_nil .., hR0, hb0⟩
    case round =>
      obtain ⟨k, X, rfl, hX, hX64, hk, hlv, hown, hp, hbl⟩ := hrel
      have hsz := hbl.size
      have hpl := hp.lt
      by_cases hX0 : 0 < X
      · have t1 : (0 : Int) < (X : Int) := by omega
        have hd : X % 65536 = dgt b16 x k := by rw [hX.out]; rfl
        have hk9 : k < ln b16 x := ln16_step.1 (by rw [← hX.out]; exact hX0)
        have hdl := dgt16_lt x k
        have e3 : (X : Int) % 65536 = ((dgt b16 x k : Nat) : Int) := by omega
        have HD := Lib.hid hd
        clear hd
        go_wp2_with (at_builtin; refine wpList_append_own _ rfl _ _ 22 rfl (w.heap.size + 1) 40 i0 (.int .u16 0) 1 2 Tryd.underlying22 hi hz0 hz1 hz2 rfl (by decide) _ _ _ rfl (hown.alloc _) ⟨wr.heap.size, 0, none⟩ 1 1 [.int .u16 ((dgt b16 x k : Nat) : Int)] rfl rfl (cell_one_new _ _ _) (by simp [Value.oneCell']) (by unfold maxLen; omega) (by omega) (by simp; omega) ?_; intro v' w5 hown5 hgrow _; obtain ⟨g', cap', rfl⟩ := ownsRow_succ hown5)
        go_roundw
        case rel =>
          rw [nums_succ] at hown5
          exact ⟨k + 1, X / 65536, by congr 1, Lib.hid (by rw [hX.out, Nat.div_div_eq_div_mul, Nat.pow_succ]), by omega, hk9, Lib.hid rfl, hown5, (hp.alloc' _).grown hgrow (own_not hown (Nat.lt_succ_self _)), (hbl.alloc hsz (.cells #[.int .u16 ((dgt b16 x k : Nat) : Int)] 40)).grown hgrow (by simp; omega) (fun g hg => by have := (hown.lt g hg).1; omega)⟩
        case measure => show ln b16 x - (k + 1) < ln b16 x - lenV u4; rw [hlv.out]; omega
      · obtain rfl : X = 0 := by omega
        have hkk : k = ln b16 x := by
          have := mt ln16_step.2 (by rw [← hX.out]; decide : ¬ 0 < x / 65536 ^ k)
          omega
        subst hkk
        obtain ⟨A, c, rfl⟩ := own_slice16 hown
        have hm := make_any (decide (z < 0)) A (ln b16 x) c wr
        rw [show (decide (z < 0) && decide (0 < ln b16 x)) = decide (z < 0) by
          by_cases hz : z < 0
          · have := (ln_pos b16_two (x := x)).2 (by have := HX.out; omega)
            simp [hz, this]
          · simp [hz]] at hm
        have HM := Lib.hid hm
        clear hm
        obtain ⟨s, hs⟩ : ∃ s, s = decide (z < 0) := ⟨_, rfl⟩
        rw [← hs] at HM
        have HS := Lib.hid hs
        go_wp2_with fail
        rw [← HS.out]
        clear hs
        refine HM.out.mono ?_
        rintro e w5 ⟨rfl, hb5⟩
        have hR5 := hp.below hb5 hpl
        have hbl5 := hbl.trans (hb5.mono hsz)
        have ho5 : Own16 (w.heap.size + 1) w5 A (ln b16 x) c (dgt b16 x) := own_below hown hb5 (Nat.le_refl _)
        obtain ⟨r0, r1⟩ := hR5.cells
        have g0 := hR5.frozen 0
        have g1 := hR5.frozen 1
        obtain ⟨hW, hbW⟩ := store_whole hR5 hbl5 (Nat.le_refl _) s (.slice A (ln b16 x) c)
        have ho6 := (store_own (R := w.heap.size) ho5 (Nat.lt_succ_self _) s (.slice A (ln b16 x) c)).lower (base' := w.heap.size) (by omega)
        have HW := Lib.hid hW
        clear hW ho5 hown
        go_wp2_with fail
        have hW := HW.out
        clear HW hR5 r0 r1
        generalize ((w5.setCell ⟨w.heap.size, 0, none⟩ (.bool s)).setCell ⟨w.heap.size, 1, none⟩ (.slice A (ln b16 x) c)) = WW at *
        obtain ⟨k0, k1⟩ := hW.cells
        refine bodyPost_ret (v := .agg #[.bool s, .slice A (ln b16 x) c]) (by simp [results, Tryd.results61, go_sem, k0, k1]) rfl ?_
        rw [HX.out] at ho6 ⊢
        rw [HS.out]
        exact ⟨A, c, rfl, ho6, hbW⟩

theorem TwoP.start (w : World) (s t : Bool) (A B : Option Addr) (n m c d : Nat) : TwoP w s t A B n m c d ((w.alloc (.cells #[.bool s, .slice A n c] 24)).alloc (.cells #[.bool t, .slice B m d] 24)) := by
  have b1 : Below w.heap.size w (w.alloc (.cells #[.bool s, .slice A n c] 24)) := (Below.refl _ w).alloc (Nat.le_refl _) _
  have q1 := WholeAt.new (w.alloc (.cells #[.bool s, .slice A n c] 24)) t (.slice B m d)
  rw [World.size_alloc] at q1
  exact ⟨(Below.heap_alloc _ _ _ (by simp)).trans (WholeAt.new w s (.slice A n c)), q1, b1.alloc b1.size _⟩
theorem TwoP.drewN {w : World} {s t : Bool} {A B : Option Addr} {n m c d : Nat} {w' : World} (h : TwoP w s t A B n m c d w') (q : Nat) : TwoP w s t A B n m c d (w'.drewN q) := ⟨h.p0, h.p1, belowN h.bel q⟩
set_option maxRecDepth 100000 in
set_option maxHeartbeats 1000000 in
theorem refSame_any (s t : Bool) (A B : Option Addr) (n m c d : Nat) (f h : Nat → Nat) (w : World) (hA : Rd w.heap.size .u16 w A n f) (hB : Rd w.heap.size .u16 w B m h) (hn : n ≤ 1000000) (hm : m ≤ 1000000) :
    Calls Tryd.prog 42 #[.agg #[.bool s, .slice A n c], .agg #[.bool t, .slice B m d]] w fun e w' => e = .returned (.bool (sameW s t n m f h)) ∧ Below w.heap.size w w' := by
  have hT := TwoP.start w s t A B n m c d
  by_cases hst : s = t
  · subst hst
    by_cases hl : n = m
    · subst hl
      go_enter Tryd.func42, Tryd.ntmps42
      go_wp2_with fail
      go_loopw [5] (fun i wr => ∃ k : Nat, k ≤ n ∧ i = .int .i64 (k : Int) ∧ Hid (eqU f h k = true) ∧ TwoP w s s A B n n c d wr) (fun i _ => n - (intOf i).toNat)
      case atStart => exact ⟨0, Nat.zero_le _, rfl, Lib.hid rfl, hT⟩
      case round =>
        obtain ⟨k, hk, rfl, hok, hT⟩ := hrel
        obtain ⟨p0, p1⟩ := hT.p0.cells
        obtain ⟨p2, p3⟩ := hT.p1.cells
        by_cases hlt : k < n
        · obtain ⟨pa, qa, rfl, hpa, hca⟩ := (hA.below hT.bel) (by omega)
          obtain ⟨pb, qb, rfl, hpb, hcb⟩ := (hB.below hT.bel) (by omega)
          have c1 := hca k hlt
          have c2 := hcb k hlt
          clear hca hcb
          by_cases he : f k = h k
          · have t1 : (((f k : Nat) : Int) != ((h k : Nat) : Int)) = false := by rw [he]; simp
            have HE := Lib.hid he
            clear he
            go_wp2_with fail
            go_quiet (fail)
            go_wp2
            go_roundw
            case rel => exact ⟨k + 1, by omega, by go_num, Lib.hid (eqU_step hok.out HE.out), hT.drewN _⟩
            case measure => simp [intOf]; omega
          · have t1 : (((f k : Nat) : Int) != ((h k : Nat) : Int)) = true := bne_iff_ne.2 (by omega)
            have hfin : sameW s s n n f h = false := by unfold sameW eqL; rw [eqU_false hlt he, Bool.and_false, Bool.and_false]
            have HF := Lib.hid hfin
            clear hfin he
            go_wp2_with fail
            go_quiet (fail)
            go_wp2
            go_ret
            exact ⟨ret_bool HF.out.symm, (hT.drewN _).bel⟩
        · obtain rfl : k = n := by omega
          have hfin : sameW s s k k f h = true := by unfold sameW eqL; rw [hok.out]; simp
          have HF := Lib.hid hfin
          clear hfin
          go_wp2_with fail
          go_ret
          exact ⟨ret_bool HF.out.symm, hT.bel⟩
    · have t0 : ((n : Int) != (m : Int)) = true := bne_iff_ne.2 (by omega)
      have hfin : sameW s s n m f h = false := by unfold sameW eqL; rw [beq_false_of_ne hl, Bool.false_and, Bool.and_false]
      have HF := Lib.hid hfin
      clear hfin
      go_enter Tryd.func42, Tryd.ntmps42
      go_wp2_with fail
      go_ret
      exact ⟨ret_bool HF.out.symm, hT.bel⟩
  · have t0 : (s == t) = false := by simp [hst]
    have hfin : sameW s t n m f h = false := by unfold sameW; rw [t0, Bool.false_and]
    have HF := Lib.hid hfin
    clear hfin
    go_enter Tryd.func42, Tryd.ntmps42
    go_wp2_with fail
    go_ret
    exact ⟨ret_bool HF.out.symm, hT.bel⟩
theorem eqU_iff {f h : Nat → Nat} {n : Nat} : eqU f h n = true ↔ ∀ i, i < n → f i = h i := by
  induction n with
  | zero => simp [eqU]
  | succ n ih =>
    simp only [eqU, Bool.and_eq_true, ih, beq_iff_eq]
    exact ⟨fun ⟨h1, h2⟩ i hi => by
      rcases Nat.lt_or_ge i n with h3 | h3
      · exact h1 i h3
      · rw [show i = n by omega]; exact h2, fun h => ⟨fun i hi => h i (by omega), h n (by omega)⟩⟩
/-- Two numbers are the same where they are equal. -/
theorem sameW_num (a b : Int) : sameW (decide (a < 0)) (decide (b < 0)) (ln b16 a.natAbs) (ln b16 b.natAbs) (dgt b16 a.natAbs) (dgt b16 b.natAbs) = decide (a = b) := by
  by_cases hab : a = b
  · subst hab
    simp [sameW, eqL, eqU_iff.2 (fun i _ => rfl)]
  · rw [decide_eq_false hab]
    unfold sameW eqL
    by_cases hs : decide (a < 0) = decide (b < 0)
    · rw [hs, beq_self_eq_true, Bool.true_and]
      by_cases hl : ln b16 a.natAbs = ln b16 b.natAbs
      · rw [hl, beq_self_eq_true, Bool.true_and]
        cases he : eqU (dgt b16 a.natAbs) (dgt b16 b.natAbs) (ln b16 b.natAbs) with
        | false => rfl
        | true =>
          have h1 := vs_congr (B := b16) (eqU_iff.1 he)
          rw [← hl, vs_dgt_ln b16_two, hl, vs_dgt_ln b16_two] at h1
          exfalso
          by_cases h0 : a < 0 <;> by_cases h00 : b < 0 <;> simp [h0, h00] at hs <;> omega
      · rw [beq_false_of_ne hl, Bool.false_and]
    · rw [beq_false_of_ne hs, Bool.false_and]
end Go.Proofs.YtafglggjncnkkaaDoor
