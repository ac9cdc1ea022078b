/-
  Several texts in one: The walks of whole.Add, Sub, Mul and Gcd. The walks of annuitantref01's Make, FromInt and Same, of the laws' num and is. Division of whole numbers, rounded down: from absolute values and signs. The walk of whole.DivMod: a divisor that is not 0. The walk of whole.Gcd. The walks of the laws' num, is and awake. The walk of whole.Sub. The walk of whole.Cmp. Whole numbers as values: the contracts of the functions of whole and of the laws' helpers, for callers that hold numbers.
-/
import Derived.Test.YtifikcemcflgjaaGreatK2
import Derived.Test.YtifikcemcflgjaaGreatK1
import Derived.Test.YtifikcemcflgjaaGreatK3
import Derived.Deep.RegionHeld3
import Derived.Deep.CutBlock
import Derived.Deep.DeepCutAuto
namespace Go.Proofs.YtifikcemcflgjaaGreat
open Go.RowKit

theorem allValid_two (g : Nat) (s t : Bool) (A B : Option Addr) (n m c d : Nat) (f h : Nat → Nat) (w : World)
    (hg : w.heap[g]? = some (.cells #[.bool s, .slice A n c, .bool t, .slice B m d] 24 (0, 0)))
    (hA : Rd w.heap.size .u16 w A n f) (hB : Rd w.heap.size .u16 w B m h) (hf : ∀ i, f i < 65536) (hh : ∀ i, h i < 65536) (hn : n ≤ 1000000) (hm : m ≤ 1000000) :
    Calls Tryz.prog 83 #[.slice (some ⟨g, 0, none⟩) 2 2] w fun e w' => e = .returned (.bool (okW s n f && okW t m h)) ∧ Below w.heap.size w w' := by
  refine (allValid_any g 0 2 (fun i => if i = 0 then s else t) (fun i => if i = 0 then A else B) (fun i => if i = 0 then n else m) (fun i => if i = 0 then c else d) (fun i => if i = 0 then f else h) w ?_ (heap_lt hg) (by omega)).mono ?_
  · intro i hi
    match i, hi with
    | 0, _ => exact ⟨(cell_of_row w g 0 _ _ (0, 0) hg).trans rfl, (cell_of_row w g 1 _ _ (0, 0) hg).trans rfl, hA, fun j _ => hf j, hn⟩
    | 1, _ => exact ⟨(cell_of_row w g 2 _ _ (0, 0) hg).trans rfl, (cell_of_row w g 3 _ _ (0, 0) hg).trans rfl, hB, fun j _ => hh j, hm⟩
  · rintro e w' ⟨rfl, hb⟩
    exact ⟨ret_bool (by simp [okAll]), hb⟩

/-- The boxes of the two arguments and the result's variable. -/
structure Two (w : World) (s t : Bool) (A B : Option Addr) (n m c d : Nat) (w' : World) : Prop where
  p0 : WholeAt w' w.heap.size s (.slice A n c)
  p1 : WholeAt w' (w.heap.size + 1) t (.slice B m d)
  r : WholeAt w' (w.heap.size + 1 + 1) false (.slice none 0 0)
  bel : Below w.heap.size w w'
theorem two_call (s t : Bool) (A B : Option Addr) (n m c d : Nat) (f h : Nat → Nat) (w : World)
    (hA : Rd w.heap.size .u16 w A n f) (hB : Rd w.heap.size .u16 w B m h) (hf : ∀ i, f i < 65536) (hh : ∀ i, h i < 65536) (hn : n ≤ 1000000) (hm : m ≤ 1000000) :
    Calls Tryz.prog 83 #[.slice (some ⟨w.heap.size + 1 + 1 + 1, 0, none⟩) 2 2]
      ((((w.alloc (.cells #[.bool s, .slice A n c] 24)).alloc (.cells #[.bool t, .slice B m d] 24)).alloc (.cells #[.bool false, .slice none 0 0] 24)).alloc (.cells #[.bool s, .slice A n c, .bool t, .slice B m d] 24))
      fun e w' => e = .returned (.bool (okW s n f && okW t m h)) ∧ Two w s t A B n m c d w' := by
  have b1 : Below w.heap.size w (w.alloc (.cells #[.bool s, .slice A n c] 24)) := (Below.refl _ w).alloc (Nat.le_refl _) _
  have b2 := b1.alloc (by simp) (.cells #[.bool t, .slice B m d] 24)
  have b3 := b2.alloc (by first | (simp; done) | (simp; omega)) (.cells #[.bool false, .slice none 0 0] 24)
  have b4 := b3.alloc (by first | (simp; done) | (simp; omega)) (.cells #[.bool s, .slice A n c, .bool t, .slice B m d] 24)
  have q0 := WholeAt.new w s (.slice A n c)
  have q1 := WholeAt.new (w.alloc (.cells #[.bool s, .slice A n c] 24)) t (.slice B m d)
  have q2 := WholeAt.new ((w.alloc (.cells #[.bool s, .slice A n c] 24)).alloc (.cells #[.bool t, .slice B m d] 24)) false (.slice none 0 0)
  have q3 := heap_alloc_new (((w.alloc (.cells #[.bool s, .slice A n c] 24)).alloc (.cells #[.bool t, .slice B m d] 24)).alloc (.cells #[.bool false, .slice none 0 0] 24)) (.cells #[.bool s, .slice A n c, .bool t, .slice B m d] 24)
  simp only [World.size_alloc] at q1 q2 q3
  refine (allValid_two (w.heap.size + 1 + 1 + 1) s t A B n m c d f h _ q3 ((hA.below b4).more b4.size) ((hB.below b4).more b4.size) hf hh hn hm).mono ?_
  rintro e w' ⟨rfl, hb⟩
  refine ⟨rfl, ?_, ?_, ?_, b4.trans (hb.mono b4.size)⟩
  · refine WholeAt.below ?_ hb (by first | (simp; done) | (simp; omega))
    exact (Below.heap_alloc _ _ _ (by first | (simp; done) | (simp; omega))).trans ((Below.heap_alloc _ _ _ (by first | (simp; done) | (simp; omega))).trans ((Below.heap_alloc _ _ _ (by simp)).trans q0))
  · refine WholeAt.below ?_ hb (by first | (simp; done) | (simp; omega))
    exact (Below.heap_alloc _ _ _ (by first | (simp; done) | (simp; omega))).trans ((Below.heap_alloc _ _ _ (by simp)).trans q1)
  · refine WholeAt.below ?_ hb (by simp)
    exact (Below.heap_alloc _ _ _ (by simp)).trans q2

/-- The call returned zero values and ErrArg. -/
def ErrArgW (w : World) (e : Ending) (w' : World) : Prop := e = .returned (.tuple #[.agg #[.bool false, .slice none 0 0], .int .i64 2]) ∧ Below w.heap.size w w'

set_option maxRecDepth 100000 in
set_option maxHeartbeats 1000000 in
theorem add_bad (s t : Bool) (A B : Option Addr) (n m c d : Nat) (f h : Nat → Nat) (w : World)
    (hA : Rd w.heap.size .u16 w A n f) (hB : Rd w.heap.size .u16 w B m h) (hf : ∀ i, f i < 65536) (hh : ∀ i, h i < 65536) (hn : n ≤ 1000000) (hm : m ≤ 1000000)
    (hok : (okW s n f && okW t m h) = false) :
    Calls Tryz.prog 50 #[.agg #[.bool s, .slice A n c], .agg #[.bool t, .slice B m d]] w (ErrArgW w) := by
  go_enter Tryz.func50, Tryz.ntmps50
  go_wp2_with fail
  refine (two_call s t A B n m c d f h w hA hB hf hh hn hm).mono ?_
  rintro e w1 ⟨rfl, ht⟩
  rw [hok]
  obtain ⟨r0, r1⟩ := ht.r.cells
  have g0 := ht.r.frozen 0
  have g1 := ht.r.frozen 1
  obtain ⟨hW, hbW⟩ := store_whole ht.r ht.bel (by omega) false (.slice none 0 0)
  have HW := Lib.hid hW
  clear hW
  go_wp2_with fail
  have hW := HW.out
  clear HW ht r0 r1
  generalize ((w1.setCell ⟨w.heap.size + 1 + 1, 0, none⟩ (.bool false)).setCell ⟨w.heap.size + 1 + 1, 1, none⟩ (.slice none 0 0)) = WW at *
  obtain ⟨k0, k1⟩ := hW.cells
  refine bodyPost_ret (v := .tuple #[.agg #[.bool false, .slice none 0 0], .int .i64 2]) (by simp [results, Tryz.results50, go_sem, k0, k1]) rfl ?_
  exact ⟨rfl, hbW⟩

/-- The boxes of the two arguments. -/
structure TwoP (w : World) (s t : Bool) (A B : Option Addr) (n m c d : Nat) (w' : World) : Prop where
  p0 : WholeAt w' w.heap.size s (.slice A n c)
  p1 : WholeAt w' (w.heap.size + 1) t (.slice B m d)
  bel : Below w.heap.size w w'
theorem TwoP.below {w : World} {s t : Bool} {A B : Option Addr} {n m c d : Nat} {w' w'' : World} (h : TwoP w s t A B n m c d w') (h2 : Below w'.heap.size w' w'') : TwoP w s t A B n m c d w'' :=
  ⟨h.p0.below h2 h.p0.lt, h.p1.below h2 h.p1.lt, h.bel.trans (h2.mono h.bel.size)⟩
theorem TwoP.store {w : World} {s t : Bool} {A B : Option Addr} {n m c d : Nat} {w' : World} (h : TwoP w s t A B n m c d w') (s' : Bool) (v' : Value) :
    TwoP w s t A B n m c d ((w'.setCell ⟨w.heap.size + 1 + 1, 0, none⟩ (.bool s')).setCell ⟨w.heap.size + 1 + 1, 1, none⟩ v') :=
  have e0 : w.heap.size ≠ w.heap.size + 1 + 1 := by omega
  have e1 : w.heap.size + 1 ≠ w.heap.size + 1 + 1 := by omega
  have e2 : w.heap.size ≤ w.heap.size + 1 + 1 := by omega
  ⟨(Below.heap_setCell _ _ _ _ e0).trans ((Below.heap_setCell _ _ _ _ e0).trans h.p0), (Below.heap_setCell _ _ _ _ e1).trans ((Below.heap_setCell _ _ _ _ e1).trans h.p1),
    (h.bel.setCell (p := ⟨w.heap.size + 1 + 1, 0, none⟩) e2 _).setCell (p := ⟨w.heap.size + 1 + 1, 1, none⟩) e2 _⟩
theorem TwoP.s {w : World} {s t : Bool} {A B : Option Addr} {n m c d : Nat} {w' : World} (h : TwoP w s t A B n m c d w') :
    w'.cell? ⟨w.heap.size, 0, none⟩ = some (.bool s) ∧ w'.cell? ⟨w.heap.size, 1, none⟩ = some (.slice A n c) ∧ w'.cell? ⟨w.heap.size + 1, 0, none⟩ = some (.bool t) ∧ w'.cell? ⟨w.heap.size + 1, 1, none⟩ = some (.slice B m d) ∧ TwoP w s t A B n m c d w' := ⟨h.p0.cells.1, h.p0.cells.2, h.p1.cells.1, h.p1.cells.2, h⟩
theorem okW_two {a b : Int} (ha : ln b16 a.natAbs ≤ 1024) (hb : ln b16 b.natAbs ≤ 1024) : (okW (decide (a < 0)) (ln b16 a.natAbs) (dgt b16 a.natAbs) && okW (decide (b < 0)) (ln b16 b.natAbs) (dgt b16 b.natAbs)) = true := by
  rw [okW_num ha, okW_num hb]; rfl
theorem ln32_short {x : Nat} (h : ln b16 x ≤ 1024) : ln b32 x ≤ 512 := by rw [ln32_two]; omega

set_option maxRecDepth 100000 in
set_option maxHeartbeats 4000000 in
theorem add_any (a b : Int) (A B : Option Addr) (c d : Nat) (w : World) (hA : Num16 w A a.natAbs) (hB : Num16 w B b.natAbs) (ha : ln b16 a.natAbs ≤ 1024) (hb : ln b16 b.natAbs ≤ 1024) :
    Calls Tryz.prog 50 #[.agg #[.bool (decide (a < 0)), .slice A (ln b16 a.natAbs) c], .agg #[.bool (decide (b < 0)), .slice B (ln b16 b.natAbs) d]] w (RI w (a + b)) := by
  have htwo := two_call (decide (a < 0)) (decide (b < 0)) A B (ln b16 a.natAbs) (ln b16 b.natAbs) c d _ _ w hA hB (fun i => dgt16_lt _ i) (fun i => dgt16_lt _ i) (by omega) (by omega)
  rw [okW_two ha hb] at htwo
  have la := ln32_short ha
  have lb := ln32_short hb
  have hsum : toI (decide (a < 0)) a.natAbs + toI (decide (b < 0)) b.natAbs = a + b := by rw [toI_int, toI_int]
  have HSUM := Lib.hid hsum
  clear hsum
  obtain ⟨s, hs⟩ : ∃ s, s = decide (a < 0) := ⟨_, rfl⟩
  obtain ⟨t, ht⟩ : ∃ t, t = decide (b < 0) := ⟨_, rfl⟩
  rw [← hs, ← ht] at htwo HSUM ⊢
  clear hs ht
  go_enter Tryz.func50, Tryz.ntmps50
  go_wp2_with fail
  refine htwo.mono ?_
  rintro e w1 ⟨rfl, ht⟩
  have D1 := Lib.hid fun (w' : World) (hw' : Below w.heap.size w w') => pack_any A c a.natAbs w' (Num16.below hA hw') (by omega)
  have D2 := Lib.hid fun (w' : World) (hw' : Below w.heap.size w w') => pack_any B d b.natAbs w' (Num16.below hB hw') (by omega)
  have hT0 : TwoP w s t A B (ln b16 a.natAbs) (ln b16 b.natAbs) c d w1.drew := ⟨ht.p0, ht.p1, ht.bel.drew⟩
  have hR0 : WholeAt w1.drew (w.heap.size + 1 + 1) false (.slice none 0 0) := ht.r
  have HT := Lib.hid ht
  clear ht
  go_wp2_with fail
  go_region_held3 (fun w' => w'.cell? ⟨w.heap.size, 0, none⟩ = some (.bool s) ∧ w'.cell? ⟨w.heap.size, 1, none⟩ = some (.slice A (ln b16 a.natAbs) c) ∧ w'.cell? ⟨w.heap.size + 1, 0, none⟩ = some (.bool t) ∧ w'.cell? ⟨w.heap.size + 1, 1, none⟩ = some (.slice B (ln b16 b.natAbs) d) ∧ TwoP w s t A B (ln b16 a.natAbs) (ln b16 b.natAbs) c d w')
    (first | with_reducible exact hT4.s | with_reducible exact hT3.s | with_reducible exact hT2.s | with_reducible exact hT1.s | with_reducible exact hT0.s)
    (first
      | (go_at_call_of 86 (Value.slice A (ln b16 a.natAbs) c); refine (D1.out _ hT0.bel).mono ?_; rintro e w2 ⟨A1, c1, rfl, hc1, hn1, hb1⟩; have hT1 := hT0.below hb1)
      | (go_at_call_of 86 (Value.slice B (ln b16 b.natAbs) d); refine (D2.out _ hT1.bel).mono ?_; rintro e w3 ⟨A2, c2, rfl, hc2, hn2, hb2⟩; have hT2 := hT1.below hb2)
      | (go_at_call 88; refine (sum_any s t A1 A2 c1 c2 a.natAbs b.natAbs _ (Num32.below hn1 hb2) hn2 (by omega) (by omega)).mono ?_; rintro e w4 hri; obtain ⟨s', A', n', c', k, rfl, hv, hb3⟩ := hri.vals; have hT3 := hT2.below hb3; have hR1 := hR0.below hb1 hR0.lt; have hR2 := hR1.below hb2 hR1.lt; have hR3 := hR2.below hb3 hR2.lt; obtain ⟨r0, r1⟩ := hR3.cells; have g0 := hR3.frozen 0; have g1 := hR3.frozen 1; have hT4 := hT3.store s' (.slice A' n' c')))
  obtain ⟨hW, hbW⟩ := store_whole hR3 hT3.bel (show w.heap.size ≤ w.heap.size + 1 + 1 by omega) s' (.slice A' n' c')
  have hsz := hT2.bel.size
  have hv2 := (hv.store hR2.lt s' (.slice A' n' c')).lower hsz
  rw [HSUM.out] at hv2
  clear hv hT0 hT1 hT2 hT3 hT4 hR0 hR1 hR2 hR3 r0 r1 g0 g1 hri
  go_wp2
  generalize ((w4.setCell ⟨w.heap.size + 1 + 1, 0, none⟩ (.bool s')).setCell ⟨w.heap.size + 1 + 1, 1, none⟩ (.slice A' n' c')) = WW at *
  obtain ⟨k0, k1⟩ := hW.cells
  refine bodyPost_ret (v := .tuple #[.agg #[.bool s', .slice A' n' c'], .int .i64 k]) (by simp [results, Tryz.results50, go_sem, k0, k1]) rfl ?_
  exact hv2.ri hbW
end Go.Proofs.YtifikcemcflgjaaGreat
namespace Go.Proofs.YtifikcemcflgjaaGreat
open Go.RowKit

set_option maxRecDepth 100000 in
theorem make_any (t : Bool) (A : Option Addr) (n c : Nat) (w : World) : Calls Tryz.prog 82 #[.bool t, .slice A n c] w fun e w' => e = .returned (.agg #[.bool (t && decide (0 < n)), .slice A n c]) ∧ Below w.heap.size w w' := by
  have b1 : Below w.heap.size w (w.alloc (.cells #[.bool false, .slice none 0 0] 24)) := (Below.refl _ w).alloc (Nat.le_refl _) _
  go_enter Tryz.func82, Tryz.ntmps82
  cases t
  · go_wp2_with fail
    exact bodyPost_ret (v := .agg #[.bool false, .slice A n c]) (by simp [results, Tryz.results82, go_sem]) rfl ⟨by simp, (Below.refl _ w).alloc (Nat.le_refl _) _⟩
  · by_cases hn : 0 < n
    · have t1 : (0 : Int) < (n : Int) := by omega
      go_wp2_with fail
      exact bodyPost_ret (v := .agg #[.bool true, .slice A n c]) (by simp [results, Tryz.results82, go_sem]) rfl ⟨by simp [hn], (Below.refl _ w).alloc (Nat.le_refl _) _⟩
    · obtain rfl : n = 0 := by omega
      go_wp2_with fail
      exact bodyPost_ret (v := .agg #[.bool false, .slice A 0 c]) (by simp [results, Tryz.results82, go_sem]) rfl ⟨by simp, (Below.refl _ w).alloc (Nat.le_refl _) _⟩

theorem own_slice16 {base n : Nat} {w : World} {v : Value} {xs : List Value} (h : w.ownsRow base 48 1 v n xs) : ∃ A c, v = .slice A n c := by
  rcases h.2 with ⟨hv, hn⟩ | ⟨g, cap, cur, hv, _⟩
  · exact ⟨none, 0, by rw [hv, hn]⟩
  · exact ⟨_, _, hv⟩
theorem ln16_step {x k : Nat} : 0 < x / 65536 ^ k ↔ k < ln b16 x := by
  rw [ln_lt b16_two, Nat.div_pos_iff]
  exact ⟨fun h => h.2, fun h => ⟨Nat.pow_pos (by decide), h⟩⟩
set_option maxRecDepth 100000 in
set_option maxHeartbeats 2000000 in
theorem refFromInt_any (z : Int) (w : World) (h1 : -9223372036854775808 ≤ z) (h2 : z ≤ 9223372036854775807) : Calls Tryz.prog 45 #[.int .i64 z] w (WI w z) := by
  obtain ⟨x, hx⟩ : ∃ x, x = z.natAbs := ⟨_, rfl⟩
  have hx64 : x < 18446744073709551616 := by omega
  have hl4 : ln b16 x ≤ 4 := (ln_le b16_two).2 hx64
  obtain ⟨i0, hi, hz0, hz1, hz2⟩ := info_parts info_u16
  go_enter Tryz.func45, Tryz.ntmps45
  go_upto_if 8 with (fail)
  go_cut [3] (fun v wx => v = .int .u64 (x : Int) ∧ wx = w.alloc (.cells #[.bool false, .slice none 0 0] 24))
  case first =>
    by_cases hneg : z < 0
    · go_wp2_with fail
      go_meet
      refine ⟨?_, rfl⟩
      congr 1
      rw [IntKind.wrap_u64, IntKind.wrap_u64]; omega
    · go_wp2_with fail
      go_meet
      refine ⟨?_, rfl⟩
      congr 1
      rw [IntKind.wrap_u64]; omega
  case rest =>
    obtain ⟨rfl, rfl⟩ := hcut
    have HX := Lib.hid hx
    clear hx
    have hR0 := WholeAt.new w false (.slice none 0 0)
    have hb0 : Below w.heap.size w (w.alloc (.cells #[.bool false, .slice none 0 0] 24)) := (Below.refl _ w).alloc (Nat.le_refl _) _
    go_wp2_with fail
    go_loopw [3, 4] (fun u v wr => ∃ k X, u = .int .u64 ((X : Nat) : Int) ∧ Hid (X = x / 65536 ^ k) ∧ X < 18446744073709551616 ∧ k ≤ ln b16 x ∧ Hid (lenV v = k) ∧ wr.ownsRow (w.heap.size + 1) 48 1 v k (nums .u16 k (dgt b16 x)) ∧ WholeAt wr w.heap.size false (.slice none 0 0) ∧ Below w.heap.size w wr) (fun _ v _ => ln b16 x - lenV v)
    case atStart => exact ⟨0, x, rfl, Lib.hid (by simp), hx64, Nat.zero_le _, Lib.hid rfl, World.ownsRow_nil .., hR0, hb0⟩
    case round =>
      obtain ⟨k, X, rfl, hX, hX64, hk, hlv, hown, hp, hbl⟩ := hrel
      have hsz := hbl.size
      have hpl := hp.lt
      by_cases hX0 : 0 < X
      · have t1 : (0 : Int) < (X : Int) := by omega
        have hd : X % 65536 = dgt b16 x k := by rw [hX.out]; rfl
        have hk9 : k < ln b16 x := ln16_step.1 (by rw [← hX.out]; exact hX0)
        have hdl := dgt16_lt x k
        have e3 : (X : Int) % 65536 = ((dgt b16 x k : Nat) : Int) := by omega
        have HD := Lib.hid hd
        clear hd
        go_wp2_with (at_builtin; refine wpList_append_own _ rfl _ _ 22 rfl (w.heap.size + 1) 48 i0 (.int .u16 0) 1 2 Tryz.underlying22 hi hz0 hz1 hz2 rfl (by decide) _ _ _ rfl (hown.alloc _) ⟨wr.heap.size, 0, none⟩ 1 1 [.int .u16 ((dgt b16 x k : Nat) : Int)] rfl rfl (cell_one_new _ _ _) (by simp [Value.oneCell']) (by unfold maxLen; omega) (by omega) (by simp; omega) ?_; intro v' w5 hown5 hgrow _; obtain ⟨g', cap', rfl⟩ := ownsRow_succ hown5)
        go_roundw
        case rel =>
          rw [nums_succ] at hown5
          exact ⟨k + 1, X / 65536, by congr 1, Lib.hid (by rw [hX.out, Nat.div_div_eq_div_mul, Nat.pow_succ]), by omega, hk9, Lib.hid rfl, hown5, (hp.alloc' _).grown hgrow (own_not hown (Nat.lt_succ_self _)), (hbl.alloc hsz (.cells #[.int .u16 ((dgt b16 x k : Nat) : Int)] 48)).grown hgrow (by simp; omega) (fun g hg => by have := (hown.lt g hg).1; omega)⟩
        case measure => show ln b16 x - (k + 1) < ln b16 x - lenV u4; rw [hlv.out]; omega
      · obtain rfl : X = 0 := by omega
        have hkk : k = ln b16 x := by
          have := mt ln16_step.2 (by rw [← hX.out]; decide : ¬ 0 < x / 65536 ^ k)
          omega
        subst hkk
        obtain ⟨A, c, rfl⟩ := own_slice16 hown
        have hm := make_any (decide (z < 0)) A (ln b16 x) c wr
        rw [show (decide (z < 0) && decide (0 < ln b16 x)) = decide (z < 0) by
          by_cases hz : z < 0
          · have := (ln_pos b16_two (x := x)).2 (by have := HX.out; omega)
            simp [hz, this]
          · simp [hz]] at hm
        have HM := Lib.hid hm
        clear hm
        obtain ⟨s, hs⟩ : ∃ s, s = decide (z < 0) := ⟨_, rfl⟩
        rw [← hs] at HM
        have HS := Lib.hid hs
        go_wp2_with fail
        rw [← HS.out]
        clear hs
        refine HM.out.mono ?_
        rintro e w5 ⟨rfl, hb5⟩
        have hR5 := hp.below hb5 hpl
        have hbl5 := hbl.trans (hb5.mono hsz)
        have ho5 : Own16 (w.heap.size + 1) w5 A (ln b16 x) c (dgt b16 x) := own_below hown hb5 (Nat.le_refl _)
        obtain ⟨r0, r1⟩ := hR5.cells
        have g0 := hR5.frozen 0
        have g1 := hR5.frozen 1
        obtain ⟨hW, hbW⟩ := store_whole hR5 hbl5 (Nat.le_refl _) s (.slice A (ln b16 x) c)
        have ho6 := (store_own (R := w.heap.size) ho5 (Nat.lt_succ_self _) s (.slice A (ln b16 x) c)).lower (base' := w.heap.size) (by omega)
        have HW := Lib.hid hW
        clear hW ho5 hown
        go_wp2_with fail
        have hW := HW.out
        clear HW hR5 r0 r1
        generalize ((w5.setCell ⟨w.heap.size, 0, none⟩ (.bool s)).setCell ⟨w.heap.size, 1, none⟩ (.slice A (ln b16 x) c)) = WW at *
        obtain ⟨k0, k1⟩ := hW.cells
        refine bodyPost_ret (v := .agg #[.bool s, .slice A (ln b16 x) c]) (by simp [results, Tryz.results45, go_sem, k0, k1]) rfl ?_
        rw [HX.out] at ho6 ⊢
        rw [HS.out]
        exact ⟨A, c, rfl, ho6, hbW⟩

theorem TwoP.start (w : World) (s t : Bool) (A B : Option Addr) (n m c d : Nat) : TwoP w s t A B n m c d ((w.alloc (.cells #[.bool s, .slice A n c] 24)).alloc (.cells #[.bool t, .slice B m d] 24)) := by
  have b1 : Below w.heap.size w (w.alloc (.cells #[.bool s, .slice A n c] 24)) := (Below.refl _ w).alloc (Nat.le_refl _) _
  have q1 := WholeAt.new (w.alloc (.cells #[.bool s, .slice A n c] 24)) t (.slice B m d)
  rw [World.size_alloc] at q1
  exact ⟨(Below.heap_alloc _ _ _ (by simp)).trans (WholeAt.new w s (.slice A n c)), q1, b1.alloc b1.size _⟩
theorem TwoP.drewN {w : World} {s t : Bool} {A B : Option Addr} {n m c d : Nat} {w' : World} (h : TwoP w s t A B n m c d w') (q : Nat) : TwoP w s t A B n m c d (w'.drewN q) := ⟨h.p0, h.p1, belowN h.bel q⟩
set_option maxRecDepth 100000 in
set_option maxHeartbeats 1000000 in
theorem refSame_any (s t : Bool) (A B : Option Addr) (n m c d : Nat) (f h : Nat → Nat) (w : World) (hA : Rd w.heap.size .u16 w A n f) (hB : Rd w.heap.size .u16 w B m h) (hn : n ≤ 1000000) (hm : m ≤ 1000000) :
    Calls Tryz.prog 52 #[.agg #[.bool s, .slice A n c], .agg #[.bool t, .slice B m d]] w fun e w' => e = .returned (.bool (sameW s t n m f h)) ∧ Below w.heap.size w w' := by
  have hT := TwoP.start w s t A B n m c d
  by_cases hst : s = t
  · subst hst
    by_cases hl : n = m
    · subst hl
      go_enter Tryz.func52, Tryz.ntmps52
      go_wp2_with fail
      go_loopw [5] (fun i wr => ∃ k : Nat, k ≤ n ∧ i = .int .i64 (k : Int) ∧ Hid (eqU f h k = true) ∧ TwoP w s s A B n n c d wr) (fun i _ => n - (intOf i).toNat)
      case atStart => exact ⟨0, Nat.zero_le _, rfl, Lib.hid rfl, hT⟩
      case round =>
        obtain ⟨k, hk, rfl, hok, hT⟩ := hrel
        obtain ⟨p0, p1⟩ := hT.p0.cells
        obtain ⟨p2, p3⟩ := hT.p1.cells
        by_cases hlt : k < n
        · obtain ⟨pa, qa, rfl, hpa, hca⟩ := (hA.below hT.bel) (by omega)
          obtain ⟨pb, qb, rfl, hpb, hcb⟩ := (hB.below hT.bel) (by omega)
          have c1 := hca k hlt
          have c2 := hcb k hlt
          clear hca hcb
          by_cases he : f k = h k
          · have t1 : (((f k : Nat) : Int) != ((h k : Nat) : Int)) = false := by rw [he]; simp
            have HE := Lib.hid he
            clear he
            go_wp2_with fail
            go_quiet (fail)
            go_wp2
            go_roundw
            case rel => exact ⟨k + 1, by omega, by go_num, Lib.hid (eqU_step hok.out HE.out), hT.drewN _⟩
            case measure => simp [intOf]; omega
          · have t1 : (((f k : Nat) : Int) != ((h k : Nat) : Int)) = true := bne_iff_ne.2 (by omega)
            have hfin : sameW s s n n f h = false := by unfold sameW eqL; rw [eqU_false hlt he, Bool.and_false, Bool.and_false]
            have HF := Lib.hid hfin
            clear hfin he
            go_wp2_with fail
            go_quiet (fail)
            go_wp2
            go_ret
            exact ⟨ret_bool HF.out.symm, (hT.drewN _).bel⟩
        · obtain rfl : k = n := by omega
          have hfin : sameW s s k k f h = true := by unfold sameW eqL; rw [hok.out]; simp
          have HF := Lib.hid hfin
          clear hfin
          go_wp2_with fail
          go_ret
          exact ⟨ret_bool HF.out.symm, hT.bel⟩
    · have t0 : ((n : Int) != (m : Int)) = true := bne_iff_ne.2 (by omega)
      have hfin : sameW s s n m f h = false := by unfold sameW eqL; rw [beq_false_of_ne hl, Bool.false_and, Bool.and_false]
      have HF := Lib.hid hfin
      clear hfin
      go_enter Tryz.func52, Tryz.ntmps52
      go_wp2_with fail
      go_ret
      exact ⟨ret_bool HF.out.symm, hT.bel⟩
  · have t0 : (s == t) = false := by simp [hst]
    have hfin : sameW s t n m f h = false := by unfold sameW; rw [t0, Bool.false_and]
    have HF := Lib.hid hfin
    clear hfin
    go_enter Tryz.func52, Tryz.ntmps52
    go_wp2_with fail
    go_ret
    exact ⟨ret_bool HF.out.symm, hT.bel⟩
theorem eqU_iff {f h : Nat → Nat} {n : Nat} : eqU f h n = true ↔ ∀ i, i < n → f i = h i := by
  induction n with
  | zero => simp [eqU]
  | succ n ih =>
    simp only [eqU, Bool.and_eq_true, ih, beq_iff_eq]
    exact ⟨fun ⟨h1, h2⟩ i hi => by
      rcases Nat.lt_or_ge i n with h3 | h3
      · exact h1 i h3
      · rw [show i = n by omega]; exact h2, fun h => ⟨fun i hi => h i (by omega), h n (by omega)⟩⟩
/-- Two numbers are the same where they are equal. -/
theorem sameW_num (a b : Int) : sameW (decide (a < 0)) (decide (b < 0)) (ln b16 a.natAbs) (ln b16 b.natAbs) (dgt b16 a.natAbs) (dgt b16 b.natAbs) = decide (a = b) := by
  by_cases hab : a = b
  · subst hab
    simp [sameW, eqL, eqU_iff.2 (fun i _ => rfl)]
  · rw [decide_eq_false hab]
    unfold sameW eqL
    by_cases hs : decide (a < 0) = decide (b < 0)
    · rw [hs, beq_self_eq_true, Bool.true_and]
      by_cases hl : ln b16 a.natAbs = ln b16 b.natAbs
      · rw [hl, beq_self_eq_true, Bool.true_and]
        cases he : eqU (dgt b16 a.natAbs) (dgt b16 b.natAbs) (ln b16 b.natAbs) with
        | false => rfl
        | true =>
          have h1 := vs_congr (B := b16) (eqU_iff.1 he)
          rw [← hl, vs_dgt_ln b16_two, hl, vs_dgt_ln b16_two] at h1
          exfalso
          by_cases h0 : a < 0 <;> by_cases h00 : b < 0 <;> simp [h0, h00] at hs <;> omega
      · rw [beq_false_of_ne hl, Bool.false_and]
    · rw [beq_false_of_ne hs, Bool.false_and]
end Go.Proofs.YtifikcemcflgjaaGreat
namespace Go.Proofs.YtifikcemcflgjaaGreat
open Go.RowKit

theorem fd_unique {a b q r : Int} (h : a = q * b + r) (hr : (0 ≤ r ∧ r < b) ∨ (b < r ∧ r ≤ 0)) : q = a.fdiv b ∧ r = a.fmod b := by
  rcases hr with ⟨h1, h2⟩ | ⟨h1, h2⟩
  · have hb : 0 < b := by omega
    rw [Int.fdiv_eq_ediv_of_nonneg _ (by omega), Int.fmod_eq_emod_of_nonneg _ (by omega)]
    have := (Int.ediv_emod_unique hb (a := a) (q := q) (r := r)).2 ⟨by rw [h, Int.mul_comm]; omega, h1, h2⟩
    exact ⟨this.1.symm, this.2.symm⟩
  · have hb : 0 < -b := by omega
    have e1 : a.fdiv b = (-a).fdiv (-b) := by rw [Int.neg_fdiv_neg]
    have hm := Int.mul_fdiv_add_fmod a b
    have hm' := Int.mul_fdiv_add_fmod (-a) (-b)
    rw [← e1] at hm'
    have e2 : a.fmod b = - (-a).fmod (-b) := by rw [Int.neg_mul] at hm'; omega
    rw [e1, e2, Int.fdiv_eq_ediv_of_nonneg _ (by omega), Int.fmod_eq_emod_of_nonneg _ (by omega)]
    have := (Int.ediv_emod_unique hb (a := -a) (q := q) (r := -r)).2 ⟨by rw [h, Int.neg_mul, Int.mul_comm b q]; omega, by omega, by omega⟩
    exact ⟨this.1.symm, by omega⟩
theorem fd_spec (a : Int) {b : Int} (hb : b ≠ 0) : a = a.fdiv b * b + a.fmod b ∧ ((0 ≤ a.fmod b ∧ a.fmod b < b) ∨ (b < a.fmod b ∧ a.fmod b ≤ 0)) := by
  have h : a = a.fdiv b * b + a.fmod b := by rw [Int.mul_comm]; exact (Int.mul_fdiv_add_fmod a b).symm
  refine ⟨h, ?_⟩
  rcases Int.lt_or_gt_of_ne hb with h0 | h0
  · right
    have e1 : a.fdiv b = (-a).fdiv (-b) := by rw [Int.neg_fdiv_neg]
    have hm' := Int.mul_fdiv_add_fmod (-a) (-b)
    rw [← e1, Int.neg_mul, Int.mul_comm b] at hm'
    have h1 := Int.emod_nonneg (-a) (b := -b) (by omega)
    have h2 := Int.emod_lt_of_pos (-a) (b := -b) (by omega)
    rw [Int.fmod_eq_emod_of_nonneg _ (by omega)] at hm'
    omega
  · left
    have h1 := Int.emod_nonneg a (b := b) (by omega)
    have h2 := Int.emod_lt_of_pos a (b := b) (by omega)
    rw [Int.fmod_eq_emod_of_nonneg _ (by omega)]
    exact ⟨h1, h2⟩
theorem toI_cases (a : Int) : (decide (a < 0) = true ∧ a = -(a.natAbs : Int) ∧ 0 < a.natAbs) ∨ (decide (a < 0) = false ∧ a = (a.natAbs : Int)) := by
  by_cases h : a < 0
  · left; simp [h]; omega
  · right; simp [h]; omega
theorem floor_same (a : Int) {b : Int} (hb : b ≠ 0) (h : ¬ (decide (a < 0) ≠ decide (b < 0) ∧ 0 < a.natAbs % b.natAbs)) :
    toI (decide (a < 0) != decide (b < 0)) (a.natAbs / b.natAbs) = a.fdiv b ∧ toI (decide (b < 0)) (a.natAbs % b.natAbs) = a.fmod b := by
  have hy : 0 < b.natAbs := by omega
  have hd := Nat.div_add_mod a.natAbs b.natAbs
  have hm := Nat.mod_lt a.natAbs hy
  obtain ⟨q, hq⟩ : ∃ q, q = a.natAbs / b.natAbs := ⟨_, rfl⟩
  obtain ⟨r, hr⟩ : ∃ r, r = a.natAbs % b.natAbs := ⟨_, rfl⟩
  rw [← hq, ← hr] at hd ⊢
  rw [← hr] at hm h
  have hd' : (b.natAbs : Int) * (q : Int) + (r : Int) = (a.natAbs : Int) := by rw [← Int.natCast_mul]; omega
  have hrr : (toI (decide (b < 0)) r = toI (decide (b < 0)) r) := rfl
  rcases toI_cases a with ⟨sa, ea, pa⟩ | ⟨sa, ea⟩ <;> rcases toI_cases b with ⟨sb, eb, pb⟩ | ⟨sb, eb⟩ <;> rw [sa, sb] at h ⊢ <;> simp only [toI] <;> generalize a.natAbs = x at * <;> generalize b.natAbs = y at * <;> subst ea <;> subst eb <;>
    refine fd_unique ?_ ?_ <;> simp at h ⊢ <;> (try simp only [Int.mul_comm (q : Int) (y : Int), Int.mul_neg, Int.neg_mul, Int.neg_neg]) <;> (try (subst h)) <;> (try simp) <;> (try omega)
theorem floor_up (a : Int) {b : Int} (hb : b ≠ 0) (h : decide (a < 0) ≠ decide (b < 0)) (h0 : 0 < a.natAbs % b.natAbs) :
    toI (decide (a < 0) != decide (b < 0)) (a.natAbs / b.natAbs + 1) = a.fdiv b ∧ toI (decide (b < 0)) (b.natAbs - a.natAbs % b.natAbs) = a.fmod b := by
  have hy : 0 < b.natAbs := by omega
  have hd := Nat.div_add_mod a.natAbs b.natAbs
  have hm := Nat.mod_lt a.natAbs hy
  obtain ⟨q, hq⟩ : ∃ q, q = a.natAbs / b.natAbs := ⟨_, rfl⟩
  obtain ⟨r, hr⟩ : ∃ r, r = a.natAbs % b.natAbs := ⟨_, rfl⟩
  rw [← hq, ← hr] at hd ⊢
  rw [← hr] at hm h0
  have hd' : (b.natAbs : Int) * (q : Int) + (r : Int) = (a.natAbs : Int) := by rw [← Int.natCast_mul]; omega
  rcases toI_cases a with ⟨sa, ea, pa⟩ | ⟨sa, ea⟩ <;> rcases toI_cases b with ⟨sb, eb, pb⟩ | ⟨sb, eb⟩ <;> rw [sa, sb] at h ⊢ <;> simp only [toI] <;> generalize a.natAbs = x at * <;> generalize b.natAbs = y at * <;> subst ea <;> subst eb <;>
    refine fd_unique ?_ ?_ <;> simp at h ⊢ <;> (try rw [show ((y - r : Nat) : Int) = (y : Int) - r by omega]) <;> (try simp only [Int.add_mul, Int.mul_comm (q : Int) (y : Int), Int.mul_neg, Int.neg_mul, Int.neg_neg, Int.neg_add, Int.one_mul]) <;> (try omega)
end Go.Proofs.YtifikcemcflgjaaGreat
/-! The walk of whole.DivMod. -/
namespace Go.Proofs.YtifikcemcflgjaaGreat
open Go.RowKit

/-- The boxes of the two arguments and two results' variables. -/
structure Two2 (w : World) (s t : Bool) (A B : Option Addr) (n m c d : Nat) (w' : World) : Prop where
  p0 : WholeAt w' w.heap.size s (.slice A n c)
  p1 : WholeAt w' (w.heap.size + 1) t (.slice B m d)
  r : WholeAt w' (w.heap.size + 1 + 1) false (.slice none 0 0)
  q : WholeAt w' (w.heap.size + 1 + 1 + 1) false (.slice none 0 0)
  bel : Below w.heap.size w w'
theorem WholeAt.alloc {w : World} {g : Nat} {s : Bool} {v : Value} (h : WholeAt w g s v) (o : Obj) : WholeAt (w.alloc o) g s v := (Below.heap_alloc _ _ _ h.lt).trans h
theorem WholeAt.fresh {w : World} {g : Nat} (s : Bool) (v : Value) (h : w.heap.size = g) : WholeAt (w.alloc (.cells #[.bool s, v] 24)) g s v := by subst h; exact WholeAt.new w s v
theorem two_call3 (s t : Bool) (A B : Option Addr) (n m c d : Nat) (f h : Nat → Nat) (w : World)
    (hA : Rd w.heap.size .u16 w A n f) (hB : Rd w.heap.size .u16 w B m h) (hf : ∀ i, f i < 65536) (hh : ∀ i, h i < 65536) (hn : n ≤ 1000000) (hm : m ≤ 1000000) :
    Calls Tryz.prog 83 #[.slice (some ⟨w.heap.size + 1 + 1 + 1 + 1, 0, none⟩) 2 2]
      (((((w.alloc (.cells #[.bool s, .slice A n c] 24)).alloc (.cells #[.bool t, .slice B m d] 24)).alloc (.cells #[.bool false, .slice none 0 0] 24)).alloc (.cells #[.bool false, .slice none 0 0] 24)).alloc (.cells #[.bool s, .slice A n c, .bool t, .slice B m d] 24))
      fun e w' => e = .returned (.bool (okW s n f && okW t m h)) ∧ Two2 w s t A B n m c d w' := by
  have z1 : (w.alloc (.cells #[.bool s, .slice A n c] 24)).heap.size = w.heap.size + 1 := World.size_alloc ..
  obtain ⟨w1, hw1⟩ : ∃ w1, w1 = w.alloc (.cells #[.bool s, .slice A n c] 24) := ⟨_, rfl⟩
  have b1 : Below w.heap.size w w1 := by rw [hw1]; exact (Below.refl _ w).alloc (Nat.le_refl _) _
  have q0 : WholeAt w1 w.heap.size s (.slice A n c) := by rw [hw1]; exact WholeAt.new w s _
  rw [← hw1] at z1 ⊢
  obtain ⟨w2, hw2⟩ : ∃ w2, w2 = w1.alloc (.cells #[.bool t, .slice B m d] 24) := ⟨_, rfl⟩
  have z2 : w2.heap.size = w.heap.size + 1 + 1 := by rw [hw2, World.size_alloc, z1]
  have b2 : Below w.heap.size w w2 := by rw [hw2]; exact b1.alloc b1.size _
  have q1 : WholeAt w2 (w.heap.size + 1) t (.slice B m d) := by rw [hw2]; exact WholeAt.fresh t _ z1
  have q0 : WholeAt w2 w.heap.size s (.slice A n c) := by rw [hw2]; exact q0.alloc _
  rw [← hw2]
  obtain ⟨w3, hw3⟩ : ∃ w3, w3 = w2.alloc (.cells #[.bool false, .slice none 0 0] 24) := ⟨_, rfl⟩
  have z3 : w3.heap.size = w.heap.size + 1 + 1 + 1 := by rw [hw3, World.size_alloc, z2]
  have b3 : Below w.heap.size w w3 := by rw [hw3]; exact b2.alloc b2.size _
  have q2 : WholeAt w3 (w.heap.size + 1 + 1) false (.slice none 0 0) := by rw [hw3]; exact WholeAt.fresh _ _ z2
  have q1 : WholeAt w3 (w.heap.size + 1) t (.slice B m d) := by rw [hw3]; exact q1.alloc _
  have q0 : WholeAt w3 w.heap.size s (.slice A n c) := by rw [hw3]; exact q0.alloc _
  rw [← hw3]
  obtain ⟨w4, hw4⟩ : ∃ w4, w4 = w3.alloc (.cells #[.bool false, .slice none 0 0] 24) := ⟨_, rfl⟩
  have z4 : w4.heap.size = w.heap.size + 1 + 1 + 1 + 1 := by rw [hw4, World.size_alloc, z3]
  have b4 : Below w.heap.size w w4 := by rw [hw4]; exact b3.alloc b3.size _
  have q3 : WholeAt w4 (w.heap.size + 1 + 1 + 1) false (.slice none 0 0) := by rw [hw4]; exact WholeAt.fresh _ _ z3
  have q2 : WholeAt w4 (w.heap.size + 1 + 1) false (.slice none 0 0) := by rw [hw4]; exact q2.alloc _
  have q1 : WholeAt w4 (w.heap.size + 1) t (.slice B m d) := by rw [hw4]; exact q1.alloc _
  have q0 : WholeAt w4 w.heap.size s (.slice A n c) := by rw [hw4]; exact q0.alloc _
  rw [← hw4]
  have q4 := heap_alloc_new w4 (.cells #[.bool s, .slice A n c, .bool t, .slice B m d] 24)
  rw [z4] at q4
  have b5 := b4.alloc b4.size (.cells #[.bool s, .slice A n c, .bool t, .slice B m d] 24)
  refine (allValid_two (w.heap.size + 1 + 1 + 1 + 1) s t A B n m c d f h _ q4 ((hA.below b5).more b5.size) ((hB.below b5).more b5.size) hf hh hn hm).mono ?_
  rintro e w' ⟨rfl, hb⟩
  exact ⟨rfl, (q0.alloc _).below hb (q0.alloc _).lt, (q1.alloc _).below hb (q1.alloc _).lt, (q2.alloc _).below hb (q2.alloc _).lt, (q3.alloc _).below hb (q3.alloc _).lt, b5.trans (hb.mono b5.size)⟩

theorem WholeAt.other {w : World} {g R : Nat} {s : Bool} {v : Value} (h : WholeAt w g s v) (hR : g ≠ R) (s' : Bool) (v' : Value) : WholeAt ((w.setCell ⟨R, 0, none⟩ (.bool s')).setCell ⟨R, 1, none⟩ v') g s v :=
  (Below.heap_setCell _ _ _ _ hR).trans ((Below.heap_setCell _ _ _ _ hR).trans h)
/-- The call returned two zero values and an error. -/
def ErrW2 (k : Int) (w : World) (e : Ending) (w' : World) : Prop := e = .returned (.tuple #[.agg #[.bool false, .slice none 0 0], .agg #[.bool false, .slice none 0 0], .int .i64 k]) ∧ Below w.heap.size w w'
set_option maxRecDepth 100000 in
set_option maxHeartbeats 1000000 in
theorem divMod_bad (s t : Bool) (A B : Option Addr) (n m c d : Nat) (f h : Nat → Nat) (w : World)
    (hA : Rd w.heap.size .u16 w A n f) (hB : Rd w.heap.size .u16 w B m h) (hf : ∀ i, f i < 65536) (hh : ∀ i, h i < 65536) (hn : n ≤ 1000000) (hm : m ≤ 1000000)
    (hok : (okW s n f && okW t m h) = false) :
    Calls Tryz.prog 94 #[.agg #[.bool s, .slice A n c], .agg #[.bool t, .slice B m d]] w (ErrW2 2 w) := by
  go_enter Tryz.func94, Tryz.ntmps94
  go_wp2_with fail
  refine (two_call3 s t A B n m c d f h w hA hB hf hh hn hm).mono ?_
  rintro e w1 ⟨rfl, ht⟩
  rw [hok]
  obtain ⟨r0, r1⟩ := ht.r.cells
  have g0 := ht.r.frozen 0
  have g1 := ht.r.frozen 1
  obtain ⟨r2, r3⟩ := ht.q.cells
  have g2 := ht.q.frozen 0
  have g3 := ht.q.frozen 1
  obtain ⟨hW, hbW⟩ := store_whole ht.r ht.bel (show w.heap.size ≤ w.heap.size + 1 + 1 by omega) false (.slice none 0 0)
  have hQ := ht.q.other (R := w.heap.size + 1 + 1) (by omega) false (.slice none 0 0)
  obtain ⟨hW2, hbW2⟩ := store_whole hQ hbW (show w.heap.size ≤ w.heap.size + 1 + 1 + 1 by omega) false (.slice none 0 0)
  have hW1 := hW.other (R := w.heap.size + 1 + 1 + 1) (by omega) false (.slice none 0 0)
  have H1 := Lib.hid hW1
  have H2 := Lib.hid hW2
  clear hW hQ hW1 hW2
  go_wp2_with fail
  have hW1 := H1.out
  have hW2 := H2.out
  clear H1 H2 ht r0 r1 r2 r3 g0 g1 g2 g3 hbW
  generalize ((((w1.setCell ⟨w.heap.size + 1 + 1, 0, none⟩ (.bool false)).setCell ⟨w.heap.size + 1 + 1, 1, none⟩ (.slice none 0 0)).setCell ⟨w.heap.size + 1 + 1 + 1, 0, none⟩ (.bool false)).setCell ⟨w.heap.size + 1 + 1 + 1, 1, none⟩ (.slice none 0 0)) = WW at *
  obtain ⟨k0, k1⟩ := hW1.cells
  obtain ⟨k2, k3⟩ := hW2.cells
  refine bodyPost_ret (v := .tuple #[.agg #[.bool false, .slice none 0 0], .agg #[.bool false, .slice none 0 0], .int .i64 2]) (by simp [results, Tryz.results94, go_sem, k0, k1, k2, k3]) rfl ?_
  exact ⟨rfl, hbW2⟩
end Go.Proofs.YtifikcemcflgjaaGreat
/-! The walk of whole.DivMod: valid arguments. -/
namespace Go.Proofs.YtifikcemcflgjaaGreat
open Go.RowKit

set_option maxRecDepth 100000 in
set_option maxHeartbeats 1000000 in
theorem divMod_zero (a : Int) (A B : Option Addr) (c d : Nat) (w : World) (hA : Num16 w A a.natAbs) (ha : ln b16 a.natAbs ≤ 1024) :
    Calls Tryz.prog 94 #[.agg #[.bool (decide (a < 0)), .slice A (ln b16 a.natAbs) c], .agg #[.bool false, .slice B 0 d]] w (ErrW2 11 w) := by
  have htwo := two_call3 (decide (a < 0)) false A B (ln b16 a.natAbs) 0 c d _ (fun _ => 0) w hA (Rd.nil) (fun i => dgt16_lt _ i) (fun i => by omega) (by omega) (by omega)
  rw [okW_num ha, show okW false 0 (fun _ => 0) = true from rfl] at htwo
  go_enter Tryz.func94, Tryz.ntmps94
  go_wp2_with fail
  refine htwo.mono ?_
  rintro e w1 ⟨rfl, ht⟩
  obtain ⟨r0, r1⟩ := ht.r.cells
  have g0 := ht.r.frozen 0
  have g1 := ht.r.frozen 1
  obtain ⟨r2, r3⟩ := ht.q.cells
  have g2 := ht.q.frozen 0
  have g3 := ht.q.frozen 1
  obtain ⟨p0, p1⟩ := ht.p0.cells
  obtain ⟨p2, p3⟩ := ht.p1.cells
  obtain ⟨hW, hbW⟩ := store_whole ht.r ht.bel (show w.heap.size ≤ w.heap.size + 1 + 1 by omega) false (.slice none 0 0)
  have hQ := ht.q.other (R := w.heap.size + 1 + 1) (by omega) false (.slice none 0 0)
  obtain ⟨hW2, hbW2⟩ := store_whole hQ hbW (show w.heap.size ≤ w.heap.size + 1 + 1 + 1 by omega) false (.slice none 0 0)
  have hW1 := hW.other (R := w.heap.size + 1 + 1 + 1) (by omega) false (.slice none 0 0)
  have H1 := Lib.hid hW1
  have H2 := Lib.hid hW2
  clear hW hQ hW1 hW2
  go_wp2_with fail
  have hW1 := H1.out
  have hW2 := H2.out
  clear H1 H2 ht r0 r1 r2 r3 g0 g1 g2 g3 hbW p0 p1 p2 p3
  generalize ((((w1.setCell ⟨w.heap.size + 1 + 1, 0, none⟩ (.bool false)).setCell ⟨w.heap.size + 1 + 1, 1, none⟩ (.slice none 0 0)).setCell ⟨w.heap.size + 1 + 1 + 1, 0, none⟩ (.bool false)).setCell ⟨w.heap.size + 1 + 1 + 1, 1, none⟩ (.slice none 0 0)) = WW at *
  obtain ⟨k0, k1⟩ := hW1.cells
  obtain ⟨k2, k3⟩ := hW2.cells
  refine bodyPost_ret (v := .tuple #[.agg #[.bool false, .slice none 0 0], .agg #[.bool false, .slice none 0 0], .int .i64 11]) (by simp [results, Tryz.results94, go_sem, k0, k1, k2, k3]) rfl ?_
  exact ⟨rfl, hbW2⟩
end Go.Proofs.YtifikcemcflgjaaGreat
namespace Go.Proofs.YtifikcemcflgjaaGreat
open Go.RowKit

theorem Two2.below {w : World} {s t : Bool} {A B : Option Addr} {n m c d : Nat} {w' w'' : World} (h : Two2 w s t A B n m c d w') (h2 : Below w'.heap.size w' w'') : Two2 w s t A B n m c d w'' :=
  ⟨h.p0.below h2 h.p0.lt, h.p1.below h2 h.p1.lt, h.r.below h2 h.r.lt, h.q.below h2 h.q.lt, h.bel.trans (h2.mono h.bel.size)⟩
theorem Own16.lt {base : Nat} {w : World} {A : Option Addr} {n c : Nat} {f : Nat → Nat} (h : Own16 base w A n c f) : ∀ p, A = some p → p.block < w.heap.size := by
  intro p hp
  rcases h.2 with ⟨hv, -⟩ | ⟨g, cap, cur, hv, _, hh, _⟩
  · injection hv with e1
    rw [hp] at e1; cases e1
  · injection hv with e1
    rw [hp] at e1
    injection e1 with e1
    subst e1
    exact heap_lt hh
/-- The call returned two whole numbers, in memory of their own (the first one's block lies below m, the second one's from m on). -/
def DM (w : World) (q r : Int) (e : Ending) (w' : World) : Prop :=
  ∃ A c B d m, e = .returned (.tuple #[.agg #[.bool (decide (q < 0)), .slice A (ln b16 q.natAbs) c], .agg #[.bool (decide (r < 0)), .slice B (ln b16 r.natAbs) d], .int .i64 0]) ∧
    Own16 w.heap.size w' A (ln b16 q.natAbs) c (dgt b16 q.natAbs) ∧ (∀ p, A = some p → p.block < m) ∧ w.heap.size ≤ m ∧ Own16 m w' B (ln b16 r.natAbs) d (dgt b16 r.natAbs) ∧ Below w.heap.size w w'
theorem WW.vals {w w' : World} {z : Bool} {x : Nat} {e : Ending} (h : WW w z x e w') : ∃ s A c, e = .returned (.agg #[.bool s, .slice A (ln b16 x) c]) ∧ Hid (s = z) ∧ Own16 w.heap.size w' A (ln b16 x) c (dgt b16 x) ∧ Below w.heap.size w w' := by
  obtain ⟨A, c, he, ho, hb⟩ := h
  exact ⟨z, A, c, he, Lib.hid rfl, ho, hb⟩
theorem num32_one (w : World) : Num32 (w.alloc (.cells #[.int .u32 1] 111)) (some ⟨w.heap.size, 0, none⟩) 1 := fun _ =>
  ⟨w.heap.size, 0, rfl, by simp, fun i hi => by
    have e1 : ln b32 1 = 1 := ln_small b32_two (by decide) (by decide)
    obtain rfl : i = 0 := by omega
    exact cell_of_row _ _ 0 _ _ (0, 0) (heap_alloc_new _ _)⟩
theorem TwoP.storeAt {w : World} {s t : Bool} {A B : Option Addr} {n m c d : Nat} {w' : World} (h : TwoP w s t A B n m c d w') {R : Nat} (hR : w.heap.size + 1 < R) (s' : Bool) (v' : Value) :
    TwoP w s t A B n m c d ((w'.setCell ⟨R, 0, none⟩ (.bool s')).setCell ⟨R, 1, none⟩ v') :=
  have e0 : w.heap.size ≠ R := by omega
  have e1 : w.heap.size + 1 ≠ R := by omega
  have e2 : w.heap.size ≤ R := by omega
  ⟨h.p0.other e0 s' v', h.p1.other e1 s' v', (h.bel.setCell (p := ⟨R, 0, none⟩) e2 _).setCell (p := ⟨R, 1, none⟩) e2 _⟩
set_option maxRecDepth 100000 in
set_option maxHeartbeats 4000000 in
theorem divMod_walk (s t : Bool) (x y : Nat) (zq zr : Int) (A B : Option Addr) (c d : Nat) (w : World) (hA : Num16 w A x) (hB : Num16 w B y) (la : ln b16 x ≤ 1024) (lb : ln b16 y ≤ 1024) (hy : 0 < y)
    (hok : (okW s (ln b16 x) (dgt b16 x) && okW t (ln b16 y) (dgt b16 y)) = true)
    (HSAME : Hid (¬ (s ≠ t ∧ 0 < x % y) → toI (s != t) (x / y) = zq ∧ toI t (x % y) = zr)) (HUP : Hid (s ≠ t → 0 < x % y → toI (s != t) (x / y + 1) = zq ∧ toI t (y - x % y) = zr)) :
    Calls Tryz.prog 94 #[.agg #[.bool s, .slice A (ln b16 x) c], .agg #[.bool t, .slice B (ln b16 y) d]] w (DM w zq zr) := by
  have htwo := two_call3 s t A B (ln b16 x) (ln b16 y) c d _ _ w hA hB (fun i => dgt16_lt _ i) (fun i => dgt16_lt _ i) (by omega) (by omega)
  rw [hok] at htwo
  clear hok
  have la2 := ln32_short la
  have lb2 := ln32_short lb
  have hyl : 0 < ln b16 y := (ln_pos b16_two).2 hy
  have tb0 : (((ln b16 y : Nat) : Int) == 0) = false := beq_eq_false_iff_ne.2 (by omega)
  have hqx : x / y ≤ x := Nat.div_le_self ..
  have hmod := Nat.mod_lt x hy
  have lq : ln b32 (x / y) ≤ 512 := Nat.le_trans (ln_mono b32_two hqx) la2
  have lr : ln b32 (x % y) ≤ 512 := Nat.le_trans (ln_mono b32_two (Nat.le_of_lt hmod)) lb2
  have hcases : (s = t ∨ (s ≠ t ∧ x % y = 0)) ∨ (s ≠ t ∧ 0 < x % y) := by
    by_cases hst : s = t
    · exact .inl (.inl hst)
    · rcases Nat.eq_zero_or_pos (x % y) with h0 | h0
      · exact .inl (.inr ⟨hst, h0⟩)
      · exact .inr ⟨hst, h0⟩
  go_enter Tryz.func94, Tryz.ntmps94
  go_wp2_with fail
  refine htwo.mono ?_
  rintro e w1 ⟨rfl, ht⟩
  obtain ⟨p2, p3⟩ := ht.p1.cells
  go_wp2_with fail
  refine (pack_any B d y w1 (Num16.below hB ht.bel) (by omega)).mono ?_
  rintro e w2 ⟨A2, c2, rfl, hc2, hn2, hb2⟩
  have ht2 := ht.below hb2
  clear ht p2 p3
  obtain ⟨p0, p1⟩ := ht2.p0.cells
  obtain ⟨p2, p3⟩ := ht2.p1.cells
  go_wp2_with fail
  refine (pack_any A c x w2 (Num16.below hA ht2.bel) (by omega)).mono ?_
  rintro e w3 ⟨A3, c3, rfl, hc3, hn3, hb3⟩
  have ht3 := ht2.below hb3
  have hn2' := Num32.below hn2 hb3
  clear ht2 p0 p1 p2 p3
  go_wp2_with fail
  refine (divide_any A3 A2 c3 c2 x y w3 hn3 hn2' hy (by omega)).mono ?_
  rintro e w4 ⟨A4, c4, A5, c5, rfl, hc4, hc5, hn4, hn5, hb4⟩
  have ht4 := ht3.below hb4
  have hn2'' := Num32.below hn2' hb4
  clear ht3 hn2' hn2
  obtain ⟨p0, p1⟩ := ht4.p0.cells
  obtain ⟨p2, p3⟩ := ht4.p1.cells
  rcases hcases with (hst | ⟨hst, hr0⟩) | ⟨hst, hrp⟩
  · subst hst
    have hz : (s != s) = false := by simp
    obtain ⟨hq, hr⟩ := HSAME.out (by simp)
    rw [hz] at hq
    have HQ := Lib.hid hq
    have HR := Lib.hid hr
    clear hq hr hz
    go_wp2_with fail
    have ht0 : Two2 w s s A B (ln b16 x) (ln b16 y) c d w4.drew := ⟨ht4.p0, ht4.p1, ht4.r, ht4.q, ht4.bel.drew⟩
    have D1 := Lib.hid fun (w' : World) (hw' : Below w4.heap.size w4 w') => unpack_any false _ _ _ w' (Num32.below hn4 hw') hc4 (by omega)
    have D2 := Lib.hid fun (w' : World) (hw' : Below w4.heap.size w4 w') => unpack_any s _ _ _ w' (Num32.below hn5 hw') hc5 (by omega)
    have hrefl := (Below.refl w4.heap.size w4).drew
    have hl1 := ht4.r.lt
    have hl2 := ht4.q.lt
    clear p0 p1 p2 p3 ht4
    go_region_held3 (fun w' => w'.cell? ⟨w.heap.size, 0, none⟩ = some (.bool s) ∧ w'.cell? ⟨w.heap.size + 1, 0, none⟩ = some (.bool s) ∧ TwoP w s s A B (ln b16 x) (ln b16 y) c d w')
      (first | with_reducible exact ⟨hP4.p0.cells.1, hP4.p1.cells.1, hP4⟩ | with_reducible exact ⟨hP3.p0.cells.1, hP3.p1.cells.1, hP3⟩ | with_reducible exact ⟨hP2.p0.cells.1, hP2.p1.cells.1, hP2⟩ | with_reducible exact ⟨hP1.p0.cells.1, hP1.p1.cells.1, hP1⟩ | with_reducible exact ⟨ht0.p0.cells.1, ht0.p1.cells.1, ht0.p0, ht0.p1, ht0.bel⟩)
      (first
        | (go_at_call_of 115 (Value.bool false); refine (D1.out _ hrefl).mono ?_; rintro e w5 hww1; obtain ⟨s1, B1, d1, rfl, hS1, hO1, hb5⟩ := hww1.vals; have ht1 := ht0.below hb5; have hP1 : TwoP w s s A B (ln b16 x) (ln b16 y) c d w5 := ⟨ht1.p0, ht1.p1, ht1.bel⟩)
        | (go_at_call_of 115 (Value.bool s); refine (D2.out _ (hrefl.trans (hb5.mono hrefl.size))).mono ?_; rintro e w6 hww2; obtain ⟨s2, B2, d2, rfl, hS2, hO2, hb6⟩ := hww2.vals; have ht2 := ht1.below hb6; have hP2 : TwoP w s s A B (ln b16 x) (ln b16 y) c d w6 := ⟨ht2.p0, ht2.p1, ht2.bel⟩; obtain ⟨r0, r1⟩ := ht2.r.cells; have g0 := ht2.r.frozen 0; have g1 := ht2.r.frozen 1; obtain ⟨r2, r3⟩ := ht2.q.cells; have g2 := ht2.q.frozen 0; have g3 := ht2.q.frozen 1; have hP3 := hP2.storeAt (R := w.heap.size + 1 + 1) (by omega) s1 (.slice B1 (ln b16 (x / y)) d1); have hP4 := hP3.storeAt (R := w.heap.size + 1 + 1 + 1) (by omega) s2 (.slice B2 (ln b16 (x % y)) d2)))
    obtain ⟨hW, hbW⟩ := store_whole ht2.r ht2.bel (show w.heap.size ≤ w.heap.size + 1 + 1 by omega) s1 (.slice B1 (ln b16 (x / y)) d1)
    have hQ := ht2.q.other (R := w.heap.size + 1 + 1) (by omega) s1 (.slice B1 (ln b16 (x / y)) d1)
    obtain ⟨hW2, hbW2⟩ := store_whole hQ hbW (show w.heap.size ≤ w.heap.size + 1 + 1 + 1 by omega) s2 (.slice B2 (ln b16 (x % y)) d2)
    have hW1 := hW.other (R := w.heap.size + 1 + 1 + 1) (by omega) s2 (.slice B2 (ln b16 (x % y)) d2)
    have hl5 : w4.heap.size ≤ w5.heap.size := hb5.size
    have o1 := store_own (store_own (hO1.below hb6 (Nat.le_refl _)) hl1 s1 (.slice B1 (ln b16 (x / y)) d1)) hl2 s2 (.slice B2 (ln b16 (x % y)) d2)
    have o2 := store_own (store_own hO2 (Nat.lt_of_lt_of_le hl1 hl5) s1 (.slice B1 (ln b16 (x / y)) d1)) (Nat.lt_of_lt_of_le hl2 hl5) s2 (.slice B2 (ln b16 (x % y)) d2)
    have o1l := hO1.lt
    clear hW hQ r0 r1 r2 r3 g0 g1 g2 g3 ht0 ht1 ht2 hP1 hP2 hP3 hP4 hbW hO1 hO2 D1 D2
    go_wp2
    generalize ((((w6.setCell ⟨w.heap.size + 1 + 1, 0, none⟩ (.bool s1)).setCell ⟨w.heap.size + 1 + 1, 1, none⟩ (.slice B1 (ln b16 (x / y)) d1)).setCell ⟨w.heap.size + 1 + 1 + 1, 0, none⟩ (.bool s2)).setCell ⟨w.heap.size + 1 + 1 + 1, 1, none⟩ (.slice B2 (ln b16 (x % y)) d2)) = W7 at *
    obtain ⟨k0, k1⟩ := hW1.cells
    obtain ⟨k2, k3⟩ := hW2.cells
    refine bodyPost_ret (v := .tuple #[.agg #[.bool s1, .slice B1 (ln b16 (x / y)) d1], .agg #[.bool s2, .slice B2 (ln b16 (x % y)) d2], .int .i64 0]) (by simp [results, Tryz.results94, go_sem, k0, k1, k2, k3]) rfl ?_
    rw [← HQ.out, ← HR.out]
    exact ⟨B1, d1, B2, d2, w5.heap.size, by rw [toI_neg, toI_abs, toI_neg, toI_abs, hS1.out, hS2.out], by rw [toI_abs]; exact o1.lower (show w.heap.size ≤ w4.heap.size by omega), o1l, by omega, by rw [toI_abs]; exact o2, hbW2⟩
  · have hz : (s != t) = true := bne_iff_ne.2 hst
    have t1 : (s == t) = false := beq_eq_false_iff_ne.2 hst
    have hl0 : ((ln b32 (x % y) : Nat) : Int) ≤ 0 := by rw [hr0, ln_zero]; decide
    have t2 : decide ((0 : Int) < ((ln b32 (x % y) : Nat) : Int)) = false := decide_eq_false (by omega)
    obtain ⟨hq, hr⟩ := HSAME.out (fun h => by omega)
    rw [hz] at hq
    have HQ := Lib.hid hq
    have HR := Lib.hid hr
    clear hq hr hr0 hz
    go_wp2_with fail
    have ht0 : Two2 w s t A B (ln b16 x) (ln b16 y) c d w4.drew := ⟨ht4.p0, ht4.p1, ht4.r, ht4.q, ht4.bel.drew⟩
    have D1 := Lib.hid fun (w' : World) (hw' : Below w4.heap.size w4 w') => unpack_any true _ _ _ w' (Num32.below hn4 hw') hc4 (by omega)
    have D2 := Lib.hid fun (w' : World) (hw' : Below w4.heap.size w4 w') => unpack_any t _ _ _ w' (Num32.below hn5 hw') hc5 (by omega)
    have hrefl := (Below.refl w4.heap.size w4).drew
    have hl1 := ht4.r.lt
    have hl2 := ht4.q.lt
    clear p0 p1 p2 p3 ht4
    go_region_held3 (fun w' => w'.cell? ⟨w.heap.size, 0, none⟩ = some (.bool s) ∧ w'.cell? ⟨w.heap.size + 1, 0, none⟩ = some (.bool t) ∧ TwoP w s t A B (ln b16 x) (ln b16 y) c d w')
      (first | with_reducible exact ⟨hP4.p0.cells.1, hP4.p1.cells.1, hP4⟩ | with_reducible exact ⟨hP3.p0.cells.1, hP3.p1.cells.1, hP3⟩ | with_reducible exact ⟨hP2.p0.cells.1, hP2.p1.cells.1, hP2⟩ | with_reducible exact ⟨hP1.p0.cells.1, hP1.p1.cells.1, hP1⟩ | with_reducible exact ⟨ht0.p0.cells.1, ht0.p1.cells.1, ht0.p0, ht0.p1, ht0.bel⟩)
      (first
        | (go_at_call_of 115 (Value.bool true); refine (D1.out _ hrefl).mono ?_; rintro e w5 hww1; obtain ⟨s1, B1, d1, rfl, hS1, hO1, hb5⟩ := hww1.vals; have ht1 := ht0.below hb5; have hP1 : TwoP w s t A B (ln b16 x) (ln b16 y) c d w5 := ⟨ht1.p0, ht1.p1, ht1.bel⟩)
        | (go_at_call_of 115 (Value.bool t); refine (D2.out _ (hrefl.trans (hb5.mono hrefl.size))).mono ?_; rintro e w6 hww2; obtain ⟨s2, B2, d2, rfl, hS2, hO2, hb6⟩ := hww2.vals; have ht2 := ht1.below hb6; have hP2 : TwoP w s t A B (ln b16 x) (ln b16 y) c d w6 := ⟨ht2.p0, ht2.p1, ht2.bel⟩; obtain ⟨r0, r1⟩ := ht2.r.cells; have g0 := ht2.r.frozen 0; have g1 := ht2.r.frozen 1; obtain ⟨r2, r3⟩ := ht2.q.cells; have g2 := ht2.q.frozen 0; have g3 := ht2.q.frozen 1; have hP3 := hP2.storeAt (R := w.heap.size + 1 + 1) (by omega) s1 (.slice B1 (ln b16 (x / y)) d1); have hP4 := hP3.storeAt (R := w.heap.size + 1 + 1 + 1) (by omega) s2 (.slice B2 (ln b16 (x % y)) d2)))
    obtain ⟨hW, hbW⟩ := store_whole ht2.r ht2.bel (show w.heap.size ≤ w.heap.size + 1 + 1 by omega) s1 (.slice B1 (ln b16 (x / y)) d1)
    have hQ := ht2.q.other (R := w.heap.size + 1 + 1) (by omega) s1 (.slice B1 (ln b16 (x / y)) d1)
    obtain ⟨hW2, hbW2⟩ := store_whole hQ hbW (show w.heap.size ≤ w.heap.size + 1 + 1 + 1 by omega) s2 (.slice B2 (ln b16 (x % y)) d2)
    have hW1 := hW.other (R := w.heap.size + 1 + 1 + 1) (by omega) s2 (.slice B2 (ln b16 (x % y)) d2)
    have hl5 : w4.heap.size ≤ w5.heap.size := hb5.size
    have o1 := store_own (store_own (hO1.below hb6 (Nat.le_refl _)) hl1 s1 (.slice B1 (ln b16 (x / y)) d1)) hl2 s2 (.slice B2 (ln b16 (x % y)) d2)
    have o2 := store_own (store_own hO2 (Nat.lt_of_lt_of_le hl1 hl5) s1 (.slice B1 (ln b16 (x / y)) d1)) (Nat.lt_of_lt_of_le hl2 hl5) s2 (.slice B2 (ln b16 (x % y)) d2)
    have o1l := hO1.lt
    clear hW hQ r0 r1 r2 r3 g0 g1 g2 g3 ht0 ht1 ht2 hP1 hP2 hP3 hP4 hbW hO1 hO2 D1 D2
    go_wp2
    generalize ((((w6.setCell ⟨w.heap.size + 1 + 1, 0, none⟩ (.bool s1)).setCell ⟨w.heap.size + 1 + 1, 1, none⟩ (.slice B1 (ln b16 (x / y)) d1)).setCell ⟨w.heap.size + 1 + 1 + 1, 0, none⟩ (.bool s2)).setCell ⟨w.heap.size + 1 + 1 + 1, 1, none⟩ (.slice B2 (ln b16 (x % y)) d2)) = W7 at *
    obtain ⟨k0, k1⟩ := hW1.cells
    obtain ⟨k2, k3⟩ := hW2.cells
    refine bodyPost_ret (v := .tuple #[.agg #[.bool s1, .slice B1 (ln b16 (x / y)) d1], .agg #[.bool s2, .slice B2 (ln b16 (x % y)) d2], .int .i64 0]) (by simp [results, Tryz.results94, go_sem, k0, k1, k2, k3]) rfl ?_
    rw [← HQ.out, ← HR.out]
    exact ⟨B1, d1, B2, d2, w5.heap.size, by rw [toI_neg, toI_abs, toI_neg, toI_abs, hS1.out, hS2.out], by rw [toI_abs]; exact o1.lower (show w.heap.size ≤ w4.heap.size by omega), o1l, by omega, by rw [toI_abs]; exact o2, hbW2⟩
  · have hz : (s != t) = true := bne_iff_ne.2 hst
    have t1 : (s == t) = false := beq_eq_false_iff_ne.2 hst
    have hl0 : 0 < ln b32 (x % y) := (ln_pos b32_two).2 hrp
    have t2 : decide ((0 : Int) < ((ln b32 (x % y) : Nat) : Int)) = true := decide_eq_true (by omega)
    obtain ⟨hq, hr⟩ := HUP.out hst hrp
    rw [hz] at hq
    have HQ := Lib.hid hq
    have HR := Lib.hid hr
    clear hq hr hz
    go_wp2_with fail
    have b1 : Below w4.heap.size w4 (w4.alloc (.cells #[.int .u32 1] 111)) := (Below.refl _ w4).alloc (Nat.le_refl _) _
    have hone : Num32 (w4.alloc (.cells #[.int .u32 1] 111)) (some ⟨w4.heap.size, 0, none⟩) 1 := num32_one w4
    have e1 : ln b32 1 = 1 := ln_small b32_two (by decide) (by decide)
    have hplus := plus_any A4 (some ⟨w4.heap.size, 0, none⟩) c4 1 (x / y) 1 _ (Num32.below hn4 b1) hone (by omega) (by omega)
    rw [e1] at hplus
    refine hplus.mono ?_
    clear hplus e1 hone
    rintro e w8 ⟨A8, c8, rfl, hc8, hn8, hb8⟩
    have ht8 := (ht4.below b1).below hb8
    have hn5b := Num32.below (Num32.below hn5 b1) hb8
    have hn2c := Num32.below (Num32.below hn2'' b1) hb8
    have lq1 : ln b32 (x / y + 1) ≤ 512 + 1 := ln_add b32_two lq (by rw [ln_small b32_two (by decide) (by decide)]; decide)
    have lr1 : ln b32 (y - x % y) ≤ 512 := Nat.le_trans (ln_mono b32_two (Nat.sub_le ..)) lb2
    clear hn4 hn5 hn2'' ht4 p0 p1 p2 p3
    obtain ⟨p0, p1⟩ := ht8.p0.cells
    obtain ⟨p2, p3⟩ := ht8.p1.cells
    go_wp2_with fail
    refine (minus_any A2 A5 c2 c5 y (x % y) _ hn2c hn5b (Nat.le_of_lt hmod) (by omega)).mono ?_
    rintro e w9 ⟨A9, c9, rfl, hc9, hn9, hb9⟩
    have ht9 := ht8.below hb9
    have hn8b := Num32.below hn8 hb9
    clear ht8 hn5b hn2c hn8 p0 p1 p2 p3
    obtain ⟨p0, p1⟩ := ht9.p0.cells
    obtain ⟨p2, p3⟩ := ht9.p1.cells
    go_wp2_with fail
    have ht0 : Two2 w s t A B (ln b16 x) (ln b16 y) c d w9.drew := ⟨ht9.p0, ht9.p1, ht9.r, ht9.q, ht9.bel.drew⟩
    have D1 := Lib.hid fun (w' : World) (hw' : Below w9.heap.size w9 w') => unpack_any true _ _ _ w' (Num32.below hn8b hw') hc8 (by omega)
    have D2 := Lib.hid fun (w' : World) (hw' : Below w9.heap.size w9 w') => unpack_any t _ _ _ w' (Num32.below hn9 hw') hc9 (by omega)
    have hrefl := (Below.refl w9.heap.size w9).drew
    have hl1 := ht9.r.lt
    have hl2 := ht9.q.lt
    clear p0 p1 p2 p3 ht9
    go_region_held3 (fun w' => w'.cell? ⟨w.heap.size, 0, none⟩ = some (.bool s) ∧ w'.cell? ⟨w.heap.size + 1, 0, none⟩ = some (.bool t) ∧ TwoP w s t A B (ln b16 x) (ln b16 y) c d w')
      (first | with_reducible exact ⟨hP4.p0.cells.1, hP4.p1.cells.1, hP4⟩ | with_reducible exact ⟨hP3.p0.cells.1, hP3.p1.cells.1, hP3⟩ | with_reducible exact ⟨hP2.p0.cells.1, hP2.p1.cells.1, hP2⟩ | with_reducible exact ⟨hP1.p0.cells.1, hP1.p1.cells.1, hP1⟩ | with_reducible exact ⟨ht0.p0.cells.1, ht0.p1.cells.1, ht0.p0, ht0.p1, ht0.bel⟩)
      (first
        | (go_at_call_of 115 (Value.bool true); refine (D1.out _ hrefl).mono ?_; rintro e w5 hww1; obtain ⟨s1, B1, d1, rfl, hS1, hO1, hb5⟩ := hww1.vals; have ht1 := ht0.below hb5; have hP1 : TwoP w s t A B (ln b16 x) (ln b16 y) c d w5 := ⟨ht1.p0, ht1.p1, ht1.bel⟩)
        | (go_at_call_of 115 (Value.bool t); refine (D2.out _ (hrefl.trans (hb5.mono hrefl.size))).mono ?_; rintro e w6 hww2; obtain ⟨s2, B2, d2, rfl, hS2, hO2, hb6⟩ := hww2.vals; have ht2 := ht1.below hb6; have hP2 : TwoP w s t A B (ln b16 x) (ln b16 y) c d w6 := ⟨ht2.p0, ht2.p1, ht2.bel⟩; obtain ⟨r0, r1⟩ := ht2.r.cells; have g0 := ht2.r.frozen 0; have g1 := ht2.r.frozen 1; obtain ⟨r2, r3⟩ := ht2.q.cells; have g2 := ht2.q.frozen 0; have g3 := ht2.q.frozen 1; have hP3 := hP2.storeAt (R := w.heap.size + 1 + 1) (by omega) s1 (.slice B1 (ln b16 (x / y + 1)) d1); have hP4 := hP3.storeAt (R := w.heap.size + 1 + 1 + 1) (by omega) s2 (.slice B2 (ln b16 (y - x % y)) d2)))
    obtain ⟨hW, hbW⟩ := store_whole ht2.r ht2.bel (show w.heap.size ≤ w.heap.size + 1 + 1 by omega) s1 (.slice B1 (ln b16 (x / y + 1)) d1)
    have hQ := ht2.q.other (R := w.heap.size + 1 + 1) (by omega) s1 (.slice B1 (ln b16 (x / y + 1)) d1)
    obtain ⟨hW2, hbW2⟩ := store_whole hQ hbW (show w.heap.size ≤ w.heap.size + 1 + 1 + 1 by omega) s2 (.slice B2 (ln b16 (y - x % y)) d2)
    have hW1 := hW.other (R := w.heap.size + 1 + 1 + 1) (by omega) s2 (.slice B2 (ln b16 (y - x % y)) d2)
    have hl5 : w9.heap.size ≤ w5.heap.size := hb5.size
    have o1 := store_own (store_own (hO1.below hb6 (Nat.le_refl _)) hl1 s1 (.slice B1 (ln b16 (x / y + 1)) d1)) hl2 s2 (.slice B2 (ln b16 (y - x % y)) d2)
    have o2 := store_own (store_own hO2 (Nat.lt_of_lt_of_le hl1 hl5) s1 (.slice B1 (ln b16 (x / y + 1)) d1)) (Nat.lt_of_lt_of_le hl2 hl5) s2 (.slice B2 (ln b16 (y - x % y)) d2)
    have o1l := hO1.lt
    clear hW hQ r0 r1 r2 r3 g0 g1 g2 g3 ht0 ht1 ht2 hP1 hP2 hP3 hP4 hbW hO1 hO2 D1 D2
    go_wp2
    generalize ((((w6.setCell ⟨w.heap.size + 1 + 1, 0, none⟩ (.bool s1)).setCell ⟨w.heap.size + 1 + 1, 1, none⟩ (.slice B1 (ln b16 (x / y + 1)) d1)).setCell ⟨w.heap.size + 1 + 1 + 1, 0, none⟩ (.bool s2)).setCell ⟨w.heap.size + 1 + 1 + 1, 1, none⟩ (.slice B2 (ln b16 (y - x % y)) d2)) = W7 at *
    obtain ⟨k0, k1⟩ := hW1.cells
    obtain ⟨k2, k3⟩ := hW2.cells
    refine bodyPost_ret (v := .tuple #[.agg #[.bool s1, .slice B1 (ln b16 (x / y + 1)) d1], .agg #[.bool s2, .slice B2 (ln b16 (y - x % y)) d2], .int .i64 0]) (by simp [results, Tryz.results94, go_sem, k0, k1, k2, k3]) rfl ?_
    rw [← HQ.out, ← HR.out]
    exact ⟨B1, d1, B2, d2, w5.heap.size, by rw [toI_neg, toI_abs, toI_neg, toI_abs, hS1.out, hS2.out], by rw [toI_abs]; exact o1.lower (show w.heap.size ≤ w9.heap.size by omega), o1l, by omega, by rw [toI_abs]; exact o2, hbW2⟩

theorem divMod_any (a b : Int) (A B : Option Addr) (c d : Nat) (w : World) (hA : Num16 w A a.natAbs) (hB : Num16 w B b.natAbs) (ha : ln b16 a.natAbs ≤ 1024) (hb : ln b16 b.natAbs ≤ 1024) (hb0 : b ≠ 0) :
    Calls Tryz.prog 94 #[.agg #[.bool (decide (a < 0)), .slice A (ln b16 a.natAbs) c], .agg #[.bool (decide (b < 0)), .slice B (ln b16 b.natAbs) d]] w (DM w (a.fdiv b) (a.fmod b)) :=
  divMod_walk _ _ _ _ _ _ A B c d w hA hB ha hb (by omega) (okW_two ha hb) (Lib.hid (floor_same a hb0)) (Lib.hid (floor_up a hb0))
end Go.Proofs.YtifikcemcflgjaaGreat
namespace Go.Proofs.YtifikcemcflgjaaGreat
open Go.RowKit

theorem ln_gcd (a b : Nat) (m : Nat) (ha : ln b16 a ≤ m) (hb : ln b16 b ≤ m) : ln b16 (Nat.gcd a b) ≤ m := by
  rcases Nat.eq_zero_or_pos a with rfl | h
  · rw [Nat.gcd_zero_left]; exact hb
  · exact Nat.le_trans (ln_mono b16_two (Nat.gcd_le_left b h)) ha
theorem WW.riv {w w' : World} {x : Nat} {e : Ending} (h : WW w (false && decide (0 < x)) x e w') (hl : ln b16 x ≤ 1024) : ∃ A c, e = .returned (.agg #[.bool false, .slice A (ln b16 x) c]) ∧ RIv w.heap.size w' (x : Int) false A (ln b16 x) c 0 ∧ Below w.heap.size w w' := by
  obtain ⟨A, c, he, ho, hb⟩ := h
  refine ⟨A, c, he, .inl ⟨hl, ?_, rfl, rfl, ho⟩, hb⟩
  simp
set_option maxRecDepth 100000 in
set_option maxHeartbeats 1000000 in
theorem gcd_bad (s t : Bool) (A B : Option Addr) (n m c d : Nat) (f h : Nat → Nat) (w : World)
    (hA : Rd w.heap.size .u16 w A n f) (hB : Rd w.heap.size .u16 w B m h) (hf : ∀ i, f i < 65536) (hh : ∀ i, h i < 65536) (hn : n ≤ 1000000) (hm : m ≤ 1000000)
    (hok : (okW s n f && okW t m h) = false) :
    Calls Tryz.prog 123 #[.agg #[.bool s, .slice A n c], .agg #[.bool t, .slice B m d]] w (ErrArgW w) := by
  go_enter Tryz.func123, Tryz.ntmps123
  go_wp2_with fail
  refine (two_call s t A B n m c d f h w hA hB hf hh hn hm).mono ?_
  rintro e w1 ⟨rfl, ht⟩
  rw [hok]
  obtain ⟨r0, r1⟩ := ht.r.cells
  have g0 := ht.r.frozen 0
  have g1 := ht.r.frozen 1
  obtain ⟨hW, hbW⟩ := store_whole ht.r ht.bel (by omega) false (.slice none 0 0)
  have HW := Lib.hid hW
  clear hW
  go_wp2_with fail
  have hW := HW.out
  clear HW ht r0 r1
  generalize ((w1.setCell ⟨w.heap.size + 1 + 1, 0, none⟩ (.bool false)).setCell ⟨w.heap.size + 1 + 1, 1, none⟩ (.slice none 0 0)) = WW at *
  obtain ⟨k0, k1⟩ := hW.cells
  refine bodyPost_ret (v := .tuple #[.agg #[.bool false, .slice none 0 0], .int .i64 2]) (by simp [results, Tryz.results123, go_sem, k0, k1]) rfl ?_
  exact ⟨rfl, hbW⟩

set_option maxRecDepth 100000 in
set_option maxHeartbeats 4000000 in
theorem gcd_any (a b : Int) (A B : Option Addr) (c d : Nat) (w : World) (hA : Num16 w A a.natAbs) (hB : Num16 w B b.natAbs) (ha : ln b16 a.natAbs ≤ 1024) (hb : ln b16 b.natAbs ≤ 1024) :
    Calls Tryz.prog 123 #[.agg #[.bool (decide (a < 0)), .slice A (ln b16 a.natAbs) c], .agg #[.bool (decide (b < 0)), .slice B (ln b16 b.natAbs) d]] w (RI w ((Nat.gcd a.natAbs b.natAbs : Nat) : Int)) := by
  have htwo := two_call (decide (a < 0)) (decide (b < 0)) A B (ln b16 a.natAbs) (ln b16 b.natAbs) c d _ _ w hA hB (fun i => dgt16_lt _ i) (fun i => dgt16_lt _ i) (by omega) (by omega)
  rw [okW_two ha hb] at htwo
  have la := ln32_short ha
  have lb := ln32_short hb
  have lg := ln_gcd a.natAbs b.natAbs 1024 ha hb
  have lg32 := ln32_short lg
  obtain ⟨s, hs⟩ : ∃ s, s = decide (a < 0) := ⟨_, rfl⟩
  obtain ⟨t, ht⟩ : ∃ t, t = decide (b < 0) := ⟨_, rfl⟩
  rw [← hs, ← ht] at htwo ⊢
  clear hs ht
  go_enter Tryz.func123, Tryz.ntmps123
  go_wp2_with fail
  refine htwo.mono ?_
  rintro e w1 ⟨rfl, ht⟩
  have D1 := Lib.hid fun (w' : World) (hw' : Below w.heap.size w w') => pack_any A c a.natAbs w' (Num16.below hA hw') (by omega)
  have D2 := Lib.hid fun (w' : World) (hw' : Below w.heap.size w w') => pack_any B d b.natAbs w' (Num16.below hB hw') (by omega)
  have hT0 : TwoP w s t A B (ln b16 a.natAbs) (ln b16 b.natAbs) c d w1.drew := ⟨ht.p0, ht.p1, ht.bel.drew⟩
  have hR0 : WholeAt w1.drew (w.heap.size + 1 + 1) false (.slice none 0 0) := ht.r
  have HT := Lib.hid ht
  clear ht
  go_wp2_with fail
  go_region_held3 (fun w' => w'.cell? ⟨w.heap.size, 0, none⟩ = some (.bool s) ∧ w'.cell? ⟨w.heap.size, 1, none⟩ = some (.slice A (ln b16 a.natAbs) c) ∧ w'.cell? ⟨w.heap.size + 1, 0, none⟩ = some (.bool t) ∧ w'.cell? ⟨w.heap.size + 1, 1, none⟩ = some (.slice B (ln b16 b.natAbs) d) ∧ TwoP w s t A B (ln b16 a.natAbs) (ln b16 b.natAbs) c d w')
    (first | with_reducible exact hT4.s | with_reducible exact hT3.s | with_reducible exact hT5.s | with_reducible exact hT2.s | with_reducible exact hT1.s | with_reducible exact hT0.s)
    (first
      | (go_at_call_of 86 (Value.slice A (ln b16 a.natAbs) c); refine (D1.out _ hT0.bel).mono ?_; rintro e w2 ⟨A1, c1, rfl, hc1, hn1, hb1⟩; have hT1 := hT0.below hb1)
      | (go_at_call_of 86 (Value.slice B (ln b16 b.natAbs) d); refine (D2.out _ hT1.bel).mono ?_; rintro e w3 ⟨A2, c2, rfl, hc2, hn2, hb2⟩; have hT2 := hT1.below hb2)
      | (go_at_call 137; refine (commonDivisor_any A1 A2 c1 c2 a.natAbs b.natAbs _ (Num32.below hn1 hb2) hn2 (by omega) (by omega) hc1 hc2).mono ?_; rintro e w5 ⟨A3, c3, rfl, hc3, hn3, hb5⟩; have hT5 := hT2.below hb5)
      | (go_at_call 115; refine (unpack_any false A3 c3 (Nat.gcd a.natAbs b.natAbs) _ hn3 hc3 (by omega)).mono ?_; rintro e w4 hri; obtain ⟨A', c', rfl, hv, hb3⟩ := WW.riv hri lg; have hT3 := hT5.below hb3; have hR1 := hR0.below hb1 hR0.lt; have hR2 := hR1.below hb2 hR1.lt; have hR5 := hR2.below hb5 hR2.lt; have hR3 := hR5.below hb3 hR5.lt; obtain ⟨r0, r1⟩ := hR3.cells; have g0 := hR3.frozen 0; have g1 := hR3.frozen 1; have hT4 := hT3.store false (.slice A' (ln b16 (Nat.gcd a.natAbs b.natAbs)) c')))
  obtain ⟨hW, hbW⟩ := store_whole hR3 hT3.bel (show w.heap.size ≤ w.heap.size + 1 + 1 by omega) false (.slice A' (ln b16 (Nat.gcd a.natAbs b.natAbs)) c')
  have hsz := hT5.bel.size
  have hv2 := (hv.store hR5.lt false (.slice A' (ln b16 (Nat.gcd a.natAbs b.natAbs)) c')).lower hsz
  clear hv hT0 hT1 hT2 hT3 hT4 hT5 hR0 hR1 hR2 hR3 hR5 r0 r1 g0 g1 hri
  go_wp2
  generalize ((w4.setCell ⟨w.heap.size + 1 + 1, 0, none⟩ (.bool false)).setCell ⟨w.heap.size + 1 + 1, 1, none⟩ (.slice A' (ln b16 (Nat.gcd a.natAbs b.natAbs)) c')) = WW at *
  obtain ⟨k0, k1⟩ := hW.cells
  refine bodyPost_ret (v := .tuple #[.agg #[.bool false, .slice A' (ln b16 (Nat.gcd a.natAbs b.natAbs)) c'], .int .i64 0]) (by simp [results, Tryz.results123, go_sem, k0, k1]) rfl ?_
  exact hv2.ri hbW
end Go.Proofs.YtifikcemcflgjaaGreat
namespace Go.Proofs.YtifikcemcflgjaaGreat
open Go.RowKit

/-- The call returned a zero value and an error. -/
def ErrW1 (k : Int) (w : World) (e : Ending) (w' : World) : Prop := e = .returned (.tuple #[.agg #[.bool false, .slice none 0 0], .int .i64 k]) ∧ Below w.heap.size w w'
set_option maxRecDepth 100000 in
set_option maxHeartbeats 1000000 in
theorem parse007 (w : World) : Calls Tryz.prog 90 #[.string ⟨#[48, 48, 55]⟩] w (ErrW1 10 w) := by
  have hb0 : Below w.heap.size w (w.alloc (.cells #[.bool false, .slice none 0 0] 24)) := (Below.refl _ w).alloc (Nat.le_refl _) _
  have hR0 := WholeAt.new w false (.slice none 0 0)
  go_enter Tryz.func90, Tryz.ntmps90
  go_wp2_with fail
  exact bodyPost_ret (v := .tuple #[.agg #[.bool false, .slice none 0 0], .int .i64 10]) (by simp [results, Tryz.results90, go_sem]) rfl ⟨rfl, hb0⟩
end Go.Proofs.YtifikcemcflgjaaGreat
namespace Go.Proofs.YtifikcemcflgjaaGreat
open Go.RowKit

theorem toI_not (z : Int) : toI (!decide (z < 0)) z.natAbs = -z := by
  unfold toI
  by_cases h : z < 0
  · simp [h]; omega
  · simp [h]; omega
end Go.Proofs.YtifikcemcflgjaaGreat
/-! The walk of whole.Mul. -/
namespace Go.Proofs.YtifikcemcflgjaaGreat
open Go.RowKit

theorem toI_mul (a b : Int) : toI (decide (a < 0) != decide (b < 0)) (a.natAbs * b.natAbs) = a * b := by
  rw [← Int.natAbs_mul]
  by_cases ha : a < 0 <;> by_cases hb : b < 0
  · have := Int.mul_pos_of_neg_of_neg ha hb
    simp [ha, hb, toI]; omega
  · have : a * b ≤ 0 := Int.mul_nonpos_of_nonpos_of_nonneg (by omega) (by omega)
    simp [ha, hb, toI]; omega
  · have : a * b ≤ 0 := Int.mul_nonpos_of_nonneg_of_nonpos (by omega) (by omega)
    simp [ha, hb, toI]; omega
  · have : 0 ≤ a * b := Int.mul_nonneg (by omega) (by omega)
    simp [ha, hb, toI]; omega
theorem ln_mul {B x y m n : Nat} (hB : 2 ≤ B) (hx : ln B x ≤ m) (hy : ln B y ≤ n) : ln B (x * y) ≤ m + n := by
  refine (ln_le hB).2 ?_
  rw [Nat.pow_add]
  exact Nat.mul_lt_mul'' ((ln_le hB).1 hx) ((ln_le hB).1 hy)
set_option maxRecDepth 100000 in
set_option maxHeartbeats 1000000 in
theorem mul_bad (s t : Bool) (A B : Option Addr) (n m c d : Nat) (f h : Nat → Nat) (w : World)
    (hA : Rd w.heap.size .u16 w A n f) (hB : Rd w.heap.size .u16 w B m h) (hf : ∀ i, f i < 65536) (hh : ∀ i, h i < 65536) (hn : n ≤ 1000000) (hm : m ≤ 1000000)
    (hok : (okW s n f && okW t m h) = false) :
    Calls Tryz.prog 46 #[.agg #[.bool s, .slice A n c], .agg #[.bool t, .slice B m d]] w (ErrArgW w) := by
  go_enter Tryz.func46, Tryz.ntmps46
  go_wp2_with fail
  refine (two_call s t A B n m c d f h w hA hB hf hh hn hm).mono ?_
  rintro e w1 ⟨rfl, ht⟩
  rw [hok]
  obtain ⟨r0, r1⟩ := ht.r.cells
  have g0 := ht.r.frozen 0
  have g1 := ht.r.frozen 1
  obtain ⟨hW, hbW⟩ := store_whole ht.r ht.bel (by omega) false (.slice none 0 0)
  have HW := Lib.hid hW
  clear hW
  go_wp2_with fail
  have hW := HW.out
  clear HW ht r0 r1
  generalize ((w1.setCell ⟨w.heap.size + 1 + 1, 0, none⟩ (.bool false)).setCell ⟨w.heap.size + 1 + 1, 1, none⟩ (.slice none 0 0)) = WW at *
  obtain ⟨k0, k1⟩ := hW.cells
  refine bodyPost_ret (v := .tuple #[.agg #[.bool false, .slice none 0 0], .int .i64 2]) (by simp [results, Tryz.results46, go_sem, k0, k1]) rfl ?_
  exact ⟨rfl, hbW⟩

set_option maxRecDepth 100000 in
set_option maxHeartbeats 4000000 in
theorem mul_any (a b : Int) (A B : Option Addr) (c d : Nat) (w : World) (hA : Num16 w A a.natAbs) (hB : Num16 w B b.natAbs) (ha : ln b16 a.natAbs ≤ 1024) (hb : ln b16 b.natAbs ≤ 1024) :
    Calls Tryz.prog 46 #[.agg #[.bool (decide (a < 0)), .slice A (ln b16 a.natAbs) c], .agg #[.bool (decide (b < 0)), .slice B (ln b16 b.natAbs) d]] w (RI w (a * b)) := by
  have htwo := two_call (decide (a < 0)) (decide (b < 0)) A B (ln b16 a.natAbs) (ln b16 b.natAbs) c d _ _ w hA hB (fun i => dgt16_lt _ i) (fun i => dgt16_lt _ i) (by omega) (by omega)
  rw [okW_two ha hb] at htwo
  have la := ln32_short ha
  have lb := ln32_short hb
  have hsum : toI (decide (a < 0) != decide (b < 0)) (a.natAbs * b.natAbs) = a * b := toI_mul a b
  have lm := ln_mul b32_two la lb
  have HSUM := Lib.hid hsum
  clear hsum
  obtain ⟨s, hs⟩ : ∃ s, s = decide (a < 0) := ⟨_, rfl⟩
  obtain ⟨t, ht⟩ : ∃ t, t = decide (b < 0) := ⟨_, rfl⟩
  rw [← hs, ← ht] at htwo HSUM ⊢
  clear hs ht
  go_enter Tryz.func46, Tryz.ntmps46
  go_wp2_with fail
  refine htwo.mono ?_
  rintro e w1 ⟨rfl, ht⟩
  have D1 := Lib.hid fun (w' : World) (hw' : Below w.heap.size w w') => pack_any A c a.natAbs w' (Num16.below hA hw') (by omega)
  have D2 := Lib.hid fun (w' : World) (hw' : Below w.heap.size w w') => pack_any B d b.natAbs w' (Num16.below hB hw') (by omega)
  have hT0 : TwoP w s t A B (ln b16 a.natAbs) (ln b16 b.natAbs) c d w1.drew := ⟨ht.p0, ht.p1, ht.bel.drew⟩
  have hR0 : WholeAt w1.drew (w.heap.size + 1 + 1) false (.slice none 0 0) := ht.r
  have HT := Lib.hid ht
  clear ht
  go_wp2_with fail
  go_region_held3 (fun w' => w'.cell? ⟨w.heap.size, 0, none⟩ = some (.bool s) ∧ w'.cell? ⟨w.heap.size, 1, none⟩ = some (.slice A (ln b16 a.natAbs) c) ∧ w'.cell? ⟨w.heap.size + 1, 0, none⟩ = some (.bool t) ∧ w'.cell? ⟨w.heap.size + 1, 1, none⟩ = some (.slice B (ln b16 b.natAbs) d) ∧ TwoP w s t A B (ln b16 a.natAbs) (ln b16 b.natAbs) c d w')
    (first | with_reducible exact hT4.s | with_reducible exact hT3.s | with_reducible exact hT5.s | with_reducible exact hT2.s | with_reducible exact hT1.s | with_reducible exact hT0.s)
    (first
      | (go_at_call_of 86 (Value.slice A (ln b16 a.natAbs) c); refine (D1.out _ hT0.bel).mono ?_; rintro e w2 ⟨A1, c1, rfl, hc1, hn1, hb1⟩; have hT1 := hT0.below hb1)
      | (go_at_call_of 86 (Value.slice B (ln b16 b.natAbs) d); refine (D2.out _ hT1.bel).mono ?_; rintro e w3 ⟨A2, c2, rfl, hc2, hn2, hb2⟩; have hT2 := hT1.below hb2)
      | (go_at_call 85; refine (times_any A1 A2 c1 c2 a.natAbs b.natAbs _ (Num32.below hn1 hb2) hn2 (by omega) (by omega)).mono ?_; rintro e w5 ⟨A3, c3, rfl, hc3, hn3, hb5⟩; have hT5 := hT2.below hb5)
      | (go_at_call 84; refine (result_any (s != t) A3 c3 (a.natAbs * b.natAbs) _ hn3 hc3 (by omega)).mono ?_; rintro e w4 hri; obtain ⟨s', A', n', c', k, rfl, hv, hb3⟩ := hri.vals; have hT3 := hT5.below hb3; have hR1 := hR0.below hb1 hR0.lt; have hR2 := hR1.below hb2 hR1.lt; have hR5 := hR2.below hb5 hR2.lt; have hR3 := hR5.below hb3 hR5.lt; obtain ⟨r0, r1⟩ := hR3.cells; have g0 := hR3.frozen 0; have g1 := hR3.frozen 1; have hT4 := hT3.store s' (.slice A' n' c')))
  obtain ⟨hW, hbW⟩ := store_whole hR3 hT3.bel (show w.heap.size ≤ w.heap.size + 1 + 1 by omega) s' (.slice A' n' c')
  have hsz := hT5.bel.size
  have hv2 := (hv.store hR5.lt s' (.slice A' n' c')).lower hsz
  rw [HSUM.out] at hv2
  clear hv hT0 hT1 hT2 hT3 hT4 hT5 hR0 hR1 hR2 hR3 hR5 r0 r1 g0 g1 hri
  go_wp2
  generalize ((w4.setCell ⟨w.heap.size + 1 + 1, 0, none⟩ (.bool s')).setCell ⟨w.heap.size + 1 + 1, 1, none⟩ (.slice A' n' c')) = WW at *
  obtain ⟨k0, k1⟩ := hW.cells
  refine bodyPost_ret (v := .tuple #[.agg #[.bool s', .slice A' n' c'], .int .i64 k]) (by simp [results, Tryz.results46, go_sem, k0, k1]) rfl ?_
  exact hv2.ri hbW
end Go.Proofs.YtifikcemcflgjaaGreat
namespace Go.Proofs.YtifikcemcflgjaaGreat
open Go.RowKit

/-- The order of two ints. -/
def cmpZ (a b : Int) : Int := if a < b then -1 else if b < a then 1 else 0
theorem two_call2 (s t : Bool) (A B : Option Addr) (n m c d : Nat) (f h : Nat → Nat) (w : World)
    (hA : Rd w.heap.size .u16 w A n f) (hB : Rd w.heap.size .u16 w B m h) (hf : ∀ i, f i < 65536) (hh : ∀ i, h i < 65536) (hn : n ≤ 1000000) (hm : m ≤ 1000000) :
    Calls Tryz.prog 83 #[.slice (some ⟨w.heap.size + 1 + 1, 0, none⟩) 2 2]
      (((w.alloc (.cells #[.bool s, .slice A n c] 24)).alloc (.cells #[.bool t, .slice B m d] 24)).alloc (.cells #[.bool s, .slice A n c, .bool t, .slice B m d] 24))
      fun e w' => e = .returned (.bool (okW s n f && okW t m h)) ∧ TwoP w s t A B n m c d w' := by
  have b1 : Below w.heap.size w (w.alloc (.cells #[.bool s, .slice A n c] 24)) := (Below.refl _ w).alloc (Nat.le_refl _) _
  have b2 := b1.alloc b1.size (.cells #[.bool t, .slice B m d] 24)
  have b4 := b2.alloc b2.size (.cells #[.bool s, .slice A n c, .bool t, .slice B m d] 24)
  have q0 := WholeAt.new w s (.slice A n c)
  have q1 := WholeAt.new (w.alloc (.cells #[.bool s, .slice A n c] 24)) t (.slice B m d)
  have q3 := heap_alloc_new ((w.alloc (.cells #[.bool s, .slice A n c] 24)).alloc (.cells #[.bool t, .slice B m d] 24)) (.cells #[.bool s, .slice A n c, .bool t, .slice B m d] 24)
  simp only [World.size_alloc] at q1 q3
  refine (allValid_two (w.heap.size + 1 + 1) s t A B n m c d f h _ q3 ((hA.below b4).more b4.size) ((hB.below b4).more b4.size) hf hh hn hm).mono ?_
  rintro e w' ⟨rfl, hb⟩
  refine ⟨rfl, ?_, ?_, b4.trans (hb.mono b4.size)⟩
  · refine WholeAt.below ?_ hb (by first | (simp; done) | (simp; omega))
    exact (Below.heap_alloc _ _ _ (by first | (simp; done) | (simp; omega))).trans ((Below.heap_alloc _ _ _ (by simp)).trans q0)
  · refine WholeAt.below ?_ hb (by first | (simp; done) | (simp; omega))
    exact (Below.heap_alloc _ _ _ (by simp)).trans q1
set_option maxRecDepth 100000 in
set_option maxHeartbeats 1000000 in
theorem cmp_bad (s t : Bool) (A B : Option Addr) (n m c d : Nat) (f h : Nat → Nat) (w : World)
    (hA : Rd w.heap.size .u16 w A n f) (hB : Rd w.heap.size .u16 w B m h) (hf : ∀ i, f i < 65536) (hh : ∀ i, h i < 65536) (hn : n ≤ 1000000) (hm : m ≤ 1000000)
    (hok : (okW s n f && okW t m h) = false) :
    Calls Tryz.prog 59 #[.agg #[.bool s, .slice A n c], .agg #[.bool t, .slice B m d]] w fun e w' => e = .returned (.int .i64 0) ∧ Below w.heap.size w w' := by
  go_enter Tryz.func59, Tryz.ntmps59
  go_wp2_with fail
  refine (two_call2 s t A B n m c d f h w hA hB hf hh hn hm).mono ?_
  rintro e w1 ⟨rfl, ht⟩
  rw [hok]
  go_wp2_with fail
  go_ret
  exact ⟨rfl, ht.bel⟩

set_option maxRecDepth 100000 in
set_option maxHeartbeats 4000000 in
theorem cmp_any (a b : Int) (A B : Option Addr) (c d : Nat) (w : World) (hA : Num16 w A a.natAbs) (hB : Num16 w B b.natAbs) (ha : ln b16 a.natAbs ≤ 1024) (hb : ln b16 b.natAbs ≤ 1024) :
    Calls Tryz.prog 59 #[.agg #[.bool (decide (a < 0)), .slice A (ln b16 a.natAbs) c], .agg #[.bool (decide (b < 0)), .slice B (ln b16 b.natAbs) d]] w fun e w' => e = .returned (.int .i64 (cmpZ a b)) ∧ Below w.heap.size w w' := by
  have htwo := two_call2 (decide (a < 0)) (decide (b < 0)) A B (ln b16 a.natAbs) (ln b16 b.natAbs) c d _ _ w hA hB (fun i => dgt16_lt _ i) (fun i => dgt16_lt _ i) (by omega) (by omega)
  rw [okW_two ha hb] at htwo
  have la := ln32_short ha
  have lb := ln32_short hb
  obtain ⟨s, hs⟩ : ∃ s, s = decide (a < 0) := ⟨_, rfl⟩
  obtain ⟨t, ht⟩ : ∃ t, t = decide (b < 0) := ⟨_, rfl⟩
  rw [← hs, ← ht] at htwo ⊢
  have HS := Lib.hid hs
  have HT' := Lib.hid ht
  clear hs ht
  go_enter Tryz.func59, Tryz.ntmps59
  go_wp2_with fail
  refine htwo.mono ?_
  rintro e w1 ⟨rfl, ht⟩
  obtain ⟨p0, p1⟩ := ht.p0.cells
  obtain ⟨p2, p3⟩ := ht.p1.cells
  by_cases hst : s = t
  · subst hst
    have t0 : (s != s) = false := by simp
    have D1 := Lib.hid fun (w' : World) (hw' : Below w.heap.size w w') => pack_any A c a.natAbs w' (Num16.below hA hw') (by omega)
    have D2 := Lib.hid fun (w' : World) (hw' : Below w.heap.size w w') => pack_any B d b.natAbs w' (Num16.below hB hw') (by omega)
    have hT0 : TwoP w s s A B (ln b16 a.natAbs) (ln b16 b.natAbs) c d w1.drew := ⟨ht.p0, ht.p1, ht.bel.drew⟩
    have hcz : cmpZ a b = if s then -cmpI a.natAbs b.natAbs else cmpI a.natAbs b.natAbs := by
      have h1 := HS.out
      have h2 := HT'.out
      unfold cmpZ cmpI
      cases s
      · have h1 : 0 ≤ a := by simpa using h1.symm
        have h2 : 0 ≤ b := by simpa using h2.symm
        simp only [Bool.false_eq_true, if_false]
        split <;> split <;> (try split) <;> (try split) <;> omega
      · have h1 : a < 0 := by simpa using h1.symm
        have h2 : b < 0 := by simpa using h2.symm
        simp only [if_true]
        split <;> split <;> (try split) <;> (try split) <;> omega
    have HCZ := Lib.hid hcz
    clear hcz
    go_wp2_with fail
    clear p0 p1 p2 p3
    go_region_held3 (fun w' => w'.cell? ⟨w.heap.size, 0, none⟩ = some (.bool s) ∧ w'.cell? ⟨w.heap.size, 1, none⟩ = some (.slice A (ln b16 a.natAbs) c) ∧ w'.cell? ⟨w.heap.size + 1, 0, none⟩ = some (.bool s) ∧ w'.cell? ⟨w.heap.size + 1, 1, none⟩ = some (.slice B (ln b16 b.natAbs) d) ∧ TwoP w s s A B (ln b16 a.natAbs) (ln b16 b.natAbs) c d w')
      (first | with_reducible exact hT3.s | with_reducible exact hT2.s | with_reducible exact hT1.s | with_reducible exact hT0.s)
      (first
        | (go_at_call_of 86 (Value.slice A (ln b16 a.natAbs) c); refine (D1.out _ hT0.bel).mono ?_; rintro e w2 ⟨A1, c1, rfl, hc1, hn1, hb1⟩; have hT1 := hT0.below hb1)
        | (go_at_call_of 86 (Value.slice B (ln b16 b.natAbs) d); refine (D2.out _ hT1.bel).mono ?_; rintro e w3 ⟨A2, c2, rfl, hc2, hn2, hb2⟩; have hT2 := hT1.below hb2)
        | (go_at_call 95; refine (compare_any A1 A2 c1 c2 a.natAbs b.natAbs _ (Num32.below hn1 hb2) hn2 (by omega)).mono ?_; rintro e w4 ⟨rfl, q, rfl⟩; have hT3 := hT2.below (belowN (Below.refl _ _) q)))
    obtain ⟨k0, -⟩ := hT3.p0.cells
    have hbf := hT3.bel
    cases s
    · go_wp2
      go_ret
      exact ⟨ret_int (by rw [HCZ.out]; rfl), hbf⟩
    · go_wp2
      go_ret
      exact ⟨ret_int (by rw [HCZ.out]; simp only [if_true]; unfold cmpI; split <;> (try split) <;> simp [wrap64]), hbf⟩
  · have hval : cmpZ a b = if s then -1 else 1 := by
      have h1 := HS.out
      have h2 := HT'.out
      unfold cmpZ
      cases s <;> cases t <;> simp_all <;> omega
    have HV := Lib.hid hval
    clear hval
    cases s <;> cases t
    · exact absurd rfl hst
    · go_wp2_with fail
      go_ret
      exact ⟨ret_int (by rw [HV.out]; rfl), ht.bel⟩
    · go_wp2_with fail
      go_ret
      exact ⟨ret_int (by rw [HV.out]; rfl), ht.bel⟩
    · exact absurd rfl hst
end Go.Proofs.YtifikcemcflgjaaGreat
namespace Go.Proofs.YtifikcemcflgjaaGreat
open Go.RowKit

/-- Sign, address and length of the number z. -/
def WV (w : World) (z : Int) (s : Bool) (A : Option Addr) (n : Nat) : Prop := s = decide (z < 0) ∧ n = ln b16 z.natAbs ∧ Num16 w A z.natAbs
/-- The same, in memory from block 'base' on. -/
def WO (base : Nat) (w : World) (z : Int) (s : Bool) (A : Option Addr) (n c : Nat) : Prop := s = decide (z < 0) ∧ n = ln b16 z.natAbs ∧ Own16 base w A (ln b16 z.natAbs) c (dgt b16 z.natAbs)
/-- The call returned the number z. -/
def VI (z : Int) (w : World) (e : Ending) (w' : World) : Prop := ∃ s A n c, e = .returned (.agg #[.bool s, .slice A n c]) ∧ WO w.heap.size w' z s A n c ∧ Below w.heap.size w w'
/-- The call returned the number z and no error. -/
def VR (z : Int) (w : World) (e : Ending) (w' : World) : Prop := ∃ s A n c, e = .returned (.tuple #[.agg #[.bool s, .slice A n c], .int .i64 0]) ∧ WO w.heap.size w' z s A n c ∧ Below w.heap.size w w'
/-- The call returned the numbers q and r and no error. -/
def VR2 (q r : Int) (w : World) (e : Ending) (w' : World) : Prop :=
  ∃ s A n c t B m d, e = .returned (.tuple #[.agg #[.bool s, .slice A n c], .agg #[.bool t, .slice B m d], .int .i64 0]) ∧ WO w.heap.size w' q s A n c ∧ WO w.heap.size w' r t B m d ∧ Below w.heap.size w w'
theorem WO.v {base : Nat} {w : World} {z : Int} {s : Bool} {A : Option Addr} {n c : Nat} (h : WO base w z s A n c) : WV w z s A n := ⟨h.1, h.2.1, h.2.2.num⟩
theorem WO.len {base : Nat} {w : World} {z : Int} {s : Bool} {A : Option Addr} {n c : Nat} (h : WO base w z s A n c) : n = ln b16 z.natAbs := h.2.1
theorem WV.len {w : World} {z : Int} {s : Bool} {A : Option Addr} {n : Nat} (h : WV w z s A n) : n = ln b16 z.natAbs := h.2.1
theorem WV.sgn {w : World} {z : Int} {s : Bool} {A : Option Addr} {n : Nat} (h : WV w z s A n) : s = decide (z < 0) := h.1
theorem WV.below {w w' : World} {z : Int} {s : Bool} {A : Option Addr} {n : Nat} (h : WV w z s A n) (hb : Below w.heap.size w w') : WV w' z s A n := ⟨h.1, h.2.1, Num16.below h.2.2 hb⟩
theorem WV.drew {w : World} {z : Int} {s : Bool} {A : Option Addr} {n : Nat} (h : WV w z s A n) : WV w.drew z s A n := h
theorem WO.lower {base base' : Nat} {w : World} {z : Int} {s : Bool} {A : Option Addr} {n c : Nat} (h : WO base w z s A n c) (hb : base' ≤ base) : WO base' w z s A n c := ⟨h.1, h.2.1, h.2.2.lower hb⟩
theorem WO.below {base B : Nat} {w w' : World} {z : Int} {s : Bool} {A : Option Addr} {n c : Nat} (h : WO base w z s A n c) (hb : Below B w w') (hB : w.heap.size ≤ B) : WO base w' z s A n c := ⟨h.1, h.2.1, h.2.2.below hb hB⟩
theorem WO.store {base R : Nat} {w : World} {z : Int} {s : Bool} {A : Option Addr} {n c : Nat} (h : WO base w z s A n c) (hR : R < base) (s' : Bool) (v' : Value) : WO base ((w.setCell ⟨R, 0, none⟩ (.bool s')).setCell ⟨R, 1, none⟩ v') z s A n c :=
  ⟨h.1, h.2.1, store_own h.2.2 hR s' v'⟩
theorem WO.alloc {base : Nat} {w : World} {z : Int} {s : Bool} {A : Option Addr} {n c : Nat} (h : WO base w z s A n c) (o : Obj) : WO base (w.alloc o) z s A n c := ⟨h.1, h.2.1, h.2.2.alloc o⟩
theorem VI.mono {z : Int} {w w1 : World} {e : Ending} {w' : World} (h : VI z w1 e w') (hb : Below w.heap.size w w1) : VI z w e w' := by
  obtain ⟨s, A, n, c, he, ho, hb'⟩ := h
  exact ⟨s, A, n, c, he, ho.lower hb.size, hb.trans (hb'.mono hb.size)⟩
theorem WI.vi {w w' : World} {z : Int} {e : Ending} (h : WI w z e w') : VI z w e w' := by
  obtain ⟨A, c, he, ho, hb⟩ := h
  exact ⟨_, A, _, c, he, ⟨rfl, rfl, ho⟩, hb⟩
theorem RI.vr {w w' : World} {z : Int} {e : Ending} (h : RI w z e w') (hl : ln b16 z.natAbs ≤ 1024) : VR z w e w' := by
  rcases h with ⟨_, A, c, he, ho, hb⟩ | ⟨h1, _⟩
  · exact ⟨_, A, _, c, he, ⟨rfl, rfl, ho⟩, hb⟩
  · omega
theorem ln_addZ {a b : Int} {m : Nat} (ha : ln b16 a.natAbs ≤ m) (hb : ln b16 b.natAbs ≤ m) : ln b16 (a + b).natAbs ≤ m + 1 :=
  Nat.le_trans (ln_mono b16_two (Int.natAbs_add_le a b)) (ln_add b16_two ha hb)
theorem ln_subZ {a b : Int} {m : Nat} (ha : ln b16 a.natAbs ≤ m) (hb : ln b16 b.natAbs ≤ m) : ln b16 (a - b).natAbs ≤ m + 1 := by
  rw [Int.sub_eq_add_neg]
  exact ln_addZ ha (by rw [Int.natAbs_neg]; exact hb)
theorem ln_mulZ {a b : Int} {m n : Nat} (ha : ln b16 a.natAbs ≤ m) (hb : ln b16 b.natAbs ≤ n) : ln b16 (a * b).natAbs ≤ m + n := by
  rw [Int.natAbs_mul]
  exact ln_mul b16_two ha hb
theorem ln_int {z : Int} (h1 : -9223372036854775808 ≤ z) (h2 : z ≤ 9223372036854775807) : ln b16 z.natAbs ≤ 4 := (ln_le b16_two).2 (show z.natAbs < 18446744073709551616 by omega)

section
variable {a b : Int} {s t : Bool} {A B : Option Addr} {n m c d : Nat} {w : World}
theorem divMod_v (ha : WV w a s A n) (hb : WV w b t B m) (la : n ≤ 1024) (lb : m ≤ 1024) (hb0 : b ≠ 0) :
    Calls Tryz.prog 94 #[.agg #[.bool s, .slice A n c], .agg #[.bool t, .slice B m d]] w (VR2 (a.fdiv b) (a.fmod b) w) := by
  obtain ⟨rfl, rfl, hA⟩ := ha
  obtain ⟨rfl, rfl, hB⟩ := hb
  refine (divMod_any a b A B c d w hA hB la lb hb0).mono ?_
  rintro e w' ⟨A', c', B', d', m, he, h1, -, h2, h3, hb⟩
  exact ⟨_, A', _, c', _, B', _, d', he, ⟨rfl, rfl, h1⟩, ⟨rfl, rfl, h3.lower h2⟩, hb⟩
theorem gcd_v (ha : WV w a s A n) (hb : WV w b t B m) (la : n ≤ 1024) (lb : m ≤ 1024) :
    Calls Tryz.prog 123 #[.agg #[.bool s, .slice A n c], .agg #[.bool t, .slice B m d]] w (VR ((Nat.gcd a.natAbs b.natAbs : Nat) : Int) w) := by
  obtain ⟨rfl, rfl, hA⟩ := ha
  obtain ⟨rfl, rfl, hB⟩ := hb
  exact (gcd_any a b A B c d w hA hB la lb).mono fun _ _ h => h.vr (by rw [Int.natAbs_natCast]; exact ln_gcd _ _ _ la lb)
theorem cmp_v (ha : WV w a s A n) (hb : WV w b t B m) (la : n ≤ 1024) (lb : m ≤ 1024) :
    Calls Tryz.prog 59 #[.agg #[.bool s, .slice A n c], .agg #[.bool t, .slice B m d]] w fun e w' => e = .returned (.int .i64 (cmpZ a b)) ∧ Below w.heap.size w w' := by
  obtain ⟨rfl, rfl, hA⟩ := ha
  obtain ⟨rfl, rfl, hB⟩ := hb
  exact cmp_any a b A B c d w hA hB la lb
theorem valid_v (ha : WV w a s A n) (la : n ≤ 1024) : Calls Tryz.prog 40 #[.agg #[.bool s, .slice A n c]] w fun e w' => e = .returned (.bool true) ∧ Below w.heap.size w w' := by
  obtain ⟨rfl, rfl, hA⟩ := ha
  have h := valid_any (decide (a < 0)) A (ln b16 a.natAbs) c (dgt b16 a.natAbs) w hA (fun i _ => dgt16_lt _ i) (by omega)
  rw [okW_num la] at h
  exact h
theorem refSame_v (ha : WV w a s A n) (hb : WV w b t B m) (la : n ≤ 1000000) (lb : m ≤ 1000000) :
    Calls Tryz.prog 52 #[.agg #[.bool s, .slice A n c], .agg #[.bool t, .slice B m d]] w fun e w' => e = .returned (.bool (decide (a = b))) ∧ Below w.heap.size w w' := by
  obtain ⟨rfl, rfl, hA⟩ := ha
  obtain ⟨rfl, rfl, hB⟩ := hb
  have h := refSame_any (decide (a < 0)) (decide (b < 0)) A B (ln b16 a.natAbs) (ln b16 b.natAbs) c d _ _ w hA hB la lb
  rw [sameW_num] at h
  exact h
theorem same_v (ha : WV w a s A n) (hb : WV w b t B m) (la : n ≤ 1000000) (lb : m ≤ 1000000) :
    Calls Tryz.prog 47 #[.agg #[.bool s, .slice A n c], .agg #[.bool t, .slice B m d]] w fun e w' => e = .returned (.bool (decide (a = b))) ∧ Below w.heap.size w w' := by
  obtain ⟨rfl, rfl, hA⟩ := ha
  obtain ⟨rfl, rfl, hB⟩ := hb
  have h := same_any (decide (a < 0)) (decide (b < 0)) A B (ln b16 a.natAbs) (ln b16 b.natAbs) c d _ _ w hA hB la lb
  rw [sameW_num] at h
  exact h
theorem add_v (ha : WV w a s A n) (hb : WV w b t B m) (la : n ≤ 1024) (lb : m ≤ 1024) (lr : ln b16 (a + b).natAbs ≤ 1024) :
    Calls Tryz.prog 50 #[.agg #[.bool s, .slice A n c], .agg #[.bool t, .slice B m d]] w (VR (a + b) w) := by
  obtain ⟨rfl, rfl, hA⟩ := ha
  obtain ⟨rfl, rfl, hB⟩ := hb
  exact (add_any a b A B c d w hA hB la lb).mono fun _ _ h => h.vr lr
theorem mul_v (ha : WV w a s A n) (hb : WV w b t B m) (la : n ≤ 1024) (lb : m ≤ 1024) (lr : ln b16 (a * b).natAbs ≤ 1024) :
    Calls Tryz.prog 46 #[.agg #[.bool s, .slice A n c], .agg #[.bool t, .slice B m d]] w (VR (a * b) w) := by
  obtain ⟨rfl, rfl, hA⟩ := ha
  obtain ⟨rfl, rfl, hB⟩ := hb
  exact (mul_any a b A B c d w hA hB la lb).mono fun _ _ h => h.vr lr
end
end Go.Proofs.YtifikcemcflgjaaGreat
/-! The walks of the laws' helpers sum, product, less and equal. -/
namespace Go.Proofs.YtifikcemcflgjaaGreat
open Go.RowKit

section
variable {a b : Int} {s t : Bool} {A B : Option Addr} {n m c d : Nat} {w : World}
end
end Go.Proofs.YtifikcemcflgjaaGreat
/-! The walk of the laws' awake. -/
namespace Go.Proofs.YtifikcemcflgjaaGreat
open Go.RowKit

/-- What holds of a world and stays where nothing that lay is touched. -/
def Stable (P : World → Prop) : Prop := ∀ W W', Below W.heap.size W W' → P W → P W'
structure Env (w : World) (P : World → Prop) (W : World) : Prop where
  bel : Below w.heap.size w W
  st : Stable P
  here : P W
theorem Env.start (w : World) : Env w (fun _ => True) w := ⟨Below.refl _ _, fun _ _ _ h => h, trivial⟩
theorem Env.step {w : World} {P : World → Prop} {W W' : World} (h : Env w P W) (hb : Below W.heap.size W W') : Env w P W' := ⟨h.bel.trans (hb.mono h.bel.size), h.st, h.st _ _ hb h.here⟩
theorem Env.alloc {w : World} {P : World → Prop} {W : World} (h : Env w P W) (o : Obj) : Env w P (W.alloc o) := h.step ((Below.refl _ W).alloc (Nat.le_refl _) o)
theorem Env.drew {w : World} {P : World → Prop} {W : World} (h : Env w P W) : Env w P W.drew := h.step (Below.refl _ W).drew
theorem Env.and {w : World} {P Q : World → Prop} {W : World} (h : Env w P W) (hs : Stable Q) (hq : Q W) : Env w (fun W => P W ∧ Q W) W :=
  ⟨h.bel, fun A B hb hp => ⟨h.st A B hb hp.1, hs A B hb hp.2⟩, h.here, hq⟩
/-- A variable that holds the number z. -/
def Bx (g : Nat) (z : Int) (s : Bool) (A : Option Addr) (n c : Nat) (W : World) : Prop := WholeAt W g s (.slice A n c) ∧ WV W z s A n
theorem Bx.stable (g : Nat) (z : Int) (s : Bool) (A : Option Addr) (n c : Nat) : Stable (Bx g z s A n c) := fun _ _ hb ⟨h1, h2⟩ => ⟨h1.below hb h1.lt, h2.below hb⟩
theorem Bx.new {W : World} {z : Int} {s : Bool} {A : Option Addr} {n c : Nat} (h : WV W z s A n) : Bx W.heap.size z s A n c (W.alloc (.cells #[.bool s, .slice A n c] 24)) :=
  ⟨WholeAt.new W s _, h.below ((Below.refl _ W).alloc (Nat.le_refl _) _)⟩
theorem WV.stable (z : Int) (s : Bool) (A : Option Addr) (n : Nat) : Stable (fun W => WV W z s A n) := fun _ _ hb h => h.below hb
theorem add_invalid {b : Int} {t : Bool} {B : Option Addr} {m d : Nat} {w : World} (hb : WV w b t B m) (lb : m ≤ 1024) :
    Calls Tryz.prog 50 #[.agg #[.bool true, .slice none 0 0], .agg #[.bool t, .slice B m d]] w (ErrArgW w) := by
  obtain ⟨rfl, rfl, hB⟩ := hb
  exact add_bad true (decide (b < 0)) none B 0 (ln b16 b.natAbs) 0 d (fun _ => 0) (dgt b16 b.natAbs) w Rd.nil hB (fun _ => by omega) (fun i => dgt16_lt _ i) (by omega) (by omega) rfl
theorem len_small {z : Int} {base : Nat} {w : World} {s : Bool} {A : Option Addr} {n c : Nat} (h : WO base w z s A n c) (h1 : -9223372036854775808 ≤ z) (h2 : z ≤ 9223372036854775807) : n ≤ 1024 := by
  rw [h.len]; exact Nat.le_trans (ln_int h1 h2) (by decide)
theorem ln_small1024 {z : Int} (h1 : -9223372036854775808 ≤ z) (h2 : z ≤ 9223372036854775807) : ln b16 z.natAbs ≤ 1024 := Nat.le_trans (ln_int h1 h2) (by decide)
end Go.Proofs.YtifikcemcflgjaaGreat
/-! The walk of the laws' usable. -/
namespace Go.Proofs.YtifikcemcflgjaaGreat
open Go.RowKit

/-- n numbers in a row of memory, of any length. -/
def NumsL (w : World) (b : Nat) (n : Nat) (s : Nat → Bool) (A : Nat → Option Addr) (m c : Nat → Nat) (f : Nat → Nat → Nat) : Prop :=
  ∀ i, i < n → w.cell? ⟨b, i * 2, none⟩ = some (.bool (s i)) ∧ w.cell? ⟨b, i * 2 + 1, none⟩ = some (.slice (A i) (m i) (c i)) ∧ Rd w.heap.size .u16 w (A i) (m i) (f i) ∧ (∀ j, j < m i → f i j < 65536)
def useOK (most : Nat) (s : Bool) (n : Nat) (f : Nat → Nat) : Bool := decide (n ≤ most) && okW s n f
theorem Env.cons {w : World} {P Q : World → Prop} {W : World} (h : Env w P W) (hs : Stable Q) (hq : Q W) : Env w (fun W => Q W ∧ P W) W :=
  ⟨h.bel, fun A B hb hp => ⟨hs A B hb hp.1, h.st A B hb hp.2⟩, hq, h.here⟩
theorem Env.stepTo {w W : World} (_ : Env w (fun _ => True) w) (hb : Below w.heap.size w W) : Env w (fun _ => True) W := ⟨hb, fun _ _ _ h => h, trivial⟩
theorem le_len {W : World} {z : Int} {s : Bool} {A : Option Addr} {n k : Nat} (h : WV W z s A n) (hz : ln b16 z.natAbs ≤ k) : n ≤ k := by rw [h.len]; exact hz
theorem WholeAt.stable (g : Nat) (s : Bool) (v : Value) : Stable (fun W => WholeAt W g s v) := fun _ _ hb h => h.below hb h.lt
/-- The boxes of three arguments. -/
def Three (g : Nat) (s1 s2 s3 : Bool) (A1 A2 A3 : Option Addr) (n1 n2 n3 c1 c2 c3 : Nat) (W : World) : Prop :=
  WholeAt W g s1 (.slice A1 n1 c1) ∧ WholeAt W (g + 1) s2 (.slice A2 n2 c2) ∧ WholeAt W (g + 1 + 1) s3 (.slice A3 n3 c3)
/-- The boxes of three arguments that are numbers. -/
def Tri (g : Nat) (a b c : Int) (s1 s2 s3 : Bool) (A1 A2 A3 : Option Addr) (n1 n2 n3 c1 c2 c3 : Nat) (W : World) : Prop :=
  Bx g a s1 A1 n1 c1 W ∧ Bx (g + 1) b s2 A2 n2 c2 W ∧ Bx (g + 1 + 1) c s3 A3 n3 c3 W
def Two0 (g : Nat) (s1 s2 : Bool) (A1 A2 : Option Addr) (n1 n2 c1 c2 : Nat) (W : World) : Prop :=
  WholeAt W g s1 (.slice A1 n1 c1) ∧ WholeAt W (g + 1) s2 (.slice A2 n2 c2)
def Duo (g : Nat) (a b : Int) (s1 s2 : Bool) (A1 A2 : Option Addr) (n1 n2 c1 c2 : Nat) (W : World) : Prop :=
  Bx g a s1 A1 n1 c1 W ∧ Bx (g + 1) b s2 A2 n2 c2 W
section
variable {g : Nat} {a b c : Int} {s1 s2 s3 : Bool} {A1 A2 A3 : Option Addr} {n1 n2 n3 c1 c2 c3 : Nat} {w W : World}
theorem Three.stable : Stable (Three g s1 s2 s3 A1 A2 A3 n1 n2 n3 c1 c2 c3) := fun _ _ hb ⟨h1, h2, h3⟩ => ⟨h1.below hb h1.lt, h2.below hb h2.lt, h3.below hb h3.lt⟩
theorem Two0.stable : Stable (Two0 g s1 s2 A1 A2 n1 n2 c1 c2) := fun _ _ hb ⟨h1, h2⟩ => ⟨h1.below hb h1.lt, h2.below hb h2.lt⟩
theorem Tri.stable : Stable (Tri g a b c s1 s2 s3 A1 A2 A3 n1 n2 n3 c1 c2 c3) := fun A B hb ⟨h1, h2, h3⟩ => ⟨Bx.stable _ _ _ _ _ _ A B hb h1, Bx.stable _ _ _ _ _ _ A B hb h2, Bx.stable _ _ _ _ _ _ A B hb h3⟩
theorem Duo.stable : Stable (Duo g a b s1 s2 A1 A2 n1 n2 c1 c2) := fun A B hb ⟨h1, h2⟩ => ⟨Bx.stable _ _ _ _ _ _ A B hb h1, Bx.stable _ _ _ _ _ _ A B hb h2⟩
theorem Three.cells (h : Three g s1 s2 s3 A1 A2 A3 n1 n2 n3 c1 c2 c3 W) : W.cell? ⟨g, 0, none⟩ = some (.bool s1) ∧ W.cell? ⟨g, 1, none⟩ = some (.slice A1 n1 c1) ∧ W.cell? ⟨g + 1, 0, none⟩ = some (.bool s2) ∧ W.cell? ⟨g + 1, 1, none⟩ = some (.slice A2 n2 c2) ∧
    W.cell? ⟨g + 1 + 1, 0, none⟩ = some (.bool s3) ∧ W.cell? ⟨g + 1 + 1, 1, none⟩ = some (.slice A3 n3 c3) := ⟨h.1.cells.1, h.1.cells.2, h.2.1.cells.1, h.2.1.cells.2, h.2.2.cells.1, h.2.2.cells.2⟩
theorem Two0.cells (h : Two0 g s1 s2 A1 A2 n1 n2 c1 c2 W) : W.cell? ⟨g, 0, none⟩ = some (.bool s1) ∧ W.cell? ⟨g, 1, none⟩ = some (.slice A1 n1 c1) ∧ W.cell? ⟨g + 1, 0, none⟩ = some (.bool s2) ∧ W.cell? ⟨g + 1, 1, none⟩ = some (.slice A2 n2 c2) :=
  ⟨h.1.cells.1, h.1.cells.2, h.2.cells.1, h.2.cells.2⟩
theorem Tri.cells (h : Env w (Tri g a b c s1 s2 s3 A1 A2 A3 n1 n2 n3 c1 c2 c3) W) : W.cell? ⟨g, 0, none⟩ = some (.bool s1) ∧ W.cell? ⟨g, 1, none⟩ = some (.slice A1 n1 c1) ∧ W.cell? ⟨g + 1, 0, none⟩ = some (.bool s2) ∧ W.cell? ⟨g + 1, 1, none⟩ = some (.slice A2 n2 c2) ∧
    W.cell? ⟨g + 1 + 1, 0, none⟩ = some (.bool s3) ∧ W.cell? ⟨g + 1 + 1, 1, none⟩ = some (.slice A3 n3 c3) ∧ Env w (Tri g a b c s1 s2 s3 A1 A2 A3 n1 n2 n3 c1 c2 c3) W :=
  ⟨h.here.1.1.cells.1, h.here.1.1.cells.2, h.here.2.1.1.cells.1, h.here.2.1.1.cells.2, h.here.2.2.1.cells.1, h.here.2.2.1.cells.2, h⟩
theorem Duo.cells (h : Env w (Duo g a b s1 s2 A1 A2 n1 n2 c1 c2) W) : W.cell? ⟨g, 0, none⟩ = some (.bool s1) ∧ W.cell? ⟨g, 1, none⟩ = some (.slice A1 n1 c1) ∧ W.cell? ⟨g + 1, 0, none⟩ = some (.bool s2) ∧ W.cell? ⟨g + 1, 1, none⟩ = some (.slice A2 n2 c2) ∧
    Env w (Duo g a b s1 s2 A1 A2 n1 n2 c1 c2) W :=
  ⟨h.here.1.1.cells.1, h.here.1.1.cells.2, h.here.2.1.cells.1, h.here.2.1.cells.2, h⟩
theorem Three.tri (h : Env w (Three g s1 s2 s3 A1 A2 A3 n1 n2 n3 c1 c2 c3) W) (ha : WV w a s1 A1 n1) (hb : WV w b s2 A2 n2) (hc : WV w c s3 A3 n3) : Env w (Tri g a b c s1 s2 s3 A1 A2 A3 n1 n2 n3 c1 c2 c3) W :=
  ⟨h.bel, Tri.stable, ⟨h.here.1, ha.below h.bel⟩, ⟨h.here.2.1, hb.below h.bel⟩, ⟨h.here.2.2, hc.below h.bel⟩⟩
theorem Two0.duo (h : Env w (Two0 g s1 s2 A1 A2 n1 n2 c1 c2) W) (ha : WV w a s1 A1 n1) (hb : WV w b s2 A2 n2) : Env w (Duo g a b s1 s2 A1 A2 n1 n2 c1 c2) W :=
  ⟨h.bel, Duo.stable, ⟨h.here.1, ha.below h.bel⟩, ⟨h.here.2, hb.below h.bel⟩⟩
end
theorem Env.two (w : World) (s1 s2 : Bool) (A1 A2 : Option Addr) (n1 n2 c1 c2 : Nat) :
    Env w (Two0 w.heap.size s1 s2 A1 A2 n1 n2 c1 c2) ((w.alloc (.cells #[.bool s1, .slice A1 n1 c1] 24)).alloc (.cells #[.bool s2, .slice A2 n2 c2] 24)) :=
  have hT := TwoP.start w s1 s2 A1 A2 n1 n2 c1 c2
  ⟨hT.bel, Two0.stable, hT.p0, hT.p1⟩
theorem Env.three (w : World) (s1 s2 s3 : Bool) (A1 A2 A3 : Option Addr) (n1 n2 n3 c1 c2 c3 : Nat) :
    Env w (Three w.heap.size s1 s2 s3 A1 A2 A3 n1 n2 n3 c1 c2 c3) (((w.alloc (.cells #[.bool s1, .slice A1 n1 c1] 24)).alloc (.cells #[.bool s2, .slice A2 n2 c2] 24)).alloc (.cells #[.bool s3, .slice A3 n3 c3] 24)) := by
  have hT := TwoP.start w s1 s2 A1 A2 n1 n2 c1 c2
  have h3 := WholeAt.new ((w.alloc (.cells #[.bool s1, .slice A1 n1 c1] 24)).alloc (.cells #[.bool s2, .slice A2 n2 c2] 24)) s3 (.slice A3 n3 c3)
  simp only [World.size_alloc] at h3
  exact ⟨hT.bel.alloc hT.bel.size _, Three.stable, hT.p0.alloc' _, hT.p1.alloc' _, h3⟩
/-- A valid number is a number. -/
theorem WV.of_ok {w : World} {s : Bool} {A : Option Addr} {n : Nat} {f : Nat → Nat} (h : Rd w.heap.size .u16 w A n f) (hf : ∀ j, j < n → f j < 65536) (hok : okW s n f = true) : ∃ z, WV w z s A n := by
  have hx : vs b16 f n < b16 ^ n := vs_lt hf
  have hl : ln b16 (vs b16 f n) = n := by
    refine ln_vs b16_two hf ?_
    rcases Nat.eq_zero_or_pos n with h0 | h0
    · exact .inl h0
    · refine .inr ?_
      unfold okW at hok
      rw [if_neg (by omega)] at hok
      simpa using (Bool.and_eq_true_iff.1 hok).2
  refine ⟨toI s (vs b16 f n), ?_, ?_, ?_⟩
  · rw [toI_neg]
    rcases Nat.eq_zero_or_pos n with h0 | h0
    · subst h0
      unfold okW at hok
      rw [if_pos rfl] at hok
      have : s = false := by simpa using hok
      rw [this]; rfl
    · have : 0 < vs b16 f n := (ln_pos b16_two).1 (by omega)
      simp [this]
  · rw [toI_abs, hl]
  · rw [toI_abs]
    unfold Num16
    rw [hl]
    exact h.congr fun i hi => (dgt_vs hf hi).symm
theorem WV.of_use {w : World} {s : Bool} {A : Option Addr} {n most : Nat} {f : Nat → Nat} (h : Rd w.heap.size .u16 w A n f) (hf : ∀ j, j < n → f j < 65536) (hok : useOK most s n f = true) : ∃ z, WV w z s A n ∧ ln b16 z.natAbs ≤ most := by
  unfold useOK at hok
  obtain ⟨h1, h2⟩ := Bool.and_eq_true_iff.1 hok
  obtain ⟨z, hz⟩ := WV.of_ok h hf h2
  exact ⟨z, hz, by rw [← hz.len]; simpa using h1⟩
end Go.Proofs.YtifikcemcflgjaaGreat
