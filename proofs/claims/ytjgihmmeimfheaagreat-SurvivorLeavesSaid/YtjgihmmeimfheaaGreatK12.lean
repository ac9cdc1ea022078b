/-
  Several texts in one: The walks of annuitantref01's Make, FromInt and Same, of the laws' num and is. The walks of the reference's Trim and Less. The walk of the reference's Plus.
-/
import Derived.Test.YtjgihmmeimfheaaGreatK7
import Derived.Test.YtjgihmmeimfheaaGreatK11
import Derived.Deep.RegionHeld3
import Derived.Test.YtjgihmmeimfheaaGreatK4
import Derived.Deep.CutRange
namespace Go.Proofs.YtjgihmmeimfheaaGreat
open Go.RowKit

set_option maxRecDepth 100000 in
theorem make_any (t : Bool) (A : Option Addr) (n c : Nat) (w : World) : Calls Tryz.prog 93 #[.bool t, .slice A n c] w fun e w' => e = .returned (.agg #[.bool (t && decide (0 < n)), .slice A n c]) ∧ Below w.heap.size w w' := by
 have b1 : Below w.heap.size w (w.alloc (.cells #[.bool false, .slice none 0 0] 27)) := (Below.refl _ w).alloc (Nat.le_refl _) _
 go_enter Tryz.func93, Tryz.ntmps93
 cases t
 ·
  go_wp2_with fail
  exact bodyPost_ret (v := .agg #[.bool false, .slice A n c]) (by simp [results, Tryz.results93, go_sem]) rfl ⟨by simp, (Below.refl _ w).alloc (Nat.le_refl _) _⟩
 ·
  by_cases hn : 0 < n
  ·
   have t1 : (0 : Int) < (n : Int) := by omega
   go_wp2_with fail
   exact bodyPost_ret (v := .agg #[.bool true, .slice A n c]) (by simp [results, Tryz.results93, go_sem]) rfl ⟨by simp [hn], (Below.refl _ w).alloc (Nat.le_refl _) _⟩
  ·
   obtain rfl : n = 0 := by omega
   go_wp2_with fail
   exact bodyPost_ret (v := .agg #[.bool false, .slice A 0 c]) (by simp [results, Tryz.results93, go_sem]) rfl ⟨by simp, (Below.refl _ w).alloc (Nat.le_refl _) _⟩

theorem own_slice16 {base n : Nat} {w : World} {v : Value} {xs : List Value} (h : w.ownsRow base 59 1 v n xs) : ∃ A c, v = .slice A n c := by
 rcases h.2 with ⟨hv, hn⟩ | ⟨g, cap, cur, hv, _⟩
 · exact ⟨none, 0, by rw [hv, hn]⟩
 · exact ⟨_, _, hv⟩
theorem ln16_step {x k : Nat} : 0 < x / 65536 ^ k ↔ k < ln b16 x := by
 rw [ln_lt b16_two, Nat.div_pos_iff]
 exact ⟨fun h => h.2, fun h => ⟨Nat.pow_pos (by decide), h⟩⟩
set_option maxRecDepth 100000 in
set_option maxHeartbeats 2000000 in
theorem refFromInt_any (z : Int) (w : World) (h1 : -9223372036854775808 ≤ z) (h2 : z ≤ 9223372036854775807) : Calls Tryz.prog 56 #[.int .i64 z] w (WI w z) := by
 obtain ⟨x, hx⟩ : ∃ x, x = z.natAbs := ⟨_, rfl⟩
 have hx64 : x < 18446744073709551616 := by omega
 have hl4 : ln b16 x ≤ 4 := (ln_le b16_two).2 hx64
 obtain ⟨i0, hi, hz0, hz1, hz2⟩ := info_parts info_u16
 go_enter Tryz.func56, Tryz.ntmps56
 go_upto_if 8 with (fail)
 go_cut [3] (fun v wx => v = .int .u64 (x : Int) ∧ wx = w.alloc (.cells #[.bool false, .slice none 0 0] 27))
 case first =>
  by_cases hneg : z < 0
  ·
   go_wp2_with fail
   go_meet
   refine ⟨?_, rfl⟩
   congr 1
   rw [IntKind.wrap_u64, IntKind.wrap_u64]; omega
  ·
   go_wp2_with fail
   go_meet
   refine ⟨?_, rfl⟩
   congr 1
   rw [IntKind.wrap_u64]; omega
 case rest =>
  obtain ⟨rfl, rfl⟩ := hcut
  have HX := Lib.hid hx
  clear hx
  have hR0 := WholeAt.new w false (.slice none 0 0)
  have hb0 : Below w.heap.size w (w.alloc (.cells #[.bool false, .slice none 0 0] 27)) := (Below.refl _ w).alloc (Nat.le_refl _) _
  go_wp2_with fail
  go_loopw [3, 4] (fun u v wr => ∃ k X, u = .int .u64 ((X : Nat) : Int) ∧ Hid (X = x / 65536 ^ k) ∧ X < 18446744073709551616 ∧ k ≤ ln b16 x ∧ Hid (lenV v = k) ∧ wr.ownsRow (w.heap.size + 1) 59 1 v k (nums .u16 k (dgt b16 x)) ∧ WholeAt wr w.heap.size false (.slice none 0 0) ∧ Below w.heap.size w wr) (fun _ v _ => ln b16 x - lenV v)
  case atStart => exact ⟨0, x, rfl, Lib.hid (by simp), hx64, Nat.zero_le _, Lib.hid rfl, World.ownsRow_nil .., hR0, hb0⟩
  case round =>
   obtain ⟨k, X, rfl, hX, hX64, hk, hlv, hown, hp, hbl⟩ := hrel
   have hsz := hbl.size
   have hpl := hp.lt
   by_cases hX0 : 0 < X
   ·
    have t1 : (0 : Int) < (X : Int) := by omega
    have hd : X % 65536 = dgt b16 x k := by rw [hX.out]; rfl
    have hk9 : k < ln b16 x := ln16_step.1 (by rw [← hX.out]; exact hX0)
    have hdl := dgt16_lt x k
    have e3 : (X : Int) % 65536 = ((dgt b16 x k : Nat) : Int) := by omega
    have HD := Lib.hid hd
    clear hd
    go_wp2_with (at_builtin; refine wpList_append_own _ rfl _ _ 25 rfl (w.heap.size + 1) 59 i0 (.int .u16 0) 1 2 Tryz.underlying25 hi hz0 hz1 hz2 rfl (by decide) _ _ _ rfl (hown.alloc _) ⟨wr.heap.size, 0, none⟩ 1 1 [.int .u16 ((dgt b16 x k : Nat) : Int)] rfl rfl (cell_one_new _ _ _) (by simp [Value.oneCell']) (by unfold maxLen; omega) (by omega) (by simp; omega) ?_; intro v' w5 hown5 hgrow _; obtain ⟨g', cap', rfl⟩ := ownsRow_succ hown5)
    go_roundw
    case rel =>
     rw [nums_succ] at hown5
     exact ⟨k + 1, X / 65536, by congr 1, Lib.hid (by rw [hX.out, Nat.div_div_eq_div_mul, Nat.pow_succ]), by omega, hk9, Lib.hid rfl, hown5, (hp.alloc' _).grown hgrow (own_not hown (Nat.lt_succ_self _)), (hbl.alloc hsz (.cells #[.int .u16 ((dgt b16 x k : Nat) : Int)] 59)).grown hgrow (by simp; omega) (fun g hg => by have := (hown.lt g hg).1; omega)⟩
    case measure => show ln b16 x - (k + 1) < ln b16 x - lenV u4; rw [hlv.out]; omega
   ·
    obtain rfl : X = 0 := by omega
    have hkk : k = ln b16 x := by
     have := mt ln16_step.2 (by rw [← hX.out]; decide : ¬ 0 < x / 65536 ^ k)
     omega
    subst hkk
    obtain ⟨A, c, rfl⟩ := own_slice16 hown
    have hm := make_any (decide (z < 0)) A (ln b16 x) c wr
    rw [show (decide (z < 0) && decide (0 < ln b16 x)) = decide (z < 0) by
     by_cases hz : z < 0
     ·
      have := (ln_pos b16_two (x := x)).2 (by have := HX.out; omega)
      simp [hz, this]
     · simp [hz]] at hm
    have HM := Lib.hid hm
    clear hm
    obtain ⟨s, hs⟩ : ∃ s, s = decide (z < 0) := ⟨_, rfl⟩
    rw [← hs] at HM
    have HS := Lib.hid hs
    go_wp2_with fail
    rw [← HS.out]
    clear hs
    refine HM.out.mono ?_
    rintro e w5 ⟨rfl, hb5⟩
    have hR5 := hp.below hb5 hpl
    have hbl5 := hbl.trans (hb5.mono hsz)
    have ho5 : Own16 (w.heap.size + 1) w5 A (ln b16 x) c (dgt b16 x) := own_below hown hb5 (Nat.le_refl _)
    obtain ⟨r0, r1⟩ := hR5.cells
    have g0 := hR5.frozen 0
    have g1 := hR5.frozen 1
    obtain ⟨hW, hbW⟩ := store_whole hR5 hbl5 (Nat.le_refl _) s (.slice A (ln b16 x) c)
    have ho6 := (store_own (R := w.heap.size) ho5 (Nat.lt_succ_self _) s (.slice A (ln b16 x) c)).lower (base' := w.heap.size) (by omega)
    have HW := Lib.hid hW
    clear hW ho5 hown
    go_wp2_with fail
    have hW := HW.out
    clear HW hR5 r0 r1
    generalize ((w5.setCell ⟨w.heap.size, 0, none⟩ (.bool s)).setCell ⟨w.heap.size, 1, none⟩ (.slice A (ln b16 x) c)) = WW at *
    obtain ⟨k0, k1⟩ := hW.cells
    refine bodyPost_ret (v := .agg #[.bool s, .slice A (ln b16 x) c]) (by simp [results, Tryz.results56, go_sem, k0, k1]) rfl ?_
    rw [HX.out] at ho6 ⊢
    rw [HS.out]
    exact ⟨A, c, rfl, ho6, hbW⟩

theorem TwoP.start (w : World) (s t : Bool) (A B : Option Addr) (n m c d : Nat) : TwoP w s t A B n m c d ((w.alloc (.cells #[.bool s, .slice A n c] 27)).alloc (.cells #[.bool t, .slice B m d] 27)) := by
 have b1 : Below w.heap.size w (w.alloc (.cells #[.bool s, .slice A n c] 27)) := (Below.refl _ w).alloc (Nat.le_refl _) _
 have q1 := WholeAt.new (w.alloc (.cells #[.bool s, .slice A n c] 27)) t (.slice B m d)
 rw [World.size_alloc] at q1
 exact ⟨(Below.heap_alloc _ _ _ (by simp)).trans (WholeAt.new w s (.slice A n c)), q1, b1.alloc b1.size _⟩
theorem TwoP.drewN {w : World} {s t : Bool} {A B : Option Addr} {n m c d : Nat} {w' : World} (h : TwoP w s t A B n m c d w') (q : Nat) : TwoP w s t A B n m c d (w'.drewN q) := ⟨h.p0, h.p1, belowN h.bel q⟩
set_option maxRecDepth 100000 in
set_option maxHeartbeats 1000000 in
theorem refSame_any (s t : Bool) (A B : Option Addr) (n m c d : Nat) (f h : Nat → Nat) (w : World) (hA : Rd w.heap.size .u16 w A n f) (hB : Rd w.heap.size .u16 w B m h) (hn : n ≤ 1000000) (hm : m ≤ 1000000) :
  Calls Tryz.prog 70 #[.agg #[.bool s, .slice A n c], .agg #[.bool t, .slice B m d]] w fun e w' => e = .returned (.bool (sameW s t n m f h)) ∧ Below w.heap.size w w' := by
 have hT := TwoP.start w s t A B n m c d
 by_cases hst : s = t
 ·
  subst hst
  by_cases hl : n = m
  ·
   subst hl
   go_enter Tryz.func70, Tryz.ntmps70
   go_wp2_with fail
   go_loopw [5] (fun i wr => ∃ k : Nat, k ≤ n ∧ i = .int .i64 (k : Int) ∧ Hid (eqU f h k = true) ∧ TwoP w s s A B n n c d wr) (fun i _ => n - (intOf i).toNat)
   case atStart => exact ⟨0, Nat.zero_le _, rfl, Lib.hid rfl, hT⟩
   case round =>
    obtain ⟨k, hk, rfl, hok, hT⟩ := hrel
    obtain ⟨p0, p1⟩ := hT.p0.cells
    obtain ⟨p2, p3⟩ := hT.p1.cells
    by_cases hlt : k < n
    ·
     obtain ⟨pa, qa, rfl, hpa, hca⟩ := (hA.below hT.bel) (by omega)
     obtain ⟨pb, qb, rfl, hpb, hcb⟩ := (hB.below hT.bel) (by omega)
     have c1 := hca k hlt
     have c2 := hcb k hlt
     clear hca hcb
     by_cases he : f k = h k
     ·
      have t1 : (((f k : Nat) : Int) != ((h k : Nat) : Int)) = false := by rw [he]; simp
      have HE := Lib.hid he
      clear he
      go_wp2_with fail
      go_quiet (fail)
      go_wp2
      go_roundw
      case rel => exact ⟨k + 1, by omega, by go_num, Lib.hid (eqU_step hok.out HE.out), hT.drewN _⟩
      case measure => simp [intOf]; omega
     ·
      have t1 : (((f k : Nat) : Int) != ((h k : Nat) : Int)) = true := bne_iff_ne.2 (by omega)
      have hfin : sameW s s n n f h = false := by unfold sameW eqL; rw [eqU_false hlt he, Bool.and_false, Bool.and_false]
      have HF := Lib.hid hfin
      clear hfin he
      go_wp2_with fail
      go_quiet (fail)
      go_wp2
      go_ret
      exact ⟨ret_bool HF.out.symm, (hT.drewN _).bel⟩
    ·
     obtain rfl : k = n := by omega
     have hfin : sameW s s k k f h = true := by unfold sameW eqL; rw [hok.out]; simp
     have HF := Lib.hid hfin
     clear hfin
     go_wp2_with fail
     go_ret
     exact ⟨ret_bool HF.out.symm, hT.bel⟩
  ·
   have t0 : ((n : Int) != (m : Int)) = true := bne_iff_ne.2 (by omega)
   have hfin : sameW s s n m f h = false := by unfold sameW eqL; rw [beq_false_of_ne hl, Bool.false_and, Bool.and_false]
   have HF := Lib.hid hfin
   clear hfin
   go_enter Tryz.func70, Tryz.ntmps70
   go_wp2_with fail
   go_ret
   exact ⟨ret_bool HF.out.symm, hT.bel⟩
 ·
  have t0 : (s == t) = false := by simp [hst]
  have hfin : sameW s t n m f h = false := by unfold sameW; rw [t0, Bool.false_and]
  have HF := Lib.hid hfin
  clear hfin
  go_enter Tryz.func70, Tryz.ntmps70
  go_wp2_with fail
  go_ret
  exact ⟨ret_bool HF.out.symm, hT.bel⟩
theorem eqU_iff {f h : Nat → Nat} {n : Nat} : eqU f h n = true ↔ ∀ i, i < n → f i = h i := by
 induction n with
 | zero => simp [eqU]
 | succ n ih =>
  simp only [eqU, Bool.and_eq_true, ih, beq_iff_eq]
  exact ⟨fun ⟨h1, h2⟩ i hi => by
   rcases Nat.lt_or_ge i n with h3 | h3
   · exact h1 i h3
   · rw [show i = n by omega]; exact h2, fun h => ⟨fun i hi => h i (by omega), h n (by omega)⟩⟩
/-- Two numbers are the same where they are equal. -/
theorem sameW_num (a b : Int) : sameW (decide (a < 0)) (decide (b < 0)) (ln b16 a.natAbs) (ln b16 b.natAbs) (dgt b16 a.natAbs) (dgt b16 b.natAbs) = decide (a = b) := by
 by_cases hab : a = b
 ·
  subst hab
  simp [sameW, eqL, eqU_iff.2 (fun i _ => rfl)]
 ·
  rw [decide_eq_false hab]
  unfold sameW eqL
  by_cases hs : decide (a < 0) = decide (b < 0)
  ·
   rw [hs, beq_self_eq_true, Bool.true_and]
   by_cases hl : ln b16 a.natAbs = ln b16 b.natAbs
   ·
    rw [hl, beq_self_eq_true, Bool.true_and]
    cases he : eqU (dgt b16 a.natAbs) (dgt b16 b.natAbs) (ln b16 b.natAbs) with
    | false => rfl
    | true =>
     have h1 := vs_congr (B := b16) (eqU_iff.1 he)
     rw [← hl, vs_dgt_ln b16_two, hl, vs_dgt_ln b16_two] at h1
     exfalso
     by_cases h0 : a < 0 <;> by_cases h00 : b < 0 <;> simp [h0, h00] at hs <;> omega
   · rw [beq_false_of_ne hl, Bool.false_and]
  · rw [beq_false_of_ne hs, Bool.false_and]
end Go.Proofs.YtjgihmmeimfheaaGreat
namespace Go.Proofs.YtjgihmmeimfheaaGreat
open Go.RowKit

theorem rtrim_round {f : Nat → Nat} {k V : Nat} (hk0 : 0 < k) (hv : vs b16 f k = V) (hx : f (k - 1) = 0) : vs b16 f (k - 1) = V := by
 have h1 := vs_succ b16 f (k - 1)
 rw [show k - 1 + 1 = k by omega, hv, hx] at h1
 omega
set_option maxHeartbeats 1000000 in
theorem rtrim_any (B : Nat) (A : Option Addr) (n c : Nat) (f : Nat → Nat) (w : World) (h : Rd B .u16 w A n f) (hf : ∀ i, i < n → f i < 65536) (hc : n ≤ c) (hn : n ≤ 100000000) :
  Calls Tryz.prog 156 #[.slice A n c] w fun e w' => e = .returned (.slice A (ln b16 (vs b16 f n)) c) ∧ w = w' := by
 have HF := Lib.hid hf
 clear hf
 go_enter Tryz.func156, Tryz.ntmps156
 go_wp2_with fail
 go_loopw [3] (fun v wr => ∃ k : Nat, k ≤ n ∧ v = .int .i64 (k : Int) ∧ Hid (vs b16 f k = vs b16 f n) ∧ wr = w) (fun v _ => (intOf v).toNat)
 case atStart => exact ⟨n, Nat.le_refl _, rfl, Lib.hid rfl, rfl⟩
 case round =>
  obtain ⟨k, hk, rfl, HV, rfl⟩ := hrel
  rcases Nat.eq_zero_or_pos k with rfl | hk0
  ·
   go_wp2_with fail
   go_ret
   exact ⟨ret_slice (by rw [← HV.out, vs_zero, ln_zero]), rfl⟩
  ·
   obtain ⟨b, o, rfl, hb, hcell⟩ := h (by omega)
   have hx := hcell (k - 1) (by omega)
   have t0 : (0 : Int) < (k : Int) := by omega
   have e1 : (k : Int) - 1 = ((k - 1 : Nat) : Int) := by omega
   have e2 : ((k : Int) - 1).toNat = k - 1 := by omega
   have i1 : (0 : Int) ≤ (k : Int) - 1 := by omega
   have i2 : (k : Int) - 1 < (n : Int) := by omega
   have i3 : (k : Int) ≤ (c : Int) := by omega
   clear hcell
   by_cases h0 : f (k - 1) = 0
   ·
    have t1 : (((f (k - 1) : Nat) : Int) == 0) = true := by rw [h0]; rfl
    have HN := Lib.hid (rtrim_round hk0 HV.out h0)
    clear h0
    go_wp2_with fail
    go_roundw
    case rel => exact ⟨k - 1, by omega, rfl, HN, by first | trivial | rfl⟩
    case measure => simp [intOf]; omega
   ·
    have t1 : (((f (k - 1) : Nat) : Int) == 0) = false := beq_eq_false_iff_ne.2 (by omega)
    have H0 := Lib.hid h0
    clear h0
    go_wp2_with fail
    go_ret
    exact ⟨ret_slice (by rw [← HV.out, ln_vs b16_two (fun j hj => HF.out j (by omega)) (.inr H0.out)]), rfl⟩
def LessPost (a b : Nat) (w : World) (e : Ending) (w' : World) : Prop := e = .returned (.bool (decide (a < b))) ∧ ∃ n, w' = w.drewN n

set_option maxHeartbeats 400000 in
theorem rless_len (A B : Option Addr) (n m c d : Nat) (w : World) (h : n ≠ m) :
  Calls Tryz.prog 140 #[.slice A n c, .slice B m d] w fun e w' => e = .returned (.bool (decide (n < m))) ∧ w = w' := by
 rcases Nat.lt_or_gt_of_ne h with h1 | h1
 ·
  have k1 : ((n : Int) != m) = true := by simp; omega
  have k2 : decide ((n : Int) < (m : Int)) = true := decide_eq_true (by omega)
  have k3 := Lib.hid (decide_eq_true h1)
  go_enter Tryz.func140, Tryz.ntmps140
  go_wp2
  go_ret
  first | exact ⟨ret_bool k3.out.symm, rfl⟩ | exact ⟨rfl, rfl⟩
 ·
  have k1 : ((n : Int) != m) = true := by simp; omega
  have k2 : decide ((n : Int) < (m : Int)) = false := decide_eq_false (by omega)
  have k3 := Lib.hid (decide_eq_false (show ¬ n < m by omega))
  go_enter Tryz.func140, Tryz.ntmps140
  go_wp2
  go_ret
  first | exact ⟨ret_bool k3.out.symm, rfl⟩ | exact ⟨rfl, rfl⟩

set_option maxHeartbeats 400000 in
theorem rless_same (A B : Option Addr) (n c d a b : Nat) (w : World) (ha : Rd w.heap.size .u16 w A n (dgt b16 a)) (hb : Rd w.heap.size .u16 w B n (dgt b16 b)) (hn : n ≤ 100000000) (la : a < b16 ^ n) (lb : b < b16 ^ n) :
  Calls Tryz.prog 140 #[.slice A n c, .slice B n d] w (LessPost a b w) := by
 have LA := Lib.hid la
 have LB := Lib.hid lb
 clear la lb
 have hcell : ∀ j, j < n → ∃ p q p' q', A = some ⟨p, q, none⟩ ∧ B = some ⟨p', q', none⟩ ∧ (w.cell? ⟨p, q + j, none⟩ = some (.int .u16 (dgt b16 a j : Int))) ∧ (w.cell? ⟨p', q' + j, none⟩ = some (.int .u16 (dgt b16 b j : Int))) := fun j hj => by
  obtain ⟨p, q, e, _, h1⟩ := ha (by omega)
  obtain ⟨p', q', e', _, h2⟩ := hb (by omega)
  exact ⟨p, q, p', q', e, e', h1 j hj, h2 j hj⟩
 have HC := Lib.hid hcell
 clear ha hb hcell
 go_enter Tryz.func140, Tryz.ntmps140
 go_wp2
 go_loopw [5] (fun i wr => ∃ k : Nat, k ≤ n ∧ i = .int .i64 ((k : Int) - 1) ∧ (∀ j, k ≤ j → j < n → dgt b16 a j = dgt b16 b j) ∧ ∃ m, wr = w.drewN m) (fun i _ => (intOf i + 1).toNat)
 case atStart => exact ⟨n, Nat.le_refl _, rfl, fun j h1 h2 => absurd h2 (by omega), 0, rfl⟩
 case round =>
  obtain ⟨k, hk, rfl, he, m, rfl⟩ := hrel
  have HE := Lib.hid he
  clear he
  rcases Nat.eq_zero_or_pos k with rfl | hk0
  ·
   go_wp2
   go_ret
   exact ⟨ret_bool (decide_eq_false (show ¬ a < b from fun hh => by have := eq_of_dgt LA.out LB.out fun j hj => HE.out j (by omega) hj; omega)).symm, m, rfl⟩
  ·
   obtain ⟨p, q, p', q', rfl, rfl, h1, h2⟩ := HC.out (k - 1) (by omega)
   have ek : ((k : Int) - 1).toNat = k - 1 := by omega
   rcases Nat.lt_trichotomy (dgt b16 a (k - 1)) (dgt b16 b (k - 1)) with hlt | heq | hgt
   ·
    have t1 : (((dgt b16 a (k - 1) : Nat) : Int) != ((dgt b16 b (k - 1) : Nat) : Int)) = true := by simp; omega
    have t2 : ((dgt b16 a (k - 1) : Nat) : Int) < ((dgt b16 b (k - 1) : Nat) : Int) := by omega
    have t3 := Lib.hid (decide_eq_true (lt_of_dgt b16_two LA.out LB.out (by omega) (fun j h1 h2 => HE.out j (by omega) h2) hlt))
    go_wp2
    go_quiet (fail)
    go_wp2
    go_quiet (fail)
    go_wp2
    go_ret
    first | exact ⟨ret_bool t3.out.symm, _, by rw [World.drewN_drewN, World.drewN_drewN]⟩ | exact ⟨ret_bool (by rw [t3.out]; first | exact decide_eq_false (by omega) | exact decide_eq_true (by omega)), _, by rw [World.drewN_drewN, World.drewN_drewN]⟩
   ·
    have t1 : (((dgt b16 a (k - 1) : Nat) : Int) != ((dgt b16 b (k - 1) : Nat) : Int)) = false := by simp; omega
    go_wp2
    go_quiet (fail)
    go_wp2
    go_roundw
    case rel =>
     refine ⟨k - 1, by omega, by go_num, fun j h1 h2 => ?_, _, rfl⟩
     by_cases e : j = k - 1
     · rw [e]; exact heq
     · exact HE.out j (by omega) h2
    case measure => simp [intOf]; omega
   ·
    have t1 : (((dgt b16 a (k - 1) : Nat) : Int) != ((dgt b16 b (k - 1) : Nat) : Int)) = true := by simp; omega
    have t2 : ¬ ((dgt b16 a (k - 1) : Nat) : Int) < ((dgt b16 b (k - 1) : Nat) : Int) := by omega
    have t3 := Lib.hid (decide_eq_false (Nat.lt_asymm (lt_of_dgt b16_two LB.out LA.out (by omega) (fun j h1 h2 => (HE.out j (by omega) h2).symm) hgt)))
    go_wp2
    go_quiet (fail)
    go_wp2
    go_quiet (fail)
    go_wp2
    go_ret
    first | exact ⟨ret_bool t3.out.symm, _, by rw [World.drewN_drewN, World.drewN_drewN]⟩ | exact ⟨ret_bool (by rw [t3.out]; first | exact decide_eq_false (by omega) | exact decide_eq_true (by omega)), _, by rw [World.drewN_drewN, World.drewN_drewN]⟩
theorem rless_any (A B : Option Addr) (c d a b : Nat) (w : World) (ha : Num16 w A a) (hb : Num16 w B b) (la : ln b16 a ≤ 100000000) :
  Calls Tryz.prog 140 #[.slice A (ln b16 a) c, .slice B (ln b16 b) d] w (LessPost a b w) := by
 by_cases h : ln b16 a = ln b16 b
 ·
  unfold Num16 at ha hb
  have h1 := lt_pow_ln b16_two a
  have h2 := lt_pow_ln b16_two b
  rw [← h] at hb h2 ⊢
  exact rless_same A B _ c d a b w ha hb la h1 h2
 ·
  refine (rless_len A B _ _ c d w h).mono fun e w' ⟨he, hw⟩ => ⟨?_, 0, hw.symm⟩
  rw [he]
  rcases Nat.lt_or_gt_of_ne h with h1 | h1
  ·
   have : a < b := Nat.lt_of_not_le fun hle => by have := ln_mono b16_two hle; omega
   rw [decide_eq_true h1, decide_eq_true this]
  ·
   have : b < a := Nat.lt_of_not_le fun hle => by have := ln_mono b16_two hle; omega
   rw [decide_eq_false (show ¬ ln b16 a < ln b16 b by omega), decide_eq_false (show ¬ a < b by omega)]
end Go.Proofs.YtjgihmmeimfheaaGreat
namespace Go.Proofs.YtjgihmmeimfheaaGreat
open Go.RowKit

/-- The carry into digit k of a sum. -/
def cr (x y k : Nat) : Nat := (x % b16 ^ k + y % b16 ^ k) / b16 ^ k
theorem cr_zero (x y : Nat) : cr x y 0 = 0 := by simp [cr, Nat.mod_one]
theorem cr_le (x y k : Nat) : cr x y k ≤ 1 := by
 have hp : 0 < b16 ^ k := Nat.pow_pos (by decide)
 have h1 := Nat.mod_lt x hp
 have h2 := Nat.mod_lt y hp
 have : cr x y k < 2 := (Nat.div_lt_iff_lt_mul hp).2 (by omega)
 omega
theorem cr_step (x y k : Nat) : cr x y (k + 1) = (cr x y k + dgt b16 x k + dgt b16 y k) / 65536 ∧ dgt b16 (x + y) k = (cr x y k + dgt b16 x k + dgt b16 y k) % 65536 := by
 have hp : 0 < b16 ^ k := Nat.pow_pos (by decide)
 have e1 := Nat.div_add_mod x (b16 ^ k)
 have e2 := Nat.div_add_mod y (b16 ^ k)
 constructor
 ·
  unfold cr dgt
  rw [Nat.pow_succ, Nat.mod_mul, Nat.mod_mul, ← Nat.div_div_eq_div_mul]
  rw [show x % b16 ^ k + b16 ^ k * (x / b16 ^ k % b16) + (y % b16 ^ k + b16 ^ k * (y / b16 ^ k % b16)) = (x % b16 ^ k + y % b16 ^ k) + b16 ^ k * (x / b16 ^ k % b16 + y / b16 ^ k % b16) by rw [Nat.mul_add]; omega]
  rw [Nat.add_mul_div_left _ _ hp, ← Nat.add_assoc]
  rfl
 ·
  unfold cr dgt
  have h3 : (x + y) / b16 ^ k = (x % b16 ^ k + y % b16 ^ k) / b16 ^ k + (x / b16 ^ k + y / b16 ^ k) := by
   conv => lhs; rw [← e1, ← e2]
   rw [show b16 ^ k * (x / b16 ^ k) + x % b16 ^ k + (b16 ^ k * (y / b16 ^ k) + y % b16 ^ k) = (x % b16 ^ k + y % b16 ^ k) + b16 ^ k * (x / b16 ^ k + y / b16 ^ k) by rw [Nat.mul_add]; omega]
   rw [Nat.add_mul_div_left _ _ hp]
  rw [h3]
  show ((x % b16 ^ k + y % b16 ^ k) / b16 ^ k + (x / b16 ^ k + y / b16 ^ k)) % 65536 = ((x % b16 ^ k + y % b16 ^ k) / b16 ^ k + x / b16 ^ k % 65536 + y / b16 ^ k % 65536) % 65536
  omega
theorem ln_over {x k : Nat} (h : b16 ^ k ≤ x) : k < ln b16 x := by
 rcases Nat.lt_or_ge k (ln b16 x) with h1 | h1
 · exact h1
 · have := (ln_le b16_two).1 h1; omega
theorem plus_more {x y k : Nat} (h : k < ln b16 x ∨ k < ln b16 y ∨ 0 < cr x y k) : k < ln b16 (x + y) := by
 rcases h with h | h | h
 · exact Nat.lt_of_lt_of_le h (ln_mono b16_two (by omega))
 · exact Nat.lt_of_lt_of_le h (ln_mono b16_two (by omega))
 ·
  refine ln_over ?_
  have h1 : b16 ^ k ≤ x % b16 ^ k + y % b16 ^ k := (Nat.div_pos_iff.1 h).2
  have h2 := Nat.mod_le x (b16 ^ k)
  have h3 := Nat.mod_le y (b16 ^ k)
  omega
theorem plus_end {x y k : Nat} (h1 : ln b16 x ≤ k) (h2 : ln b16 y ≤ k) (h3 : cr x y k = 0) : ln b16 (x + y) ≤ k := by
 have hp : 0 < b16 ^ k := Nat.pow_pos (by decide)
 have e1 := (ln_le b16_two).1 h1
 have e2 := (ln_le b16_two).1 h2
 refine (ln_le b16_two).2 ?_
 unfold cr at h3
 rw [Nat.mod_eq_of_lt e1, Nat.mod_eq_of_lt e2] at h3
 have := Nat.lt_of_div_eq_zero hp h3
 omega
theorem dgt_over {x k : Nat} (h : ln b16 x ≤ k) : dgt b16 x k = 0 := dgt_of_lt ((ln_le b16_two).1 h)

set_option linter.unusedSimpArgs false in
set_option maxRecDepth 100000 in
set_option maxHeartbeats 2000000 in
theorem rplus_any (A B : Option Addr) (c d x y : Nat) (w : World) (hA : Num16 w A x) (hB : Num16 w B y) (la : ln b16 x ≤ 1000000) (lb : ln b16 y ≤ 1000000) :
  Calls Tryz.prog 133 #[.slice A (ln b16 x) c, .slice B (ln b16 y) d] w fun e w' => ∃ A' c', e = .returned (.slice A' (ln b16 (x + y)) c') ∧ Own16 w.heap.size w' A' (ln b16 (x + y)) c' (dgt b16 (x + y)) ∧ Below w.heap.size w w' := by
 have HA := Lib.hid hA
 have HB := Lib.hid hB
 have hls : ln b16 (x + y) ≤ 1000001 := ln_add b16_two la lb
 clear hA hB
 obtain ⟨i0, hi, hz0, hz1, hz2⟩ := info_parts info_u16
 go_enter Tryz.func133, Tryz.ntmps133
 go_wp2_with fail
 go_loopw [5, 6, 7] (fun v u i wr => ∃ k, i = .int .i64 ((k : Nat) : Int) ∧ u = .int .i64 ((cr x y k : Nat) : Int) ∧ k ≤ ln b16 (x + y) ∧ Hid (lenV v = k) ∧ wr.ownsRow w.heap.size 59 1 v k (nums .u16 k (dgt b16 (x + y))) ∧ Below w.heap.size w wr) (fun v _ _ _ => ln b16 (x + y) - lenV v)
 case atStart => exact ⟨0, rfl, by rw [cr_zero]; rfl, Nat.zero_le _, Lib.hid rfl, World.ownsRow_nil .., Below.refl _ _⟩
 case round =>
  obtain ⟨k, rfl, rfl, hk, hlv, hown, hbl⟩ := hrel
  have hcr := cr_le x y k
  by_cases hc : k < ln b16 x ∨ k < ln b16 y ∨ 0 < cr x y k
  ·
   have hk9 := plus_more hc
   have hcs := cr_step x y k
   have HC := Lib.hid hcs
   have HK := Lib.hid hk9
   obtain ⟨q, hq⟩ : ∃ q, q = cr x y k := ⟨_, rfl⟩
   rw [← hq] at hc hcr ⊢
   have HQ := Lib.hid hq
   have hdx := dgt16_lt x k
   have hdy := dgt16_lt y k
   clear hcs hk9 hq
   go_upto_region 4 with (fail)
   go_cut [21] from 8 to 21 (fun v wx => v = .bool true ∧ wx = wr)
   case first =>
    rcases Nat.lt_or_ge k (ln b16 x) with h1 | h1
    ·
     have t1 : decide ((k : Int) < ((ln b16 x : Nat) : Int)) = true := decide_eq_true (by omega)
     go_wp2_with fail
     go_meet
     exact ⟨rfl, rfl⟩
    ·
     have t1 : decide ((k : Int) < ((ln b16 x : Nat) : Int)) = false := decide_eq_false (by omega)
     rcases Nat.lt_or_ge k (ln b16 y) with h2 | h2
     ·
      have t2 : decide ((k : Int) < ((ln b16 y : Nat) : Int)) = true := decide_eq_true (by omega)
      go_wp2_with fail
      go_meet
      exact ⟨rfl, rfl⟩
     ·
      have t2 : decide ((k : Int) < ((ln b16 y : Nat) : Int)) = false := decide_eq_false (by omega)
      have t3 : 0 < q := by omega
      go_wp2_with fail
      go_meet
      exact ⟨rfl, rfl⟩
   case rest =>
   obtain ⟨rfl, rfl⟩ := hcut
   go_upto_if 27 with (fail)
   go_cut [6] from 27 to 34 (fun v wx => v = .int .i64 ((q + dgt b16 x k : Nat) : Int) ∧ wx = wc)
   case first =>
    rcases Nat.lt_or_ge k (ln b16 x) with h1 | h1
    ·
     obtain ⟨p, o, rfl, hp, hca⟩ := (Num16.below HA.out hbl) (by omega)
     have c1 := hca k h1
     have t1 : decide ((k : Int) < ((ln b16 x : Nat) : Int)) = true := decide_eq_true (by omega)
     have t2 : (k : Int) < ((ln b16 x : Nat) : Int) := by omega
     have o1 : IntKind.i64.wrap ((dgt b16 x k : Nat) : Int) = ((dgt b16 x k : Nat) : Int) := by rw [IntKind.wrap_i64]; omega
     clear hca
     go_wp2_with fail
     go_meet
     exact ⟨by first | rfl | (congr 1; omega), rfl⟩
    ·
     have t1 : decide ((k : Int) < ((ln b16 x : Nat) : Int)) = false := decide_eq_false (by omega)
     have HZ := Lib.hid (dgt_over h1)
     go_wp2_with fail
     go_meet
     exact ⟨by rw [HZ.out]; first | rfl | (congr 1; omega), rfl⟩
   case rest =>
   obtain ⟨rfl, rfl⟩ := hcut
   obtain ⟨q2, hq2⟩ : ∃ q2, q2 = q + dgt b16 x k := ⟨_, rfl⟩
   rw [← hq2]
   have hq2l : q2 ≤ 65536 := by omega
   have HQ2 := Lib.hid hq2
   clear hq2
   go_upto_if 38 with (fail)
   go_cut [6] from 38 to 45 (fun v wx => v = .int .i64 ((q2 + dgt b16 y k : Nat) : Int) ∧ wx = wc)
   case first =>
    rcases Nat.lt_or_ge k (ln b16 y) with h1 | h1
    ·
     obtain ⟨p, o, rfl, hp, hca⟩ := (Num16.below HB.out hbl) (by omega)
     have c1 := hca k h1
     have t1 : decide ((k : Int) < ((ln b16 y : Nat) : Int)) = true := decide_eq_true (by omega)
     have t2 : (k : Int) < ((ln b16 y : Nat) : Int) := by omega
     have o1 : IntKind.i64.wrap ((dgt b16 y k : Nat) : Int) = ((dgt b16 y k : Nat) : Int) := by rw [IntKind.wrap_i64]; omega
     clear hca
     go_wp2_with fail
     go_meet
     exact ⟨by first | rfl | (congr 1; omega), rfl⟩
    ·
     have t1 : decide ((k : Int) < ((ln b16 y : Nat) : Int)) = false := decide_eq_false (by omega)
     have HZ := Lib.hid (dgt_over h1)
     go_wp2_with fail
     go_meet
     exact ⟨by rw [HZ.out]; first | rfl | (congr 1; omega), rfl⟩
   case rest =>
   obtain ⟨rfl, rfl⟩ := hcut
   obtain ⟨T, hT⟩ : ∃ T, T = q2 + dgt b16 y k := ⟨_, rfl⟩
   rw [← hT]
   have hTl : T ≤ 131072 := by omega
   have e1 : cr x y (k + 1) = T / 65536 := by rw [HC.out.1, ← HQ.out, ← HQ2.out, ← hT]
   have e2 : dgt b16 (x + y) k = T % 65536 := by rw [HC.out.2, ← HQ.out, ← HQ2.out, ← hT]
   clear hT hdx hdy
   have t5 : (T : Int).tmod 65536 = ((dgt b16 (x + y) k : Nat) : Int) := by rw [Int.tmod_eq_emod_of_nonneg (by omega), e2]; omega
   have t6 : (T : Int).tdiv 65536 = ((cr x y (k + 1) : Nat) : Int) := by rw [Int.tdiv_eq_ediv_of_nonneg (by omega), e1]; omega
   have hdl := dgt16_lt (x + y) k
   have hcl := cr_le x y (k + 1)
   clear e1 e2
   have o3 : IntKind.u16.wrap ((dgt b16 (x + y) k : Nat) : Int) = ((dgt b16 (x + y) k : Nat) : Int) := by rw [IntKind.wrap_u16]; omega
   have hsz := hbl.size
   go_wp2_with (at_builtin; refine wpList_append_own _ rfl _ _ 25 rfl w.heap.size 59 i0 (.int .u16 0) 1 2 Tryz.underlying25 hi hz0 hz1 hz2 rfl (by decide) _ _ _ rfl (hown.alloc _) ⟨wc.heap.size, 0, none⟩ 1 1 [.int .u16 ((dgt b16 (x + y) k : Nat) : Int)] rfl rfl (cell_one_new _ _ _) (by simp [Value.oneCell']) (by unfold maxLen; omega) (by omega) (by simp; omega) ?_; intro v' w5 hown5 hgrow _; obtain ⟨g', cap', rfl⟩ := ownsRow_succ hown5)
   go_roundw
   case rel =>
    rw [nums_succ] at hown5
    exact ⟨k + 1, rfl, rfl, HK.out, Lib.hid rfl, hown5, (hbl.alloc hsz (.cells #[.int .u16 ((dgt b16 (x + y) k : Nat) : Int)] 59)).grown hgrow (by simp; omega) (fun g hg => (hown.lt g hg).1)⟩
   case measure =>
    have := HK.out
    show ln b16 (x + y) - (k + 1) < ln b16 (x + y) - lenV u5
    rw [hlv.out]
    omega
  ·
   have h1 : ln b16 x ≤ k := by omega
   have h2 : ln b16 y ≤ k := by omega
   have h3 : cr x y k = 0 := by omega
   have hkk : k = ln b16 (x + y) := by have := plus_end h1 h2 h3; omega
   have t1 : decide ((k : Int) < ((ln b16 x : Nat) : Int)) = false := decide_eq_false (by omega)
   have t2 : decide ((k : Int) < ((ln b16 y : Nat) : Int)) = false := decide_eq_false (by omega)
   rw [h3]
   obtain ⟨A', c', rfl⟩ := own_slice16 hown
   have HK := Lib.hid hkk
   clear hkk h3 hc
   go_wp2_with fail
   go_ret
   refine ⟨A', c', ret_slice HK.out, ?_, hbl⟩
   rw [← HK.out]
   exact hown
end Go.Proofs.YtjgihmmeimfheaaGreat
