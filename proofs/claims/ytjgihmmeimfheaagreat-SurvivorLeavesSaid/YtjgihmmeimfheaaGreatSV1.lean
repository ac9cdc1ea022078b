/-
  Claims in memory; the walks of survivor.Valid and zero.
-/
import Derived.Test.YtjgihmmeimfheaaGreatK3
import Derived.Test.YtjgihmmeimfheaaGreatK18
import Derived.Test.YtjgihmmeimfheaaGreatSVL
namespace Go.Proofs.YtjgihmmeimfheaaGreat
open Go.RowKit

/-- A claim as it lies in memory. -/
structure Cl where
 I : Int
 w : FH
 K : Int
def Cl.cells (x : Cl) (W : World) (b o : Nat) : Prop := W.cell? ⟨b, o, none⟩ = some (.int .i64 x.I) ∧ W.cell? ⟨b, o + 1, none⟩ = some (.bool x.w.s) ∧ W.cell? ⟨b, o + 2, none⟩ = some (.slice x.w.A x.w.n x.w.c) ∧ W.cell? ⟨b, o + 3, none⟩ = some (.bool x.w.t) ∧ W.cell? ⟨b, o + 4, none⟩ = some (.slice x.w.B x.w.m x.w.d) ∧ W.cell? ⟨b, o + 5, none⟩ = some (.int .i64 x.K)
/-- A list of claims in memory. -/
def ClM (A : Option Addr) (n : Nat) (r : Nat → Cl) (W : World) : Prop := 0 < n → ∃ b o, A = some ⟨b, o, none⟩ ∧ b < W.heap.size ∧ ∀ k, k < n → (r k).cells W b (o + k * 6) ∧ (r k).w.rd W
theorem ClM.stable (A : Option Addr) (n : Nat) (r : Nat → Cl) : Stable (ClM A n r) := fun _ _ hb h h0 => by
 obtain ⟨b, o, e, hlt, hc⟩ := h h0
 refine ⟨b, o, e, Nat.lt_of_lt_of_le hlt hb.size, fun k hk => ?_⟩
 obtain ⟨⟨c0, c1, c2, c3, c4, c5⟩, hr⟩ := hc k hk
 exact ⟨⟨(hb.cell (p := ⟨b, _, none⟩) hlt).trans c0, (hb.cell (p := ⟨b, _, none⟩) hlt).trans c1, (hb.cell (p := ⟨b, _, none⟩) hlt).trans c2, (hb.cell (p := ⟨b, _, none⟩) hlt).trans c3, (hb.cell (p := ⟨b, _, none⟩) hlt).trans c4, (hb.cell (p := ⟨b, _, none⟩) hlt).trans c5⟩, FRd.below hr hb⟩
theorem ClM.below {A : Option Addr} {n : Nat} {r : Nat → Cl} {w w' : World} (h : ClM A n r w) (hb : Below w.heap.size w w') : ClM A n r w' := ClM.stable _ _ _ _ _ hb h
theorem Env.clm {w W : World} {P : World → Prop} {A : Option Addr} {n : Nat} {r : Nat → Cl} (hE : Env w P W) (h : ClM A n r W) : Env w (fun V => P V ∧ ClM A n r V) W := hE.and (ClM.stable _ _ _) h
/-- What Valid says of a claim, and of a list. -/
def Cl.ok (x : Cl) : Prop := (okF x.w.s x.w.n x.w.f x.w.t x.w.m x.w.g = true ∧ x.w.s = false) ∧ (x.w.n ≤ 4 ∧ x.w.m ≤ 4) ∧ 0 ≤ x.K ∧ x.K ≤ 1099511627776
def ClOK (n : Nat) (r : Nat → Cl) : Prop := n ≤ 32 ∧ ∀ k, k < n → (∀ j, k = j + 1 → (r j).I < (r k).I) ∧ (r k).ok
theorem ftvalid_long (s t : Bool) (A B : Option Addr) (n m c d : Nat) (w : World) (hl : (decide (256 < n) || decide (256 < m)) = true) :
  Calls Tryz.prog 67 #[.agg #[.bool s, .slice A n c, .bool t, .slice B m d]] w fun e w' => e = .returned (.bool false) ∧ Below w.heap.size w w' := by
 have hE := (Env.start w).blk 85 #[.bool s, .slice A n c, .bool t, .slice B m d] (g := w.heap.size) rfl
 obtain ⟨W0, hW0⟩ : ∃ W0, W0 = w.alloc (.cells #[.bool s, .slice A n c, .bool t, .slice B m d] 85) := ⟨_, rfl⟩
 rw [← hW0] at hE
 have HW0 := Lib.hid hW0
 have HL := Lib.hid hl
 clear hW0 hl
 go_enter Tryz.func67, Tryz.ntmps67
 go_upto_region 1 with (fail)
 rw [← HW0.out]
 obtain ⟨k1, k2, k3, k4⟩ := hE.here.2.c4
 go_wp2_with fail
 refine (flong_r s t A B n m c d _ _ HL.out).mono ?_
 rintro e w1 ⟨rfl, hb⟩
 clear k1 k2 k3 k4
 go_wp2_with fail
 go_ret
 exact ⟨rfl, (hE.step hb).bel⟩
set_option maxRecDepth 100000 in
/-- frac.Valid at any fraction, however long. -/
theorem fvalid_all (s t : Bool) (A B : Option Addr) (n m c d : Nat) (f g : Nat → Nat) (w : World) (hr : FRd w A n f B m g) (r : Bool) (h : okF s n f t m g = r) :
  Calls Tryz.prog 32 #[.agg #[.bool s, .slice A n c, .bool t, .slice B m d]] w fun e w' => e = .returned (.bool r) ∧ Below w.heap.size w w' := by
 by_cases hl : (decide (256 < n) || decide (256 < m)) = true
 ·
  obtain rfl : r = false := by rw [← h]; unfold okF; rw [hl]; rfl
  have hbl : Below w.heap.size w (w.alloc (.cells #[.bool s, .slice A n c, .bool t, .slice B m d] 29)) := (Below.refl _ _).alloc (Nat.le_refl _) _
  have HL := Lib.hid hl
  clear h hr hl
  go_enter Tryz.func32, Tryz.ntmps32
  go_wp2_with fail
  refine (ftvalid_long s t A B n m c d _ HL.out).mono ?_
  rintro e w1 ⟨rfl, hb⟩
  go_wp2_with fail
  go_ret
  exact ⟨rfl, hbl.trans (hb.mono hbl.size)⟩
 ·
  have h2 : n ≤ 256 ∧ m ≤ 256 := by
   simp only [Bool.or_eq_true, decide_eq_true_eq, not_or] at hl
   omega
  exact fvalid_r s t A B n m c d f g w hr (by omega) (by omega) r h
set_option linter.unusedSimpArgs false in
set_option maxRecDepth 100000 in
set_option maxHeartbeats 4000000 in
theorem svalid_any (A : Option Addr) (n c : Nat) (r : Nat → Cl) (w : World) (hM : ClM A n r w) :
  Calls Tryz.prog 25 #[.slice A n c] w (BoolIff (ClOK n r) w) := by
 have hE := (Env.start w).clm hM
 clear hM
 go_enter Tryz.func25, Tryz.ntmps25
 by_cases hn : n ≤ 32
 rotate_left
 ·
  have t1 : decide ((32 : Int) < (n : Int)) = true := decide_eq_true (by omega)
  have HN := Lib.hid hn
  clear hn
  go_wp2_with fail
  go_ret
  exact ⟨false, rfl, no_iff (fun h => HN.out h.1), hE.bel⟩
 have t1 : decide ((32 : Int) < (n : Int)) = false := decide_eq_false (by omega)
 go_wp2_with fail
 clear t1
 go_loopw [10] (fun x wr => ∃ k : Nat, k ≤ n ∧ x = .int .i64 (k : Int) ∧ Hid (∀ j, j < k → (∀ i, j = i + 1 → (r i).I < (r j).I) ∧ (r j).ok) ∧ Env w (fun V => True ∧ ClM A n r V) wr) (fun x _ => n - (intOf x).toNat)
 case atStart => exact ⟨0, Nat.zero_le _, rfl, Lib.hid (fun j hj => absurd hj (Nat.not_lt_zero j)), hE⟩
 case round =>
  clear hE
  obtain ⟨k, hk, rfl, HK, hE⟩ := hrel
  by_cases hlt : k < n
  rotate_left
  ·
   obtain rfl : k = n := by omega
   have t1 : decide ((k : Int) < (k : Int)) = false := decide_eq_false (by omega)
   go_wp2_with fail
   go_ret
   exact ⟨true, rfl, yes_iff ⟨hn, HK.out⟩, hE.bel⟩
  obtain ⟨b, o, rfl, hb, hc⟩ := hE.here.2 (by omega)
  obtain ⟨x, hx⟩ : ∃ x, x = r k := ⟨_, rfl⟩
  obtain ⟨⟨d0, d1, d2, d3, d4, d5⟩, hrd⟩ := hc k hlt
  rw [← hx] at d0 d1 d2 d3 d4 d5 hrd
  have t1 : decide ((k : Int) < (n : Int)) = true := decide_eq_true (by omega)
  have t2 : (k : Int) < (n : Int) := by omega
  have hEf := hE.frd hrd
  have HX := Lib.hid hx
  clear hx hrd
  by_cases h0 : k = 0
  ·
   have HID : Hid (∀ i, k = i + 1 → (r i).I < (r k).I) := Lib.hid (fun i hi => by omega)
   have u0 : decide (0 < k) = false := decide_eq_false (by omega)
   have hE := hEf
   clear hEf hc h0
   go_upto_region 6 with (fail)
   clear d0 d1 d2 d3 d4 d5 t1
   obtain ⟨g1, hg1⟩ : ∃ g1, g1 = wr.heap.size := ⟨_, rfl⟩
   replace hE := hE.blk 46 #[.int .i64 x.I, .bool x.w.s, .slice x.w.A x.w.n x.w.c, .bool x.w.t, .slice x.w.B x.w.m x.w.d, .int .i64 x.K] (g := g1) hg1.symm
   generalize wr.alloc (.cells #[.int .i64 x.I, .bool x.w.s, .slice x.w.A x.w.n x.w.c, .bool x.w.t, .slice x.w.B x.w.m x.w.d, .int .i64 x.K] 46) = W1 at hE ⊢
   rw [← hg1]
   clear hg1
   replace hE := hE.drew
   refine wp_region_held_drew (S := fun w' => True) (by kernel_rfl) (trivial) (fun hHeld => ?_)
   generalize W1.drew = wd at *
   refine tk 0 ?_
   try simp only [PL]
   refine tk 1 ?_
   try simp only [PL]
   refine tk 2 ?_
   try simp only [PL]
   refine tu 3 ?_
   try simp only [PL]
   refine tu 4 ?_
   try simp only [PL]
   refine tu 5 ?_
   try simp only [PL]
   refine tu 6 ?_
   try simp only [PL]
   refine tu 7 ?_
   try simp only [PL]
   refine tu 8 ?_
   try simp only [PL]
   refine tu 9 ?_
   try simp only [PL]
   refine tu 10 ?_
   try simp only [PL]
   refine tu 11 ?_
   try simp only [PL]
   refine tk 12 ?_
   try simp only [PL]
   refine wpAnyH_done (by kernel_rfl) ?_ _
   have k2 := (hE.here.2).cell 0
   have k3 := (hE.here.2).cell 1
   have k4 := (hE.here.2).cell 2
   have k5 := (hE.here.2).cell 3
   have k6 := (hE.here.2).cell 4
   have k7 := (hE.here.2).cell 5
   obtain ⟨v, hv⟩ : ∃ v, okF x.w.s x.w.n x.w.f x.w.t x.w.m x.w.g = v := ⟨_, rfl⟩
   have HV := Lib.hid hv
   clear hv
   go_wp2_with fail
   refine hE.br (fvalid_all x.w.s x.w.t x.w.A x.w.B x.w.n x.w.m x.w.c x.w.d x.w.f x.w.g _ (hE.here.1.2) v HV.out) ?_
   clear hE k2 k3 k4 k5 k6 k7
   intro w8 hE
   have k9 := (hE.here.2).cell 0
   have k10 := (hE.here.2).cell 1
   have k11 := (hE.here.2).cell 2
   have k12 := (hE.here.2).cell 3
   have k13 := (hE.here.2).cell 4
   have k14 := (hE.here.2).cell 5
   cases v with
   | false =>
    go_wp2_with fail
    go_ret
    exact ⟨false, rfl, no_iff (fun h => by have := (h.2 k hlt).2.1.1; rw [← HX.out, HV.out] at this; cases this), hE.bel⟩
   | true =>
    obtain ⟨sg, hsg⟩ : ∃ sg, x.w.s = sg := ⟨_, rfl⟩
    rw [hsg] at k10
    have HSG := Lib.hid hsg
    clear hsg
    cases sg with
    | true =>
     go_wp2_with fail
     go_ret
     exact ⟨false, rfl, no_iff (fun h => by have := (h.2 k hlt).2.1.2; rw [← HX.out, HSG.out] at this; cases this), hE.bel⟩
    | false =>
     by_cases c1 : x.w.n ≤ 4
     rotate_left
     ·
      have u1 : decide ((4 : Int) < (x.w.n : Int)) = true := decide_eq_true (by omega)
      go_wp2_with fail
      go_ret
      exact ⟨false, rfl, no_iff (fun h => by have := (h.2 k hlt).2.2.1.1; rw [← HX.out] at this; omega), hE.bel⟩
     have u1 : decide ((4 : Int) < (x.w.n : Int)) = false := decide_eq_false (by omega)
     by_cases c2 : x.w.m ≤ 4
     rotate_left
     ·
      have u2 : decide ((4 : Int) < (x.w.m : Int)) = true := decide_eq_true (by omega)
      go_wp2_with fail
      go_ret
      exact ⟨false, rfl, no_iff (fun h => by have := (h.2 k hlt).2.2.1.2; rw [← HX.out] at this; omega), hE.bel⟩
     have u2 : decide ((4 : Int) < (x.w.m : Int)) = false := decide_eq_false (by omega)
     by_cases c3 : 0 ≤ x.K
     rotate_left
     ·
      have u3 : decide (x.K < 0) = true := decide_eq_true (by omega)
      go_wp2_with fail
      go_ret
      exact ⟨false, rfl, no_iff (fun h => by have := (h.2 k hlt).2.2.2.1; rw [← HX.out] at this; omega), hE.bel⟩
     have u3 : decide (x.K < 0) = false := decide_eq_false (by omega)
     by_cases c4 : x.K ≤ 1099511627776
     rotate_left
     ·
      have u4 : decide ((1099511627776 : Int) < x.K) = true := decide_eq_true (by omega)
      go_wp2_with fail
      go_ret
      exact ⟨false, rfl, no_iff (fun h => by have := (h.2 k hlt).2.2.2.2; rw [← HX.out] at this; omega), hE.bel⟩
     have u4 : decide ((1099511627776 : Int) < x.K) = false := decide_eq_false (by omega)
     go_wp2_with fail
     clear k9 k10 k11 k12 k13 k14
     go_roundw
     case rel =>
      refine ⟨k + 1, by omega, by go_num, Lib.hid (fun i hi => ?_), (Env.again hE.bel).clm (hE.h2)⟩
      by_cases e : i = k
      ·
       subst e
       refine ⟨HID.out, ?_⟩
       rw [← HX.out]
       exact ⟨⟨HV.out, HSG.out⟩, ⟨c1, c2⟩, c3, c4⟩
      · exact HK.out i (by omega)
     case measure => simp [intOf]; omega
  obtain ⟨j, hj⟩ : ∃ j, k = j + 1 := ⟨k - 1, by omega⟩
  obtain ⟨y, hy⟩ : ∃ y, y = r j := ⟨_, rfl⟩
  have hcy := (hc j (by omega)).1.1
  rw [← hy] at hcy
  have u0 : decide (0 < k) = true := decide_eq_true (by omega)
  have o1 : IntKind.i64.wrap ((k : Int) - 1) = (j : Int) := by rw [IntKind.wrap_i64]; omega
  have i1 : (j : Int) < (n : Int) := by omega
  have hE := hEf.atI (⟨hb, hcy⟩ : At b (o + j * 6) (.int .i64 y.I) wr)
  have Hhj := Lib.hid hj
  clear hj
  have Hhy := Lib.hid hy
  clear hy
  clear hEf hc h0 hcy
  go_upto_region 6 with (fail)
  clear d0 d1 d2 d3 d4 d5 t1
  obtain ⟨g15, hg15⟩ : ∃ g15, g15 = wr.heap.size := ⟨_, rfl⟩
  replace hE := hE.blk 46 #[.int .i64 x.I, .bool x.w.s, .slice x.w.A x.w.n x.w.c, .bool x.w.t, .slice x.w.B x.w.m x.w.d, .int .i64 x.K] (g := g15) hg15.symm
  generalize wr.alloc (.cells #[.int .i64 x.I, .bool x.w.s, .slice x.w.A x.w.n x.w.c, .bool x.w.t, .slice x.w.B x.w.m x.w.d, .int .i64 x.K] 46) = W15 at hE ⊢
  rw [← hg15]
  clear hg15
  by_cases c0 : y.I < x.I
  rotate_left
  ·
   have u9 : decide (x.I ≤ y.I) = true := decide_eq_true (by omega)
   replace hE := hE.drew
   refine wp_region_held_drew (S := fun V => Blk 46 (g15) #[.int .i64 x.I, .bool x.w.s, .slice x.w.A x.w.n x.w.c, .bool x.w.t, .slice x.w.B x.w.m x.w.d, .int .i64 x.K] V ∧ At b (o + j * 6) (.int .i64 y.I) V) (by kernel_rfl) (⟨hE.here.2, hE.here.1.2⟩) (fun hHeld => ?_)
   generalize W15.drew = wd at *
   refine tk 0 ?_
   try simp only [PL]
   refine tk 1 ?_
   try simp only [PL]
   refine tk 2 ?_
   try simp only [PL]
   refine tk 3 ?_
   try simp only [PL]
   refine tk 4 ?_
   try simp only [PL]
   refine tk 5 ?_
   try simp only [PL]
   refine tk 6 ?_
   try simp only [PL]
   refine tk 7 ?_
   try simp only [PL]
   refine wpAnyH_take (i := 8) (v := ?v2_8_9) rfl (by kernel_rfl) (by kernel_rfl) (by kernel_rfl) (fun _ _ _ h => h) (Or.inl ⟨by rfl, ?hy2_8_9⟩) (by assumption) ?rest2_8_9
   case hy2_8_9 =>
    intro w hSw
    have kc0 := (hSw.2).2
    clear hSw
    first | (go_simp; done) | (go_simp; with_reducible rfl)
   try simp only [PL]
   refine tk 9 ?_
   try simp only [PL]
   refine wpAnyH_take (i := 10) (v := ?v2_10_11) rfl (by kernel_rfl) (by kernel_rfl) (by kernel_rfl) (fun _ _ _ h => h) (Or.inl ⟨by rfl, ?hy2_10_11⟩) (by assumption) ?rest2_10_11
   case hy2_10_11 =>
    intro w hSw
    have kc0 := (hSw.1).cell 0
    clear hSw
    first | (go_simp; done) | (go_simp; with_reducible rfl)
   try simp only [PL]
   refine tk 11 ?_
   try simp only [PL]
   refine tk 12 ?_
   try simp only [PL]
   refine wpAnyH_done (by kernel_rfl) ?_ _
   go_wp2_with fail
   go_ret
   exact ⟨false, rfl, no_iff (fun h => by have := (h.2 k hlt).1 j Hhj.out; rw [← HX.out, ← Hhy.out] at this; omega), hE.bel⟩
  have u9 : decide (x.I ≤ y.I) = false := decide_eq_false (by omega)
  have HID : Hid (∀ i, k = i + 1 → (r i).I < (r k).I) := Lib.hid (fun i hi => by
   have e1 := Hhj.out; obtain rfl : i = j := by omega
   rw [← HX.out, ← Hhy.out]; exact c0)
  replace hE := hE.drew
  refine wp_region_held_drew (S := fun V => Blk 46 (g15) #[.int .i64 x.I, .bool x.w.s, .slice x.w.A x.w.n x.w.c, .bool x.w.t, .slice x.w.B x.w.m x.w.d, .int .i64 x.K] V ∧ At b (o + j * 6) (.int .i64 y.I) V) (by kernel_rfl) (⟨hE.here.2, hE.here.1.2⟩) (fun hHeld => ?_)
  generalize W15.drew = wd at *
  refine tk 0 ?_
  try simp only [PL]
  refine tk 1 ?_
  try simp only [PL]
  refine tk 2 ?_
  try simp only [PL]
  refine tk 3 ?_
  try simp only [PL]
  refine tk 4 ?_
  try simp only [PL]
  refine tk 5 ?_
  try simp only [PL]
  refine tk 6 ?_
  try simp only [PL]
  refine tk 7 ?_
  try simp only [PL]
  refine wpAnyH_take (i := 8) (v := ?v3_8_9) rfl (by kernel_rfl) (by kernel_rfl) (by kernel_rfl) (fun _ _ _ h => h) (Or.inl ⟨by rfl, ?hy3_8_9⟩) (by assumption) ?rest3_8_9
  case hy3_8_9 =>
   intro w hSw
   have kc0 := (hSw.2).2
   clear hSw
   first | (go_simp; done) | (go_simp; with_reducible rfl)
  try simp only [PL]
  refine tk 9 ?_
  try simp only [PL]
  refine wpAnyH_take (i := 10) (v := ?v3_10_11) rfl (by kernel_rfl) (by kernel_rfl) (by kernel_rfl) (fun _ _ _ h => h) (Or.inl ⟨by rfl, ?hy3_10_11⟩) (by assumption) ?rest3_10_11
  case hy3_10_11 =>
   intro w hSw
   have kc0 := (hSw.1).cell 0
   clear hSw
   first | (go_simp; done) | (go_simp; with_reducible rfl)
  try simp only [PL]
  refine tk 11 ?_
  try simp only [PL]
  refine tk 12 ?_
  try simp only [PL]
  refine wpAnyH_done (by kernel_rfl) ?_ _
  have k16 := (hE.here.2).cell 0
  have k17 := (hE.here.2).cell 1
  have k18 := (hE.here.2).cell 2
  have k19 := (hE.here.2).cell 3
  have k20 := (hE.here.2).cell 4
  have k21 := (hE.here.2).cell 5
  obtain ⟨v, hv⟩ : ∃ v, okF x.w.s x.w.n x.w.f x.w.t x.w.m x.w.g = v := ⟨_, rfl⟩
  have HV := Lib.hid hv
  clear hv
  go_wp2_with fail
  refine hE.br (fvalid_all x.w.s x.w.t x.w.A x.w.B x.w.n x.w.m x.w.c x.w.d x.w.f x.w.g _ (hE.h2) v HV.out) ?_
  clear hE k16 k17 k18 k19 k20 k21
  intro w22 hE
  have k23 := (hE.here.2).cell 0
  have k24 := (hE.here.2).cell 1
  have k25 := (hE.here.2).cell 2
  have k26 := (hE.here.2).cell 3
  have k27 := (hE.here.2).cell 4
  have k28 := (hE.here.2).cell 5
  cases v with
  | false =>
   go_wp2_with fail
   go_ret
   exact ⟨false, rfl, no_iff (fun h => by have := (h.2 k hlt).2.1.1; rw [← HX.out, HV.out] at this; cases this), hE.bel⟩
  | true =>
   obtain ⟨sg, hsg⟩ : ∃ sg, x.w.s = sg := ⟨_, rfl⟩
   rw [hsg] at k24
   have HSG := Lib.hid hsg
   clear hsg
   cases sg with
   | true =>
    go_wp2_with fail
    go_ret
    exact ⟨false, rfl, no_iff (fun h => by have := (h.2 k hlt).2.1.2; rw [← HX.out, HSG.out] at this; cases this), hE.bel⟩
   | false =>
    by_cases c1 : x.w.n ≤ 4
    rotate_left
    ·
     have u1 : decide ((4 : Int) < (x.w.n : Int)) = true := decide_eq_true (by omega)
     go_wp2_with fail
     go_ret
     exact ⟨false, rfl, no_iff (fun h => by have := (h.2 k hlt).2.2.1.1; rw [← HX.out] at this; omega), hE.bel⟩
    have u1 : decide ((4 : Int) < (x.w.n : Int)) = false := decide_eq_false (by omega)
    by_cases c2 : x.w.m ≤ 4
    rotate_left
    ·
     have u2 : decide ((4 : Int) < (x.w.m : Int)) = true := decide_eq_true (by omega)
     go_wp2_with fail
     go_ret
     exact ⟨false, rfl, no_iff (fun h => by have := (h.2 k hlt).2.2.1.2; rw [← HX.out] at this; omega), hE.bel⟩
    have u2 : decide ((4 : Int) < (x.w.m : Int)) = false := decide_eq_false (by omega)
    by_cases c3 : 0 ≤ x.K
    rotate_left
    ·
     have u3 : decide (x.K < 0) = true := decide_eq_true (by omega)
     go_wp2_with fail
     go_ret
     exact ⟨false, rfl, no_iff (fun h => by have := (h.2 k hlt).2.2.2.1; rw [← HX.out] at this; omega), hE.bel⟩
    have u3 : decide (x.K < 0) = false := decide_eq_false (by omega)
    by_cases c4 : x.K ≤ 1099511627776
    rotate_left
    ·
     have u4 : decide ((1099511627776 : Int) < x.K) = true := decide_eq_true (by omega)
     go_wp2_with fail
     go_ret
     exact ⟨false, rfl, no_iff (fun h => by have := (h.2 k hlt).2.2.2.2; rw [← HX.out] at this; omega), hE.bel⟩
    have u4 : decide ((1099511627776 : Int) < x.K) = false := decide_eq_false (by omega)
    go_wp2_with fail
    clear k23 k24 k25 k26 k27 k28
    go_roundw
    case rel =>
     refine ⟨k + 1, by omega, by go_num, Lib.hid (fun i hi => ?_), (Env.again hE.bel).clm (hE.h3)⟩
     by_cases e : i = k
     ·
      subst e
      refine ⟨HID.out, ?_⟩
      rw [← HX.out]
      exact ⟨⟨HV.out, HSG.out⟩, ⟨c1, c2⟩, c3, c4⟩
     · exact HK.out i (by omega)
    case measure => simp [intOf]; omega
set_option linter.unusedSimpArgs false in
set_option maxRecDepth 100000 in
set_option maxHeartbeats 4000000 in
theorem szero_v {a : Rat} {sa ta : Bool} {Aa Ba : Option Addr} {na ca ma da : Nat} {w : World} (ha : FV w a sa Aa na ta Ba ma) :
  Calls Tryz.prog 73 #[.agg #[.bool sa, .slice Aa na ca, .bool ta, .slice Ba ma da]] w (BoolIff (a.num = 0) w) := by
 have hn : na = 0 ↔ a.num = 0 := by rw [ha.1.len, ln_eq_zero b16_two]; omega
 have hE := ((Env.start w).fv ha).blk 29 #[.bool sa, .slice Aa na ca, .bool ta, .slice Ba ma da] (g := w.heap.size) rfl
 obtain ⟨W0, hW0⟩ : ∃ W0, W0 = (w.alloc (.cells #[.bool sa, .slice Aa na ca, .bool ta, .slice Ba ma da] 29)) := ⟨_, rfl⟩
 rw [← hW0] at hE
 have HW0 := Lib.hid hW0
 clear hW0
 go_enter Tryz.func73, Tryz.ntmps73
 go_upto_region 1 with (fail)
 rw [← HW0.out]
 obtain ⟨k1, k2, k3, k4⟩ := (hE.here.2).c4
 go_wp2_with fail
 go_ret
 refine ⟨_, rfl, ?_, hE.bel⟩
 rw [← hn]; simp
end Go.Proofs.YtjgihmmeimfheaaGreat
