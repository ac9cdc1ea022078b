/-
  Several texts in one: The walk of life.isRate. Tables of rates in memory; the walk of life.Valid.
-/
import Derived.Test.YtgkepllfdhcdpaaGreatK7
namespace Go.Proofs.YtgkepllfdhcdpaaGreat
open Go.RowKit

/-- The rational number of a valid fraction's limbs. -/
def qOf (s : Bool) (n : Nat) (f : Nat → Nat) (m : Nat) (g : Nat → Nat) : Rat := Rat.divInt (toI s (vs b16 f n)) (vs b16 g m)
/-- A valid fraction is a rational number. -/
theorem okF_q {w : World} {s t : Bool} {A B : Option Addr} {n m : Nat} {f g : Nat → Nat} (hr : FRd w A n f B m g) (h : okF s n f t m g = true) : FV w (qOf s n f m g) s A n t B m ∧ n ≤ 256 ∧ m ≤ 256 ∧ fl (qOf s n f m g) ≤ 256 := by
  unfold qOf
  unfold okF at h
  simp only [Bool.and_eq_true, Bool.not_eq_true', Bool.or_eq_false_iff, decide_eq_false_iff_not, beq_iff_eq] at h
  obtain ⟨⟨h1, h2⟩, h3, h4, h5, h6, h7⟩ := h
  subst h5
  have w1 := okW_wv hr.1 hr.2.2.1 h3
  have w2 := okW_wv hr.2.1 hr.2.2.2 h4
  have hd : 0 < vs b16 g m := by
    have := w2.len
    rw [toI_abs] at this
    exact (ln_pos b16_two).1 (by omega)
  have hm := mk_low (n := toI s (vs b16 f n)) (d := vs b16 g m) hd (by rw [toI_abs]; exact h7)
  refine ⟨⟨by rw [hm.1]; exact w1, by rw [hm.2]; exact w2⟩, by omega, by omega, ?_⟩
  rw [fl_le, hm.1, hm.2]
  have l1 := w1.len
  have l2 := w2.len
  rw [toI_abs] at l1 l2
  rw [toI_abs]
  omega

/-- What life.isRate says. -/
def rateB (s : Bool) (n : Nat) (f : Nat → Nat) (t : Bool) (m : Nat) (g : Nat → Nat) : Bool :=
  okF s n f t m g && (!s && (decide (n ≤ 1) && (decide (m ≤ 1) && decide (cmpQ (qOf s n f m g) 1 ≤ 0))))
theorem fl_one : fl 1 ≤ 256 := by rw [fl_le]; exact ⟨by decide, by decide⟩
set_option linter.unusedSimpArgs false in
set_option maxRecDepth 100000 in
set_option maxHeartbeats 4000000 in
theorem isRate_r (s t : Bool) (A B : Option Addr) (n m c d : Nat) (f g : Nat → Nat) (w : World) (hr : FRd w A n f B m g) (hn : n ≤ 1000000) (hm : m ≤ 1000000) (r : Bool) (h : rateB s n f t m g = r) :
    Calls Tryz.prog 43 #[.agg #[.bool s, .slice A n c, .bool t, .slice B m d]] w fun e w' => e = .returned (.bool r) ∧ Below w.heap.size w w' := by
  have hres := h.symm
  clear h
  unfold rateB at hres
  obtain ⟨v, hv⟩ : ∃ v, okF s n f t m g = v := ⟨_, rfl⟩
  rw [hv] at hres
  have HV := Lib.hid hv
  clear hv
  cases v with
  | false =>
    rw [Bool.false_and] at hres
    have hE := (Env.start w).blk 40 #[.bool s, .slice A n c, .bool t, .slice B m d] (g := w.heap.size) rfl
    obtain ⟨W0, hW0⟩ : ∃ W0, W0 = w.alloc (.cells #[.bool s, .slice A n c, .bool t, .slice B m d] 40) := ⟨_, rfl⟩
    rw [← hW0] at hE
    have HW0 := Lib.hid hW0
    clear hW0
    have HR := Lib.hid hres
    clear hres
    go_enter Tryz.func43, Tryz.ntmps43
    go_upto_region 1 with (fail)
    rw [← HW0.out]
    replace hE := hE.drew
    refine wp_region_held_drew (S := fun w' => w'.cell? ⟨w.heap.size, 0, none⟩ = some (.bool s) ∧ w'.cell? ⟨w.heap.size, 1, none⟩ = some (.slice A n c) ∧ w'.cell? ⟨w.heap.size, 2, none⟩ = some (.bool t) ∧ w'.cell? ⟨w.heap.size, 3, none⟩ = some (.slice B m d)) (by kernel_rfl) (⟨(hE.here.2).c4.1, (hE.here.2).c4.2.1, (hE.here.2).c4.2.2.1, (hE.here.2).c4.2.2.2⟩) (fun hHeld => ?_)
    refine wpAnyH_take (i := 0) (v := ?v1_0_1) rfl (by kernel_rfl) (by kernel_rfl) (by kernel_rfl) (fun _ _ _ h => h) (Or.inl ⟨by rfl, ?hy1_0_1⟩) (by assumption) ?rest1_0_1
    case hy1_0_1 => intro w hSw; (try dsimp only at hSw); first | (go_simp; done) | (go_simp; with_reducible rfl)
    try simp only [Act.put, List.setIfInBounds_toArray, List.set_cons_zero, List.set_cons_succ, List.getElem_toArray, List.getElem_cons_succ, List.getElem_cons_zero]
    refine wpAnyH_ready (rs := [1]) (by kernel_rfl) (by simp) (AllReadyH.cons rfl (fun K hK => ?_) (AllReadyH.nil))
    go_simp
    refine (fvalid_r s t A B n m c d f g _ (hr.below hE.bel) hn hm _ HV.out).mono ?_
    rintro e w1 ⟨rfl, hb⟩
    replace hE := hE.step hb
    clear hb
    go_wp2_with fail
    refine hK.out _ _ (⟨(hE.here.2).c4.1, (hE.here.2).c4.2.1, (hE.here.2).c4.2.2.1, (hE.here.2).c4.2.2.2⟩) (fun hHeld => ?_)
    clear hK K
    try simp only [Act.put, List.setIfInBounds_toArray, List.set_cons_zero, List.set_cons_succ, List.getElem_toArray, List.getElem_cons_succ, List.getElem_cons_zero]
    refine wpAnyH_take (i := 2) (v := ?v1_2_2) rfl (by kernel_rfl) (by kernel_rfl) (by kernel_rfl) (fun _ _ _ h => h) (Or.inl ⟨by rfl, ?hy1_2_2⟩) (by assumption) ?rest1_2_2
    case hy1_2_2 => intro w hSw; (try dsimp only at hSw); first | (go_simp; done) | (go_simp; with_reducible rfl)
    try simp only [Act.put, List.setIfInBounds_toArray, List.set_cons_zero, List.set_cons_succ, List.getElem_toArray, List.getElem_cons_succ, List.getElem_cons_zero]
    refine wpAnyH_take (i := 3) (v := undef) rfl (by kernel_rfl) (by kernel_rfl) (by kernel_rfl) (fun _ _ _ h => h) (Or.inr ⟨by rfl, rfl⟩) (by assumption) ?rest1_3_3
    try simp only [Act.put, List.setIfInBounds_toArray, List.set_cons_zero, List.set_cons_succ, List.getElem_toArray, List.getElem_cons_succ, List.getElem_cons_zero]
    refine wpAnyH_take (i := 4) (v := undef) rfl (by kernel_rfl) (by kernel_rfl) (by kernel_rfl) (fun _ _ _ h => h) (Or.inr ⟨by rfl, rfl⟩) (by assumption) ?rest1_4_4
    try simp only [Act.put, List.setIfInBounds_toArray, List.set_cons_zero, List.set_cons_succ, List.getElem_toArray, List.getElem_cons_succ, List.getElem_cons_zero]
    refine wpAnyH_take (i := 5) (v := undef) rfl (by kernel_rfl) (by kernel_rfl) (by kernel_rfl) (fun _ _ _ h => h) (Or.inr ⟨by rfl, rfl⟩) (by assumption) ?rest1_5_5
    try simp only [Act.put, List.setIfInBounds_toArray, List.set_cons_zero, List.set_cons_succ, List.getElem_toArray, List.getElem_cons_succ, List.getElem_cons_zero]
    refine wpAnyH_take (i := 6) (v := undef) rfl (by kernel_rfl) (by kernel_rfl) (by kernel_rfl) (fun _ _ _ h => h) (Or.inr ⟨by rfl, rfl⟩) (by assumption) ?rest1_6_6
    try simp only [Act.put, List.setIfInBounds_toArray, List.set_cons_zero, List.set_cons_succ, List.getElem_toArray, List.getElem_cons_succ, List.getElem_cons_zero]
    refine wpAnyH_take (i := 7) (v := ?v1_7_7) rfl (by kernel_rfl) (by kernel_rfl) (by kernel_rfl) (fun _ _ _ h => h) (Or.inl ⟨by rfl, ?hy1_7_7⟩) (by assumption) ?rest1_7_7
    case hy1_7_7 => intro w hSw; (try dsimp only at hSw); first | (go_simp; done) | (go_simp; with_reducible rfl)
    try simp only [Act.put, List.setIfInBounds_toArray, List.set_cons_zero, List.set_cons_succ, List.getElem_toArray, List.getElem_cons_succ, List.getElem_cons_zero]
    refine wpAnyH_take (i := 8) (v := ?v1_8_8) rfl (by kernel_rfl) (by kernel_rfl) (by kernel_rfl) (fun _ _ _ h => h) (Or.inl ⟨by rfl, ?hy1_8_8⟩) (by assumption) ?rest1_8_8
    case hy1_8_8 => intro w hSw; (try dsimp only at hSw); first | (go_simp; done) | (go_simp; with_reducible rfl)
    try simp only [Act.put, List.setIfInBounds_toArray, List.set_cons_zero, List.set_cons_succ, List.getElem_toArray, List.getElem_cons_succ, List.getElem_cons_zero]
    refine wpAnyH_take (i := 9) (v := undef) rfl (by kernel_rfl) (by kernel_rfl) (by kernel_rfl) (fun _ _ _ h => h) (Or.inr ⟨by rfl, rfl⟩) (by assumption) ?rest1_9_9
    try simp only [Act.put, List.setIfInBounds_toArray, List.set_cons_zero, List.set_cons_succ, List.getElem_toArray, List.getElem_cons_succ, List.getElem_cons_zero]
    refine wpAnyH_take (i := 10) (v := undef) rfl (by kernel_rfl) (by kernel_rfl) (by kernel_rfl) (fun _ _ _ h => h) (Or.inr ⟨by rfl, rfl⟩) (by assumption) ?rest1_10_10
    try simp only [Act.put, List.setIfInBounds_toArray, List.set_cons_zero, List.set_cons_succ, List.getElem_toArray, List.getElem_cons_succ, List.getElem_cons_zero]
    refine wpAnyH_take (i := 11) (v := undef) rfl (by kernel_rfl) (by kernel_rfl) (by kernel_rfl) (fun _ _ _ h => h) (Or.inr ⟨by rfl, rfl⟩) (by assumption) ?rest1_11_11
    try simp only [Act.put, List.setIfInBounds_toArray, List.set_cons_zero, List.set_cons_succ, List.getElem_toArray, List.getElem_cons_succ, List.getElem_cons_zero]
    refine wpAnyH_take (i := 12) (v := undef) rfl (by kernel_rfl) (by kernel_rfl) (by kernel_rfl) (fun _ _ _ h => h) (Or.inr ⟨by rfl, rfl⟩) (by assumption) ?rest1_12_12
    try simp only [Act.put, List.setIfInBounds_toArray, List.set_cons_zero, List.set_cons_succ, List.getElem_toArray, List.getElem_cons_succ, List.getElem_cons_zero]
    refine wpAnyH_take (i := 13) (v := undef) rfl (by kernel_rfl) (by kernel_rfl) (by kernel_rfl) (fun _ _ _ h => h) (Or.inr ⟨by rfl, rfl⟩) (by assumption) ?rest1_13_13
    try simp only [Act.put, List.setIfInBounds_toArray, List.set_cons_zero, List.set_cons_succ, List.getElem_toArray, List.getElem_cons_succ, List.getElem_cons_zero]
    refine wpAnyH_take (i := 14) (v := ?v1_14_14) rfl (by kernel_rfl) (by kernel_rfl) (by kernel_rfl) (fun _ _ _ h => h) (Or.inl ⟨by rfl, ?hy1_14_14⟩) (by assumption) ?rest1_14_14
    case hy1_14_14 => intro w hSw; (try dsimp only at hSw); first | (go_simp; done) | (go_simp; with_reducible rfl)
    try simp only [Act.put, List.setIfInBounds_toArray, List.set_cons_zero, List.set_cons_succ, List.getElem_toArray, List.getElem_cons_succ, List.getElem_cons_zero]
    refine wpAnyH_take (i := 15) (v := ?v1_15_15) rfl (by kernel_rfl) (by kernel_rfl) (by kernel_rfl) (fun _ _ _ h => h) (Or.inl ⟨by rfl, ?hy1_15_15⟩) (by assumption) ?rest1_15_15
    case hy1_15_15 => intro w hSw; (try dsimp only at hSw); first | (go_simp; done) | (go_simp; with_reducible rfl)
    try simp only [Act.put, List.setIfInBounds_toArray, List.set_cons_zero, List.set_cons_succ, List.getElem_toArray, List.getElem_cons_succ, List.getElem_cons_zero]
    refine wpAnyH_take (i := 16) (v := undef) rfl (by kernel_rfl) (by kernel_rfl) (by kernel_rfl) (fun _ _ _ h => h) (Or.inr ⟨by rfl, rfl⟩) (by assumption) ?rest1_16_16
    try simp only [Act.put, List.setIfInBounds_toArray, List.set_cons_zero, List.set_cons_succ, List.getElem_toArray, List.getElem_cons_succ, List.getElem_cons_zero]
    refine wpAnyH_take (i := 17) (v := undef) rfl (by kernel_rfl) (by kernel_rfl) (by kernel_rfl) (fun _ _ _ h => h) (Or.inr ⟨by rfl, rfl⟩) (by assumption) ?rest1_17_17
    try simp only [Act.put, List.setIfInBounds_toArray, List.set_cons_zero, List.set_cons_succ, List.getElem_toArray, List.getElem_cons_succ, List.getElem_cons_zero]
    refine wpAnyH_take (i := 18) (v := undef) rfl (by kernel_rfl) (by kernel_rfl) (by kernel_rfl) (fun _ _ _ h => h) (Or.inr ⟨by rfl, rfl⟩) (by assumption) ?rest1_18_18
    try simp only [Act.put, List.setIfInBounds_toArray, List.set_cons_zero, List.set_cons_succ, List.getElem_toArray, List.getElem_cons_succ, List.getElem_cons_zero]
    refine wpAnyH_take (i := 19) (v := undef) rfl (by kernel_rfl) (by kernel_rfl) (by kernel_rfl) (fun _ _ _ h => h) (Or.inr ⟨by rfl, rfl⟩) (by assumption) ?rest1_19_19
    try simp only [Act.put, List.setIfInBounds_toArray, List.set_cons_zero, List.set_cons_succ, List.getElem_toArray, List.getElem_cons_succ, List.getElem_cons_zero]
    refine wpAnyH_take (i := 20) (v := undef) rfl (by kernel_rfl) (by kernel_rfl) (by kernel_rfl) (fun _ _ _ h => h) (Or.inr ⟨by rfl, rfl⟩) (by assumption) ?rest1_20_20
    try simp only [Act.put, List.setIfInBounds_toArray, List.set_cons_zero, List.set_cons_succ, List.getElem_toArray, List.getElem_cons_succ, List.getElem_cons_zero]
    refine wpAnyH_take (i := 21) (v := ?v1_21_21) rfl (by kernel_rfl) (by kernel_rfl) (by kernel_rfl) (fun _ _ _ h => h) (Or.inl ⟨by rfl, ?hy1_21_21⟩) (by assumption) ?rest1_21_21
    case hy1_21_21 => intro w hSw; (try dsimp only at hSw); first | (go_simp; done) | (go_simp; with_reducible rfl)
    try simp only [Act.put, List.setIfInBounds_toArray, List.set_cons_zero, List.set_cons_succ, List.getElem_toArray, List.getElem_cons_succ, List.getElem_cons_zero]
    refine wpAnyH_take (i := 22) (v := ?v1_22_22) rfl (by kernel_rfl) (by kernel_rfl) (by kernel_rfl) (fun _ _ _ h => h) (Or.inl ⟨by rfl, ?hy1_22_22⟩) (by assumption) ?rest1_22_22
    case hy1_22_22 => intro w hSw; (try dsimp only at hSw); first | (go_simp; done) | (go_simp; with_reducible rfl)
    try simp only [Act.put, List.setIfInBounds_toArray, List.set_cons_zero, List.set_cons_succ, List.getElem_toArray, List.getElem_cons_succ, List.getElem_cons_zero]
    refine wpAnyH_take (i := 23) (v := undef) rfl (by kernel_rfl) (by kernel_rfl) (by kernel_rfl) (fun _ _ _ h => h) (Or.inr ⟨by rfl, rfl⟩) (by assumption) ?rest1_23_23
    try simp only [Act.put, List.setIfInBounds_toArray, List.set_cons_zero, List.set_cons_succ, List.getElem_toArray, List.getElem_cons_succ, List.getElem_cons_zero]
    refine wpAnyH_take (i := 24) (v := undef) rfl (by kernel_rfl) (by kernel_rfl) (by kernel_rfl) (fun _ _ _ h => h) (Or.inr ⟨by rfl, rfl⟩) (by assumption) ?rest1_24_24
    try simp only [Act.put, List.setIfInBounds_toArray, List.set_cons_zero, List.set_cons_succ, List.getElem_toArray, List.getElem_cons_succ, List.getElem_cons_zero]
    refine wpAnyH_take (i := 25) (v := undef) rfl (by kernel_rfl) (by kernel_rfl) (by kernel_rfl) (fun _ _ _ h => h) (Or.inr ⟨by rfl, rfl⟩) (by assumption) ?rest1_25_25
    try simp only [Act.put, List.setIfInBounds_toArray, List.set_cons_zero, List.set_cons_succ, List.getElem_toArray, List.getElem_cons_succ, List.getElem_cons_zero]
    refine wpAnyH_take (i := 26) (v := undef) rfl (by kernel_rfl) (by kernel_rfl) (by kernel_rfl) (fun _ _ _ h => h) (Or.inr ⟨by rfl, rfl⟩) (by assumption) ?rest1_26_26
    try simp only [Act.put, List.setIfInBounds_toArray, List.set_cons_zero, List.set_cons_succ, List.getElem_toArray, List.getElem_cons_succ, List.getElem_cons_zero]
    refine wpAnyH_take (i := 27) (v := ?v1_27_27) rfl (by kernel_rfl) (by kernel_rfl) (by kernel_rfl) (fun _ _ _ h => h) (Or.inl ⟨by rfl, ?hy1_27_27⟩) (by assumption) ?rest1_27_27
    case hy1_27_27 => intro w hSw; (try dsimp only at hSw); first | (go_simp; done) | (go_simp; with_reducible rfl)
    try simp only [Act.put, List.setIfInBounds_toArray, List.set_cons_zero, List.set_cons_succ, List.getElem_toArray, List.getElem_cons_succ, List.getElem_cons_zero]
    refine wpAnyH_take (i := 28) (v := ?v1_28_28) rfl (by kernel_rfl) (by kernel_rfl) (by kernel_rfl) (fun _ _ _ h => h) (Or.inl ⟨by rfl, ?hy1_28_28⟩) (by assumption) ?rest1_28_28
    case hy1_28_28 => intro w hSw; (try dsimp only at hSw); first | (go_simp; done) | (go_simp; with_reducible rfl)
    try simp only [Act.put, List.setIfInBounds_toArray, List.set_cons_zero, List.set_cons_succ, List.getElem_toArray, List.getElem_cons_succ, List.getElem_cons_zero]
    refine wpAnyH_done (by kernel_rfl) ?_ _
    go_wp2_with fail
    go_ret
    exact ⟨ret_bool HR.out.symm, hE.bel⟩
  | true =>
   rw [Bool.true_and] at hres
   cases s with
   | true =>
    rw [Bool.not_true, Bool.false_and] at hres
    have hE := (Env.start w).blk 40 #[.bool true, .slice A n c, .bool t, .slice B m d] (g := w.heap.size) rfl
    obtain ⟨W0, hW0⟩ : ∃ W0, W0 = w.alloc (.cells #[.bool true, .slice A n c, .bool t, .slice B m d] 40) := ⟨_, rfl⟩
    rw [← hW0] at hE
    have HW0 := Lib.hid hW0
    clear hW0
    have HR := Lib.hid hres
    clear hres
    go_enter Tryz.func43, Tryz.ntmps43
    go_upto_region 1 with (fail)
    rw [← HW0.out]
    replace hE := hE.drew
    refine wp_region_held_drew (S := fun w' => w'.cell? ⟨w.heap.size, 0, none⟩ = some (.bool true) ∧ w'.cell? ⟨w.heap.size, 1, none⟩ = some (.slice A n c) ∧ w'.cell? ⟨w.heap.size, 2, none⟩ = some (.bool t) ∧ w'.cell? ⟨w.heap.size, 3, none⟩ = some (.slice B m d)) (by kernel_rfl) (⟨(hE.here.2).c4.1, (hE.here.2).c4.2.1, (hE.here.2).c4.2.2.1, (hE.here.2).c4.2.2.2⟩) (fun hHeld => ?_)
    refine wpAnyH_take (i := 0) (v := ?v2_0_1) rfl (by kernel_rfl) (by kernel_rfl) (by kernel_rfl) (fun _ _ _ h => h) (Or.inl ⟨by rfl, ?hy2_0_1⟩) (by assumption) ?rest2_0_1
    case hy2_0_1 => intro w hSw; (try dsimp only at hSw); first | (go_simp; done) | (go_simp; with_reducible rfl)
    try simp only [Act.put, List.setIfInBounds_toArray, List.set_cons_zero, List.set_cons_succ, List.getElem_toArray, List.getElem_cons_succ, List.getElem_cons_zero]
    refine wpAnyH_ready (rs := [1]) (by kernel_rfl) (by simp) (AllReadyH.cons rfl (fun K hK => ?_) (AllReadyH.nil))
    go_simp
    refine (fvalid_r true t A B n m c d f g _ (hr.below hE.bel) hn hm _ HV.out).mono ?_
    rintro e w1 ⟨rfl, hb⟩
    replace hE := hE.step hb
    clear hb
    go_wp2_with fail
    refine hK.out _ _ (⟨(hE.here.2).c4.1, (hE.here.2).c4.2.1, (hE.here.2).c4.2.2.1, (hE.here.2).c4.2.2.2⟩) (fun hHeld => ?_)
    clear hK K
    try simp only [Act.put, List.setIfInBounds_toArray, List.set_cons_zero, List.set_cons_succ, List.getElem_toArray, List.getElem_cons_succ, List.getElem_cons_zero]
    refine wpAnyH_take (i := 2) (v := ?v2_2_2) rfl (by kernel_rfl) (by kernel_rfl) (by kernel_rfl) (fun _ _ _ h => h) (Or.inl ⟨by rfl, ?hy2_2_2⟩) (by assumption) ?rest2_2_2
    case hy2_2_2 => intro w hSw; (try dsimp only at hSw); first | (go_simp; done) | (go_simp; with_reducible rfl)
    try simp only [Act.put, List.setIfInBounds_toArray, List.set_cons_zero, List.set_cons_succ, List.getElem_toArray, List.getElem_cons_succ, List.getElem_cons_zero]
    refine wpAnyH_take (i := 3) (v := ?v2_3_3) rfl (by kernel_rfl) (by kernel_rfl) (by kernel_rfl) (fun _ _ _ h => h) (Or.inl ⟨by rfl, ?hy2_3_3⟩) (by assumption) ?rest2_3_3
    case hy2_3_3 => intro w hSw; (try dsimp only at hSw); first | (go_simp; done) | (go_simp; with_reducible rfl)
    try simp only [Act.put, List.setIfInBounds_toArray, List.set_cons_zero, List.set_cons_succ, List.getElem_toArray, List.getElem_cons_succ, List.getElem_cons_zero]
    refine wpAnyH_take (i := 4) (v := ?v2_4_4) rfl (by kernel_rfl) (by kernel_rfl) (by kernel_rfl) (fun _ _ _ h => h) (Or.inl ⟨by rfl, ?hy2_4_4⟩) (by assumption) ?rest2_4_4
    case hy2_4_4 => intro w hSw; (try dsimp only at hSw); first | (go_simp; done) | (go_simp; with_reducible rfl)
    try simp only [Act.put, List.setIfInBounds_toArray, List.set_cons_zero, List.set_cons_succ, List.getElem_toArray, List.getElem_cons_succ, List.getElem_cons_zero]
    refine wpAnyH_take (i := 5) (v := ?v2_5_5) rfl (by kernel_rfl) (by kernel_rfl) (by kernel_rfl) (fun _ _ _ h => h) (Or.inl ⟨by rfl, ?hy2_5_5⟩) (by assumption) ?rest2_5_5
    case hy2_5_5 => intro w hSw; (try dsimp only at hSw); first | (go_simp; done) | (go_simp; with_reducible rfl)
    try simp only [Act.put, List.setIfInBounds_toArray, List.set_cons_zero, List.set_cons_succ, List.getElem_toArray, List.getElem_cons_succ, List.getElem_cons_zero]
    refine wpAnyH_take (i := 6) (v := ?v2_6_6) rfl (by kernel_rfl) (by kernel_rfl) (by kernel_rfl) (fun _ _ _ h => h) (Or.inl ⟨by rfl, ?hy2_6_6⟩) (by assumption) ?rest2_6_6
    case hy2_6_6 => intro w hSw; (try dsimp only at hSw); first | (go_simp; done) | (go_simp; with_reducible rfl)
    try simp only [Act.put, List.setIfInBounds_toArray, List.set_cons_zero, List.set_cons_succ, List.getElem_toArray, List.getElem_cons_succ, List.getElem_cons_zero]
    refine wpAnyH_take (i := 7) (v := ?v2_7_7) rfl (by kernel_rfl) (by kernel_rfl) (by kernel_rfl) (fun _ _ _ h => h) (Or.inl ⟨by rfl, ?hy2_7_7⟩) (by assumption) ?rest2_7_7
    case hy2_7_7 => intro w hSw; (try dsimp only at hSw); first | (go_simp; done) | (go_simp; with_reducible rfl)
    try simp only [Act.put, List.setIfInBounds_toArray, List.set_cons_zero, List.set_cons_succ, List.getElem_toArray, List.getElem_cons_succ, List.getElem_cons_zero]
    refine wpAnyH_take (i := 8) (v := ?v2_8_8) rfl (by kernel_rfl) (by kernel_rfl) (by kernel_rfl) (fun _ _ _ h => h) (Or.inl ⟨by rfl, ?hy2_8_8⟩) (by assumption) ?rest2_8_8
    case hy2_8_8 => intro w hSw; (try dsimp only at hSw); first | (go_simp; done) | (go_simp; with_reducible rfl)
    try simp only [Act.put, List.setIfInBounds_toArray, List.set_cons_zero, List.set_cons_succ, List.getElem_toArray, List.getElem_cons_succ, List.getElem_cons_zero]
    refine wpAnyH_take (i := 9) (v := undef) rfl (by kernel_rfl) (by kernel_rfl) (by kernel_rfl) (fun _ _ _ h => h) (Or.inr ⟨by rfl, rfl⟩) (by assumption) ?rest2_9_9
    try simp only [Act.put, List.setIfInBounds_toArray, List.set_cons_zero, List.set_cons_succ, List.getElem_toArray, List.getElem_cons_succ, List.getElem_cons_zero]
    refine wpAnyH_take (i := 10) (v := undef) rfl (by kernel_rfl) (by kernel_rfl) (by kernel_rfl) (fun _ _ _ h => h) (Or.inr ⟨by rfl, rfl⟩) (by assumption) ?rest2_10_10
    try simp only [Act.put, List.setIfInBounds_toArray, List.set_cons_zero, List.set_cons_succ, List.getElem_toArray, List.getElem_cons_succ, List.getElem_cons_zero]
    refine wpAnyH_take (i := 11) (v := undef) rfl (by kernel_rfl) (by kernel_rfl) (by kernel_rfl) (fun _ _ _ h => h) (Or.inr ⟨by rfl, rfl⟩) (by assumption) ?rest2_11_11
    try simp only [Act.put, List.setIfInBounds_toArray, List.set_cons_zero, List.set_cons_succ, List.getElem_toArray, List.getElem_cons_succ, List.getElem_cons_zero]
    refine wpAnyH_take (i := 12) (v := undef) rfl (by kernel_rfl) (by kernel_rfl) (by kernel_rfl) (fun _ _ _ h => h) (Or.inr ⟨by rfl, rfl⟩) (by assumption) ?rest2_12_12
    try simp only [Act.put, List.setIfInBounds_toArray, List.set_cons_zero, List.set_cons_succ, List.getElem_toArray, List.getElem_cons_succ, List.getElem_cons_zero]
    refine wpAnyH_take (i := 13) (v := undef) rfl (by kernel_rfl) (by kernel_rfl) (by kernel_rfl) (fun _ _ _ h => h) (Or.inr ⟨by rfl, rfl⟩) (by assumption) ?rest2_13_13
    try simp only [Act.put, List.setIfInBounds_toArray, List.set_cons_zero, List.set_cons_succ, List.getElem_toArray, List.getElem_cons_succ, List.getElem_cons_zero]
    refine wpAnyH_take (i := 14) (v := ?v2_14_14) rfl (by kernel_rfl) (by kernel_rfl) (by kernel_rfl) (fun _ _ _ h => h) (Or.inl ⟨by rfl, ?hy2_14_14⟩) (by assumption) ?rest2_14_14
    case hy2_14_14 => intro w hSw; (try dsimp only at hSw); first | (go_simp; done) | (go_simp; with_reducible rfl)
    try simp only [Act.put, List.setIfInBounds_toArray, List.set_cons_zero, List.set_cons_succ, List.getElem_toArray, List.getElem_cons_succ, List.getElem_cons_zero]
    refine wpAnyH_take (i := 15) (v := ?v2_15_15) rfl (by kernel_rfl) (by kernel_rfl) (by kernel_rfl) (fun _ _ _ h => h) (Or.inl ⟨by rfl, ?hy2_15_15⟩) (by assumption) ?rest2_15_15
    case hy2_15_15 => intro w hSw; (try dsimp only at hSw); first | (go_simp; done) | (go_simp; with_reducible rfl)
    try simp only [Act.put, List.setIfInBounds_toArray, List.set_cons_zero, List.set_cons_succ, List.getElem_toArray, List.getElem_cons_succ, List.getElem_cons_zero]
    refine wpAnyH_take (i := 16) (v := undef) rfl (by kernel_rfl) (by kernel_rfl) (by kernel_rfl) (fun _ _ _ h => h) (Or.inr ⟨by rfl, rfl⟩) (by assumption) ?rest2_16_16
    try simp only [Act.put, List.setIfInBounds_toArray, List.set_cons_zero, List.set_cons_succ, List.getElem_toArray, List.getElem_cons_succ, List.getElem_cons_zero]
    refine wpAnyH_take (i := 17) (v := undef) rfl (by kernel_rfl) (by kernel_rfl) (by kernel_rfl) (fun _ _ _ h => h) (Or.inr ⟨by rfl, rfl⟩) (by assumption) ?rest2_17_17
    try simp only [Act.put, List.setIfInBounds_toArray, List.set_cons_zero, List.set_cons_succ, List.getElem_toArray, List.getElem_cons_succ, List.getElem_cons_zero]
    refine wpAnyH_take (i := 18) (v := undef) rfl (by kernel_rfl) (by kernel_rfl) (by kernel_rfl) (fun _ _ _ h => h) (Or.inr ⟨by rfl, rfl⟩) (by assumption) ?rest2_18_18
    try simp only [Act.put, List.setIfInBounds_toArray, List.set_cons_zero, List.set_cons_succ, List.getElem_toArray, List.getElem_cons_succ, List.getElem_cons_zero]
    refine wpAnyH_take (i := 19) (v := undef) rfl (by kernel_rfl) (by kernel_rfl) (by kernel_rfl) (fun _ _ _ h => h) (Or.inr ⟨by rfl, rfl⟩) (by assumption) ?rest2_19_19
    try simp only [Act.put, List.setIfInBounds_toArray, List.set_cons_zero, List.set_cons_succ, List.getElem_toArray, List.getElem_cons_succ, List.getElem_cons_zero]
    refine wpAnyH_take (i := 20) (v := undef) rfl (by kernel_rfl) (by kernel_rfl) (by kernel_rfl) (fun _ _ _ h => h) (Or.inr ⟨by rfl, rfl⟩) (by assumption) ?rest2_20_20
    try simp only [Act.put, List.setIfInBounds_toArray, List.set_cons_zero, List.set_cons_succ, List.getElem_toArray, List.getElem_cons_succ, List.getElem_cons_zero]
    refine wpAnyH_take (i := 21) (v := ?v2_21_21) rfl (by kernel_rfl) (by kernel_rfl) (by kernel_rfl) (fun _ _ _ h => h) (Or.inl ⟨by rfl, ?hy2_21_21⟩) (by assumption) ?rest2_21_21
    case hy2_21_21 => intro w hSw; (try dsimp only at hSw); first | (go_simp; done) | (go_simp; with_reducible rfl)
    try simp only [Act.put, List.setIfInBounds_toArray, List.set_cons_zero, List.set_cons_succ, List.getElem_toArray, List.getElem_cons_succ, List.getElem_cons_zero]
    refine wpAnyH_take (i := 22) (v := ?v2_22_22) rfl (by kernel_rfl) (by kernel_rfl) (by kernel_rfl) (fun _ _ _ h => h) (Or.inl ⟨by rfl, ?hy2_22_22⟩) (by assumption) ?rest2_22_22
    case hy2_22_22 => intro w hSw; (try dsimp only at hSw); first | (go_simp; done) | (go_simp; with_reducible rfl)
    try simp only [Act.put, List.setIfInBounds_toArray, List.set_cons_zero, List.set_cons_succ, List.getElem_toArray, List.getElem_cons_succ, List.getElem_cons_zero]
    refine wpAnyH_take (i := 23) (v := undef) rfl (by kernel_rfl) (by kernel_rfl) (by kernel_rfl) (fun _ _ _ h => h) (Or.inr ⟨by rfl, rfl⟩) (by assumption) ?rest2_23_23
    try simp only [Act.put, List.setIfInBounds_toArray, List.set_cons_zero, List.set_cons_succ, List.getElem_toArray, List.getElem_cons_succ, List.getElem_cons_zero]
    refine wpAnyH_take (i := 24) (v := undef) rfl (by kernel_rfl) (by kernel_rfl) (by kernel_rfl) (fun _ _ _ h => h) (Or.inr ⟨by rfl, rfl⟩) (by assumption) ?rest2_24_24
    try simp only [Act.put, List.setIfInBounds_toArray, List.set_cons_zero, List.set_cons_succ, List.getElem_toArray, List.getElem_cons_succ, List.getElem_cons_zero]
    refine wpAnyH_take (i := 25) (v := undef) rfl (by kernel_rfl) (by kernel_rfl) (by kernel_rfl) (fun _ _ _ h => h) (Or.inr ⟨by rfl, rfl⟩) (by assumption) ?rest2_25_25
    try simp only [Act.put, List.setIfInBounds_toArray, List.set_cons_zero, List.set_cons_succ, List.getElem_toArray, List.getElem_cons_succ, List.getElem_cons_zero]
    refine wpAnyH_take (i := 26) (v := undef) rfl (by kernel_rfl) (by kernel_rfl) (by kernel_rfl) (fun _ _ _ h => h) (Or.inr ⟨by rfl, rfl⟩) (by assumption) ?rest2_26_26
    try simp only [Act.put, List.setIfInBounds_toArray, List.set_cons_zero, List.set_cons_succ, List.getElem_toArray, List.getElem_cons_succ, List.getElem_cons_zero]
    refine wpAnyH_take (i := 27) (v := ?v2_27_27) rfl (by kernel_rfl) (by kernel_rfl) (by kernel_rfl) (fun _ _ _ h => h) (Or.inl ⟨by rfl, ?hy2_27_27⟩) (by assumption) ?rest2_27_27
    case hy2_27_27 => intro w hSw; (try dsimp only at hSw); first | (go_simp; done) | (go_simp; with_reducible rfl)
    try simp only [Act.put, List.setIfInBounds_toArray, List.set_cons_zero, List.set_cons_succ, List.getElem_toArray, List.getElem_cons_succ, List.getElem_cons_zero]
    refine wpAnyH_take (i := 28) (v := ?v2_28_28) rfl (by kernel_rfl) (by kernel_rfl) (by kernel_rfl) (fun _ _ _ h => h) (Or.inl ⟨by rfl, ?hy2_28_28⟩) (by assumption) ?rest2_28_28
    case hy2_28_28 => intro w hSw; (try dsimp only at hSw); first | (go_simp; done) | (go_simp; with_reducible rfl)
    try simp only [Act.put, List.setIfInBounds_toArray, List.set_cons_zero, List.set_cons_succ, List.getElem_toArray, List.getElem_cons_succ, List.getElem_cons_zero]
    refine wpAnyH_done (by kernel_rfl) ?_ _
    go_wp2_with fail
    go_ret
    exact ⟨ret_bool HR.out.symm, hE.bel⟩
   | false =>
    rw [Bool.not_false, Bool.true_and] at hres
    by_cases h1 : n ≤ 1
    · have t1 : decide ((n : Int) ≤ 1) = true := decide_eq_true (by omega)
      rw [decide_eq_true h1, Bool.true_and] at hres
      by_cases h2 : m ≤ 1
      · have t2 : decide ((m : Int) ≤ 1) = true := decide_eq_true (by omega)
        rw [decide_eq_true h2, Bool.true_and] at hres
        have hE := (Env.start w).blk 40 #[.bool false, .slice A n c, .bool t, .slice B m d] (g := w.heap.size) rfl
        obtain ⟨W0, hW0⟩ : ∃ W0, W0 = w.alloc (.cells #[.bool false, .slice A n c, .bool t, .slice B m d] 40) := ⟨_, rfl⟩
        rw [← hW0] at hE
        have HW0 := Lib.hid hW0
        clear hW0
        obtain ⟨hq, -, -, hfl⟩ := okF_q (hr.below hE.bel) HV.out
        replace hE := hE.fv hq
        obtain ⟨v, hv⟩ : ∃ v, v = cmpQ (qOf false n f m g) 1 := ⟨_, rfl⟩
        have HQ := Lib.hid hv
        rw [← hv] at hres
        clear hv hq
        have HR := Lib.hid hres
        clear hres
        go_enter Tryz.func43, Tryz.ntmps43
        go_upto_region 1 with (fail)
        rw [← HW0.out]
        replace hE := hE.drew
        refine wp_region_held_drew (S := fun w' => w'.cell? ⟨w.heap.size, 0, none⟩ = some (.bool false) ∧ w'.cell? ⟨w.heap.size, 1, none⟩ = some (.slice A n c) ∧ w'.cell? ⟨w.heap.size, 2, none⟩ = some (.bool t) ∧ w'.cell? ⟨w.heap.size, 3, none⟩ = some (.slice B m d)) (by kernel_rfl) (⟨(hE.here.1.2).c4.1, (hE.here.1.2).c4.2.1, (hE.here.1.2).c4.2.2.1, (hE.here.1.2).c4.2.2.2⟩) (fun hHeld => ?_)
        refine wpAnyH_take (i := 0) (v := ?v3_0_1) rfl (by kernel_rfl) (by kernel_rfl) (by kernel_rfl) (fun _ _ _ h => h) (Or.inl ⟨by rfl, ?hy3_0_1⟩) (by assumption) ?rest3_0_1
        case hy3_0_1 => intro w hSw; (try dsimp only at hSw); first | (go_simp; done) | (go_simp; with_reducible rfl)
        try simp only [Act.put, List.setIfInBounds_toArray, List.set_cons_zero, List.set_cons_succ, List.getElem_toArray, List.getElem_cons_succ, List.getElem_cons_zero]
        refine wpAnyH_ready (rs := [1]) (by kernel_rfl) (by simp) (AllReadyH.cons rfl (fun K hK => ?_) (AllReadyH.nil))
        go_simp
        refine (fvalid_r false t A B n m c d f g _ (hr.below hE.bel) hn hm _ HV.out).mono ?_
        rintro e w1 ⟨rfl, hb⟩
        replace hE := hE.step hb
        clear hb
        go_wp2_with fail
        refine hK.out _ _ (⟨(hE.here.1.2).c4.1, (hE.here.1.2).c4.2.1, (hE.here.1.2).c4.2.2.1, (hE.here.1.2).c4.2.2.2⟩) (fun hHeld => ?_)
        clear hK K
        try simp only [Act.put, List.setIfInBounds_toArray, List.set_cons_zero, List.set_cons_succ, List.getElem_toArray, List.getElem_cons_succ, List.getElem_cons_zero]
        refine wpAnyH_take (i := 2) (v := ?v3_2_2) rfl (by kernel_rfl) (by kernel_rfl) (by kernel_rfl) (fun _ _ _ h => h) (Or.inl ⟨by rfl, ?hy3_2_2⟩) (by assumption) ?rest3_2_2
        case hy3_2_2 => intro w hSw; (try dsimp only at hSw); first | (go_simp; done) | (go_simp; with_reducible rfl)
        try simp only [Act.put, List.setIfInBounds_toArray, List.set_cons_zero, List.set_cons_succ, List.getElem_toArray, List.getElem_cons_succ, List.getElem_cons_zero]
        refine wpAnyH_take (i := 3) (v := ?v3_3_3) rfl (by kernel_rfl) (by kernel_rfl) (by kernel_rfl) (fun _ _ _ h => h) (Or.inl ⟨by rfl, ?hy3_3_3⟩) (by assumption) ?rest3_3_3
        case hy3_3_3 => intro w hSw; (try dsimp only at hSw); first | (go_simp; done) | (go_simp; with_reducible rfl)
        try simp only [Act.put, List.setIfInBounds_toArray, List.set_cons_zero, List.set_cons_succ, List.getElem_toArray, List.getElem_cons_succ, List.getElem_cons_zero]
        refine wpAnyH_take (i := 4) (v := ?v3_4_4) rfl (by kernel_rfl) (by kernel_rfl) (by kernel_rfl) (fun _ _ _ h => h) (Or.inl ⟨by rfl, ?hy3_4_4⟩) (by assumption) ?rest3_4_4
        case hy3_4_4 => intro w hSw; (try dsimp only at hSw); first | (go_simp; done) | (go_simp; with_reducible rfl)
        try simp only [Act.put, List.setIfInBounds_toArray, List.set_cons_zero, List.set_cons_succ, List.getElem_toArray, List.getElem_cons_succ, List.getElem_cons_zero]
        refine wpAnyH_take (i := 5) (v := ?v3_5_5) rfl (by kernel_rfl) (by kernel_rfl) (by kernel_rfl) (fun _ _ _ h => h) (Or.inl ⟨by rfl, ?hy3_5_5⟩) (by assumption) ?rest3_5_5
        case hy3_5_5 => intro w hSw; (try dsimp only at hSw); first | (go_simp; done) | (go_simp; with_reducible rfl)
        try simp only [Act.put, List.setIfInBounds_toArray, List.set_cons_zero, List.set_cons_succ, List.getElem_toArray, List.getElem_cons_succ, List.getElem_cons_zero]
        refine wpAnyH_take (i := 6) (v := ?v3_6_6) rfl (by kernel_rfl) (by kernel_rfl) (by kernel_rfl) (fun _ _ _ h => h) (Or.inl ⟨by rfl, ?hy3_6_6⟩) (by assumption) ?rest3_6_6
        case hy3_6_6 => intro w hSw; (try dsimp only at hSw); first | (go_simp; done) | (go_simp; with_reducible rfl)
        try simp only [Act.put, List.setIfInBounds_toArray, List.set_cons_zero, List.set_cons_succ, List.getElem_toArray, List.getElem_cons_succ, List.getElem_cons_zero]
        refine wpAnyH_take (i := 7) (v := ?v3_7_7) rfl (by kernel_rfl) (by kernel_rfl) (by kernel_rfl) (fun _ _ _ h => h) (Or.inl ⟨by rfl, ?hy3_7_7⟩) (by assumption) ?rest3_7_7
        case hy3_7_7 => intro w hSw; (try dsimp only at hSw); first | (go_simp; done) | (go_simp; with_reducible rfl)
        try simp only [Act.put, List.setIfInBounds_toArray, List.set_cons_zero, List.set_cons_succ, List.getElem_toArray, List.getElem_cons_succ, List.getElem_cons_zero]
        refine wpAnyH_take (i := 8) (v := ?v3_8_8) rfl (by kernel_rfl) (by kernel_rfl) (by kernel_rfl) (fun _ _ _ h => h) (Or.inl ⟨by rfl, ?hy3_8_8⟩) (by assumption) ?rest3_8_8
        case hy3_8_8 => intro w hSw; (try dsimp only at hSw); first | (go_simp; done) | (go_simp; with_reducible rfl)
        try simp only [Act.put, List.setIfInBounds_toArray, List.set_cons_zero, List.set_cons_succ, List.getElem_toArray, List.getElem_cons_succ, List.getElem_cons_zero]
        refine wpAnyH_take (i := 9) (v := ?v3_9_9) rfl (by kernel_rfl) (by kernel_rfl) (by kernel_rfl) (fun _ _ _ h => h) (Or.inl ⟨by rfl, ?hy3_9_9⟩) (by assumption) ?rest3_9_9
        case hy3_9_9 => intro w hSw; (try dsimp only at hSw); first | (go_simp; done) | (go_simp; with_reducible rfl)
        try simp only [Act.put, List.setIfInBounds_toArray, List.set_cons_zero, List.set_cons_succ, List.getElem_toArray, List.getElem_cons_succ, List.getElem_cons_zero]
        refine wpAnyH_take (i := 10) (v := ?v3_10_10) rfl (by kernel_rfl) (by kernel_rfl) (by kernel_rfl) (fun _ _ _ h => h) (Or.inl ⟨by rfl, ?hy3_10_10⟩) (by assumption) ?rest3_10_10
        case hy3_10_10 => intro w hSw; (try dsimp only at hSw); first | (go_simp; done) | (go_simp; with_reducible rfl)
        try simp only [Act.put, List.setIfInBounds_toArray, List.set_cons_zero, List.set_cons_succ, List.getElem_toArray, List.getElem_cons_succ, List.getElem_cons_zero]
        refine wpAnyH_take (i := 11) (v := ?v3_11_11) rfl (by kernel_rfl) (by kernel_rfl) (by kernel_rfl) (fun _ _ _ h => h) (Or.inl ⟨by rfl, ?hy3_11_11⟩) (by assumption) ?rest3_11_11
        case hy3_11_11 => intro w hSw; (try dsimp only at hSw); first | (go_simp; done) | (go_simp; with_reducible rfl)
        try simp only [Act.put, List.setIfInBounds_toArray, List.set_cons_zero, List.set_cons_succ, List.getElem_toArray, List.getElem_cons_succ, List.getElem_cons_zero]
        refine wpAnyH_take (i := 12) (v := ?v3_12_12) rfl (by kernel_rfl) (by kernel_rfl) (by kernel_rfl) (fun _ _ _ h => h) (Or.inl ⟨by rfl, ?hy3_12_12⟩) (by assumption) ?rest3_12_12
        case hy3_12_12 => intro w hSw; (try dsimp only at hSw); first | (go_simp; done) | (go_simp; with_reducible rfl)
        try simp only [Act.put, List.setIfInBounds_toArray, List.set_cons_zero, List.set_cons_succ, List.getElem_toArray, List.getElem_cons_succ, List.getElem_cons_zero]
        refine wpAnyH_take (i := 13) (v := ?v3_13_13) rfl (by kernel_rfl) (by kernel_rfl) (by kernel_rfl) (fun _ _ _ h => h) (Or.inl ⟨by rfl, ?hy3_13_13⟩) (by assumption) ?rest3_13_13
        case hy3_13_13 => intro w hSw; (try dsimp only at hSw); first | (go_simp; done) | (go_simp; with_reducible rfl)
        try simp only [Act.put, List.setIfInBounds_toArray, List.set_cons_zero, List.set_cons_succ, List.getElem_toArray, List.getElem_cons_succ, List.getElem_cons_zero]
        refine wpAnyH_take (i := 14) (v := ?v3_14_14) rfl (by kernel_rfl) (by kernel_rfl) (by kernel_rfl) (fun _ _ _ h => h) (Or.inl ⟨by rfl, ?hy3_14_14⟩) (by assumption) ?rest3_14_14
        case hy3_14_14 => intro w hSw; (try dsimp only at hSw); first | (go_simp; done) | (go_simp; with_reducible rfl)
        try simp only [Act.put, List.setIfInBounds_toArray, List.set_cons_zero, List.set_cons_succ, List.getElem_toArray, List.getElem_cons_succ, List.getElem_cons_zero]
        refine wpAnyH_take (i := 15) (v := ?v3_15_15) rfl (by kernel_rfl) (by kernel_rfl) (by kernel_rfl) (fun _ _ _ h => h) (Or.inl ⟨by rfl, ?hy3_15_15⟩) (by assumption) ?rest3_15_15
        case hy3_15_15 => intro w hSw; (try dsimp only at hSw); first | (go_simp; done) | (go_simp; with_reducible rfl)
        try simp only [Act.put, List.setIfInBounds_toArray, List.set_cons_zero, List.set_cons_succ, List.getElem_toArray, List.getElem_cons_succ, List.getElem_cons_zero]
        refine wpAnyH_take (i := 16) (v := ?v3_16_16) rfl (by kernel_rfl) (by kernel_rfl) (by kernel_rfl) (fun _ _ _ h => h) (Or.inl ⟨by rfl, ?hy3_16_16⟩) (by assumption) ?rest3_16_16
        case hy3_16_16 => intro w hSw; (try dsimp only at hSw); first | (go_simp; done) | (go_simp; with_reducible rfl)
        try simp only [Act.put, List.setIfInBounds_toArray, List.set_cons_zero, List.set_cons_succ, List.getElem_toArray, List.getElem_cons_succ, List.getElem_cons_zero]
        refine wpAnyH_take (i := 17) (v := ?v3_17_17) rfl (by kernel_rfl) (by kernel_rfl) (by kernel_rfl) (fun _ _ _ h => h) (Or.inl ⟨by rfl, ?hy3_17_17⟩) (by assumption) ?rest3_17_17
        case hy3_17_17 => intro w hSw; (try dsimp only at hSw); first | (go_simp; done) | (go_simp; with_reducible rfl)
        try simp only [Act.put, List.setIfInBounds_toArray, List.set_cons_zero, List.set_cons_succ, List.getElem_toArray, List.getElem_cons_succ, List.getElem_cons_zero]
        refine wpAnyH_take (i := 18) (v := ?v3_18_18) rfl (by kernel_rfl) (by kernel_rfl) (by kernel_rfl) (fun _ _ _ h => h) (Or.inl ⟨by rfl, ?hy3_18_18⟩) (by assumption) ?rest3_18_18
        case hy3_18_18 => intro w hSw; (try dsimp only at hSw); first | (go_simp; done) | (go_simp; with_reducible rfl)
        try simp only [Act.put, List.setIfInBounds_toArray, List.set_cons_zero, List.set_cons_succ, List.getElem_toArray, List.getElem_cons_succ, List.getElem_cons_zero]
        refine wpAnyH_take (i := 19) (v := ?v3_19_19) rfl (by kernel_rfl) (by kernel_rfl) (by kernel_rfl) (fun _ _ _ h => h) (Or.inl ⟨by rfl, ?hy3_19_19⟩) (by assumption) ?rest3_19_19
        case hy3_19_19 => intro w hSw; (try dsimp only at hSw); first | (go_simp; done) | (go_simp; with_reducible rfl)
        try simp only [Act.put, List.setIfInBounds_toArray, List.set_cons_zero, List.set_cons_succ, List.getElem_toArray, List.getElem_cons_succ, List.getElem_cons_zero]
        refine wpAnyH_take (i := 20) (v := ?v3_20_20) rfl (by kernel_rfl) (by kernel_rfl) (by kernel_rfl) (fun _ _ _ h => h) (Or.inl ⟨by rfl, ?hy3_20_20⟩) (by assumption) ?rest3_20_20
        case hy3_20_20 => intro w hSw; (try dsimp only at hSw); first | (go_simp; done) | (go_simp; with_reducible rfl)
        try simp only [Act.put, List.setIfInBounds_toArray, List.set_cons_zero, List.set_cons_succ, List.getElem_toArray, List.getElem_cons_succ, List.getElem_cons_zero]
        refine wpAnyH_take (i := 21) (v := ?v3_21_21) rfl (by kernel_rfl) (by kernel_rfl) (by kernel_rfl) (fun _ _ _ h => h) (Or.inl ⟨by rfl, ?hy3_21_21⟩) (by assumption) ?rest3_21_21
        case hy3_21_21 => intro w hSw; (try dsimp only at hSw); first | (go_simp; done) | (go_simp; with_reducible rfl)
        try simp only [Act.put, List.setIfInBounds_toArray, List.set_cons_zero, List.set_cons_succ, List.getElem_toArray, List.getElem_cons_succ, List.getElem_cons_zero]
        refine wpAnyH_take (i := 22) (v := ?v3_22_22) rfl (by kernel_rfl) (by kernel_rfl) (by kernel_rfl) (fun _ _ _ h => h) (Or.inl ⟨by rfl, ?hy3_22_22⟩) (by assumption) ?rest3_22_22
        case hy3_22_22 => intro w hSw; (try dsimp only at hSw); first | (go_simp; done) | (go_simp; with_reducible rfl)
        try simp only [Act.put, List.setIfInBounds_toArray, List.set_cons_zero, List.set_cons_succ, List.getElem_toArray, List.getElem_cons_succ, List.getElem_cons_zero]
        refine wpAnyH_take (i := 23) (v := ?v3_23_23) rfl (by kernel_rfl) (by kernel_rfl) (by kernel_rfl) (fun _ _ _ h => h) (Or.inl ⟨by rfl, ?hy3_23_23⟩) (by assumption) ?rest3_23_23
        case hy3_23_23 => intro w hSw; (try dsimp only at hSw); first | (go_simp; done) | (go_simp; with_reducible rfl)
        try simp only [Act.put, List.setIfInBounds_toArray, List.set_cons_zero, List.set_cons_succ, List.getElem_toArray, List.getElem_cons_succ, List.getElem_cons_zero]
        refine wpAnyH_ready (rs := [24]) (by kernel_rfl) (by simp) (AllReadyH.cons rfl (fun K hK => ?_) (AllReadyH.nil))
        go_simp
        refine (ffromInt_v 1 _ (by decide) (by decide)).mono ?_
        rintro e w2 ⟨sp, Ap, np, cp, tp, Bp, mp, dp, rfl, ho, hb⟩
        replace hE := hE.step hb
        clear hb
        replace hE := hE.fv ho
        clear ho
        go_wp2_with fail
        refine hK.out _ _ (⟨(hE.here.1.1.2).c4.1, (hE.here.1.1.2).c4.2.1, (hE.here.1.1.2).c4.2.2.1, (hE.here.1.1.2).c4.2.2.2⟩) (fun hHeld => ?_)
        clear hK K
        try simp only [Act.put, List.setIfInBounds_toArray, List.set_cons_zero, List.set_cons_succ, List.getElem_toArray, List.getElem_cons_succ, List.getElem_cons_zero]
        refine wpAnyH_ready (rs := [25]) (by kernel_rfl) (by simp) (AllReadyH.cons rfl (fun K hK => ?_) (AllReadyH.nil))
        go_simp
        have hc := fcmp_v (ca := c) (da := d) (cb := cp) (db := dp) hE.here.1.2 hE.here.2 hfl fl_one
        rw [show (((1 : Int) : Rat)) = 1 from rfl, ← HQ.out] at hc
        refine hc.mono ?_
        clear hc
        rintro e w3 ⟨rfl, hb⟩
        replace hE := hE.step hb
        clear hb
        go_wp2_with fail
        refine hK.out _ _ (⟨(hE.here.1.1.2).c4.1, (hE.here.1.1.2).c4.2.1, (hE.here.1.1.2).c4.2.2.1, (hE.here.1.1.2).c4.2.2.2⟩) (fun hHeld => ?_)
        clear hK K
        try simp only [Act.put, List.setIfInBounds_toArray, List.set_cons_zero, List.set_cons_succ, List.getElem_toArray, List.getElem_cons_succ, List.getElem_cons_zero]
        refine wpAnyH_take (i := 26) (v := ?v3_26_24) rfl (by kernel_rfl) (by kernel_rfl) (by kernel_rfl) (fun _ _ _ h => h) (Or.inl ⟨by rfl, ?hy3_26_24⟩) (by assumption) ?rest3_26_24
        case hy3_26_24 => intro w hSw; (try dsimp only at hSw); first | (go_simp; done) | (go_simp; with_reducible rfl)
        try simp only [Act.put, List.setIfInBounds_toArray, List.set_cons_zero, List.set_cons_succ, List.getElem_toArray, List.getElem_cons_succ, List.getElem_cons_zero]
        refine wpAnyH_take (i := 27) (v := ?v3_27_25) rfl (by kernel_rfl) (by kernel_rfl) (by kernel_rfl) (fun _ _ _ h => h) (Or.inl ⟨by rfl, ?hy3_27_25⟩) (by assumption) ?rest3_27_25
        case hy3_27_25 => intro w hSw; (try dsimp only at hSw); first | (go_simp; done) | (go_simp; with_reducible rfl)
        try simp only [Act.put, List.setIfInBounds_toArray, List.set_cons_zero, List.set_cons_succ, List.getElem_toArray, List.getElem_cons_succ, List.getElem_cons_zero]
        refine wpAnyH_take (i := 28) (v := ?v3_28_26) rfl (by kernel_rfl) (by kernel_rfl) (by kernel_rfl) (fun _ _ _ h => h) (Or.inl ⟨by rfl, ?hy3_28_26⟩) (by assumption) ?rest3_28_26
        case hy3_28_26 => intro w hSw; (try dsimp only at hSw); first | (go_simp; done) | (go_simp; with_reducible rfl)
        try simp only [Act.put, List.setIfInBounds_toArray, List.set_cons_zero, List.set_cons_succ, List.getElem_toArray, List.getElem_cons_succ, List.getElem_cons_zero]
        refine wpAnyH_done (by kernel_rfl) ?_ _
        go_wp2_with fail
        go_ret
        exact ⟨ret_bool HR.out.symm, hE.bel⟩
      · have t2 : decide ((m : Int) ≤ 1) = false := decide_eq_false (by omega)
        rw [decide_eq_false h2, Bool.false_and] at hres
        have hE := (Env.start w).blk 40 #[.bool false, .slice A n c, .bool t, .slice B m d] (g := w.heap.size) rfl
        obtain ⟨W0, hW0⟩ : ∃ W0, W0 = w.alloc (.cells #[.bool false, .slice A n c, .bool t, .slice B m d] 40) := ⟨_, rfl⟩
        rw [← hW0] at hE
        have HW0 := Lib.hid hW0
        clear hW0
        have HR := Lib.hid hres
        clear hres
        go_enter Tryz.func43, Tryz.ntmps43
        go_upto_region 1 with (fail)
        rw [← HW0.out]
        replace hE := hE.drew
        refine wp_region_held_drew (S := fun w' => w'.cell? ⟨w.heap.size, 0, none⟩ = some (.bool false) ∧ w'.cell? ⟨w.heap.size, 1, none⟩ = some (.slice A n c) ∧ w'.cell? ⟨w.heap.size, 2, none⟩ = some (.bool t) ∧ w'.cell? ⟨w.heap.size, 3, none⟩ = some (.slice B m d)) (by kernel_rfl) (⟨(hE.here.2).c4.1, (hE.here.2).c4.2.1, (hE.here.2).c4.2.2.1, (hE.here.2).c4.2.2.2⟩) (fun hHeld => ?_)
        refine wpAnyH_take (i := 0) (v := ?v4_0_1) rfl (by kernel_rfl) (by kernel_rfl) (by kernel_rfl) (fun _ _ _ h => h) (Or.inl ⟨by rfl, ?hy4_0_1⟩) (by assumption) ?rest4_0_1
        case hy4_0_1 => intro w hSw; (try dsimp only at hSw); first | (go_simp; done) | (go_simp; with_reducible rfl)
        try simp only [Act.put, List.setIfInBounds_toArray, List.set_cons_zero, List.set_cons_succ, List.getElem_toArray, List.getElem_cons_succ, List.getElem_cons_zero]
        refine wpAnyH_ready (rs := [1]) (by kernel_rfl) (by simp) (AllReadyH.cons rfl (fun K hK => ?_) (AllReadyH.nil))
        go_simp
        refine (fvalid_r false t A B n m c d f g _ (hr.below hE.bel) hn hm _ HV.out).mono ?_
        rintro e w1 ⟨rfl, hb⟩
        replace hE := hE.step hb
        clear hb
        go_wp2_with fail
        refine hK.out _ _ (⟨(hE.here.2).c4.1, (hE.here.2).c4.2.1, (hE.here.2).c4.2.2.1, (hE.here.2).c4.2.2.2⟩) (fun hHeld => ?_)
        clear hK K
        try simp only [Act.put, List.setIfInBounds_toArray, List.set_cons_zero, List.set_cons_succ, List.getElem_toArray, List.getElem_cons_succ, List.getElem_cons_zero]
        refine wpAnyH_take (i := 2) (v := ?v4_2_2) rfl (by kernel_rfl) (by kernel_rfl) (by kernel_rfl) (fun _ _ _ h => h) (Or.inl ⟨by rfl, ?hy4_2_2⟩) (by assumption) ?rest4_2_2
        case hy4_2_2 => intro w hSw; (try dsimp only at hSw); first | (go_simp; done) | (go_simp; with_reducible rfl)
        try simp only [Act.put, List.setIfInBounds_toArray, List.set_cons_zero, List.set_cons_succ, List.getElem_toArray, List.getElem_cons_succ, List.getElem_cons_zero]
        refine wpAnyH_take (i := 3) (v := ?v4_3_3) rfl (by kernel_rfl) (by kernel_rfl) (by kernel_rfl) (fun _ _ _ h => h) (Or.inl ⟨by rfl, ?hy4_3_3⟩) (by assumption) ?rest4_3_3
        case hy4_3_3 => intro w hSw; (try dsimp only at hSw); first | (go_simp; done) | (go_simp; with_reducible rfl)
        try simp only [Act.put, List.setIfInBounds_toArray, List.set_cons_zero, List.set_cons_succ, List.getElem_toArray, List.getElem_cons_succ, List.getElem_cons_zero]
        refine wpAnyH_take (i := 4) (v := ?v4_4_4) rfl (by kernel_rfl) (by kernel_rfl) (by kernel_rfl) (fun _ _ _ h => h) (Or.inl ⟨by rfl, ?hy4_4_4⟩) (by assumption) ?rest4_4_4
        case hy4_4_4 => intro w hSw; (try dsimp only at hSw); first | (go_simp; done) | (go_simp; with_reducible rfl)
        try simp only [Act.put, List.setIfInBounds_toArray, List.set_cons_zero, List.set_cons_succ, List.getElem_toArray, List.getElem_cons_succ, List.getElem_cons_zero]
        refine wpAnyH_take (i := 5) (v := ?v4_5_5) rfl (by kernel_rfl) (by kernel_rfl) (by kernel_rfl) (fun _ _ _ h => h) (Or.inl ⟨by rfl, ?hy4_5_5⟩) (by assumption) ?rest4_5_5
        case hy4_5_5 => intro w hSw; (try dsimp only at hSw); first | (go_simp; done) | (go_simp; with_reducible rfl)
        try simp only [Act.put, List.setIfInBounds_toArray, List.set_cons_zero, List.set_cons_succ, List.getElem_toArray, List.getElem_cons_succ, List.getElem_cons_zero]
        refine wpAnyH_take (i := 6) (v := ?v4_6_6) rfl (by kernel_rfl) (by kernel_rfl) (by kernel_rfl) (fun _ _ _ h => h) (Or.inl ⟨by rfl, ?hy4_6_6⟩) (by assumption) ?rest4_6_6
        case hy4_6_6 => intro w hSw; (try dsimp only at hSw); first | (go_simp; done) | (go_simp; with_reducible rfl)
        try simp only [Act.put, List.setIfInBounds_toArray, List.set_cons_zero, List.set_cons_succ, List.getElem_toArray, List.getElem_cons_succ, List.getElem_cons_zero]
        refine wpAnyH_take (i := 7) (v := ?v4_7_7) rfl (by kernel_rfl) (by kernel_rfl) (by kernel_rfl) (fun _ _ _ h => h) (Or.inl ⟨by rfl, ?hy4_7_7⟩) (by assumption) ?rest4_7_7
        case hy4_7_7 => intro w hSw; (try dsimp only at hSw); first | (go_simp; done) | (go_simp; with_reducible rfl)
        try simp only [Act.put, List.setIfInBounds_toArray, List.set_cons_zero, List.set_cons_succ, List.getElem_toArray, List.getElem_cons_succ, List.getElem_cons_zero]
        refine wpAnyH_take (i := 8) (v := ?v4_8_8) rfl (by kernel_rfl) (by kernel_rfl) (by kernel_rfl) (fun _ _ _ h => h) (Or.inl ⟨by rfl, ?hy4_8_8⟩) (by assumption) ?rest4_8_8
        case hy4_8_8 => intro w hSw; (try dsimp only at hSw); first | (go_simp; done) | (go_simp; with_reducible rfl)
        try simp only [Act.put, List.setIfInBounds_toArray, List.set_cons_zero, List.set_cons_succ, List.getElem_toArray, List.getElem_cons_succ, List.getElem_cons_zero]
        refine wpAnyH_take (i := 9) (v := ?v4_9_9) rfl (by kernel_rfl) (by kernel_rfl) (by kernel_rfl) (fun _ _ _ h => h) (Or.inl ⟨by rfl, ?hy4_9_9⟩) (by assumption) ?rest4_9_9
        case hy4_9_9 => intro w hSw; (try dsimp only at hSw); first | (go_simp; done) | (go_simp; with_reducible rfl)
        try simp only [Act.put, List.setIfInBounds_toArray, List.set_cons_zero, List.set_cons_succ, List.getElem_toArray, List.getElem_cons_succ, List.getElem_cons_zero]
        refine wpAnyH_take (i := 10) (v := ?v4_10_10) rfl (by kernel_rfl) (by kernel_rfl) (by kernel_rfl) (fun _ _ _ h => h) (Or.inl ⟨by rfl, ?hy4_10_10⟩) (by assumption) ?rest4_10_10
        case hy4_10_10 => intro w hSw; (try dsimp only at hSw); first | (go_simp; done) | (go_simp; with_reducible rfl)
        try simp only [Act.put, List.setIfInBounds_toArray, List.set_cons_zero, List.set_cons_succ, List.getElem_toArray, List.getElem_cons_succ, List.getElem_cons_zero]
        refine wpAnyH_take (i := 11) (v := ?v4_11_11) rfl (by kernel_rfl) (by kernel_rfl) (by kernel_rfl) (fun _ _ _ h => h) (Or.inl ⟨by rfl, ?hy4_11_11⟩) (by assumption) ?rest4_11_11
        case hy4_11_11 => intro w hSw; (try dsimp only at hSw); first | (go_simp; done) | (go_simp; with_reducible rfl)
        try simp only [Act.put, List.setIfInBounds_toArray, List.set_cons_zero, List.set_cons_succ, List.getElem_toArray, List.getElem_cons_succ, List.getElem_cons_zero]
        refine wpAnyH_take (i := 12) (v := ?v4_12_12) rfl (by kernel_rfl) (by kernel_rfl) (by kernel_rfl) (fun _ _ _ h => h) (Or.inl ⟨by rfl, ?hy4_12_12⟩) (by assumption) ?rest4_12_12
        case hy4_12_12 => intro w hSw; (try dsimp only at hSw); first | (go_simp; done) | (go_simp; with_reducible rfl)
        try simp only [Act.put, List.setIfInBounds_toArray, List.set_cons_zero, List.set_cons_succ, List.getElem_toArray, List.getElem_cons_succ, List.getElem_cons_zero]
        refine wpAnyH_take (i := 13) (v := ?v4_13_13) rfl (by kernel_rfl) (by kernel_rfl) (by kernel_rfl) (fun _ _ _ h => h) (Or.inl ⟨by rfl, ?hy4_13_13⟩) (by assumption) ?rest4_13_13
        case hy4_13_13 => intro w hSw; (try dsimp only at hSw); first | (go_simp; done) | (go_simp; with_reducible rfl)
        try simp only [Act.put, List.setIfInBounds_toArray, List.set_cons_zero, List.set_cons_succ, List.getElem_toArray, List.getElem_cons_succ, List.getElem_cons_zero]
        refine wpAnyH_take (i := 14) (v := ?v4_14_14) rfl (by kernel_rfl) (by kernel_rfl) (by kernel_rfl) (fun _ _ _ h => h) (Or.inl ⟨by rfl, ?hy4_14_14⟩) (by assumption) ?rest4_14_14
        case hy4_14_14 => intro w hSw; (try dsimp only at hSw); first | (go_simp; done) | (go_simp; with_reducible rfl)
        try simp only [Act.put, List.setIfInBounds_toArray, List.set_cons_zero, List.set_cons_succ, List.getElem_toArray, List.getElem_cons_succ, List.getElem_cons_zero]
        refine wpAnyH_take (i := 15) (v := ?v4_15_15) rfl (by kernel_rfl) (by kernel_rfl) (by kernel_rfl) (fun _ _ _ h => h) (Or.inl ⟨by rfl, ?hy4_15_15⟩) (by assumption) ?rest4_15_15
        case hy4_15_15 => intro w hSw; (try dsimp only at hSw); first | (go_simp; done) | (go_simp; with_reducible rfl)
        try simp only [Act.put, List.setIfInBounds_toArray, List.set_cons_zero, List.set_cons_succ, List.getElem_toArray, List.getElem_cons_succ, List.getElem_cons_zero]
        refine wpAnyH_take (i := 16) (v := ?v4_16_16) rfl (by kernel_rfl) (by kernel_rfl) (by kernel_rfl) (fun _ _ _ h => h) (Or.inl ⟨by rfl, ?hy4_16_16⟩) (by assumption) ?rest4_16_16
        case hy4_16_16 => intro w hSw; (try dsimp only at hSw); first | (go_simp; done) | (go_simp; with_reducible rfl)
        try simp only [Act.put, List.setIfInBounds_toArray, List.set_cons_zero, List.set_cons_succ, List.getElem_toArray, List.getElem_cons_succ, List.getElem_cons_zero]
        refine wpAnyH_take (i := 17) (v := ?v4_17_17) rfl (by kernel_rfl) (by kernel_rfl) (by kernel_rfl) (fun _ _ _ h => h) (Or.inl ⟨by rfl, ?hy4_17_17⟩) (by assumption) ?rest4_17_17
        case hy4_17_17 => intro w hSw; (try dsimp only at hSw); first | (go_simp; done) | (go_simp; with_reducible rfl)
        try simp only [Act.put, List.setIfInBounds_toArray, List.set_cons_zero, List.set_cons_succ, List.getElem_toArray, List.getElem_cons_succ, List.getElem_cons_zero]
        refine wpAnyH_take (i := 18) (v := ?v4_18_18) rfl (by kernel_rfl) (by kernel_rfl) (by kernel_rfl) (fun _ _ _ h => h) (Or.inl ⟨by rfl, ?hy4_18_18⟩) (by assumption) ?rest4_18_18
        case hy4_18_18 => intro w hSw; (try dsimp only at hSw); first | (go_simp; done) | (go_simp; with_reducible rfl)
        try simp only [Act.put, List.setIfInBounds_toArray, List.set_cons_zero, List.set_cons_succ, List.getElem_toArray, List.getElem_cons_succ, List.getElem_cons_zero]
        refine wpAnyH_take (i := 19) (v := ?v4_19_19) rfl (by kernel_rfl) (by kernel_rfl) (by kernel_rfl) (fun _ _ _ h => h) (Or.inl ⟨by rfl, ?hy4_19_19⟩) (by assumption) ?rest4_19_19
        case hy4_19_19 => intro w hSw; (try dsimp only at hSw); first | (go_simp; done) | (go_simp; with_reducible rfl)
        try simp only [Act.put, List.setIfInBounds_toArray, List.set_cons_zero, List.set_cons_succ, List.getElem_toArray, List.getElem_cons_succ, List.getElem_cons_zero]
        refine wpAnyH_take (i := 20) (v := ?v4_20_20) rfl (by kernel_rfl) (by kernel_rfl) (by kernel_rfl) (fun _ _ _ h => h) (Or.inl ⟨by rfl, ?hy4_20_20⟩) (by assumption) ?rest4_20_20
        case hy4_20_20 => intro w hSw; (try dsimp only at hSw); first | (go_simp; done) | (go_simp; with_reducible rfl)
        try simp only [Act.put, List.setIfInBounds_toArray, List.set_cons_zero, List.set_cons_succ, List.getElem_toArray, List.getElem_cons_succ, List.getElem_cons_zero]
        refine wpAnyH_take (i := 21) (v := ?v4_21_21) rfl (by kernel_rfl) (by kernel_rfl) (by kernel_rfl) (fun _ _ _ h => h) (Or.inl ⟨by rfl, ?hy4_21_21⟩) (by assumption) ?rest4_21_21
        case hy4_21_21 => intro w hSw; (try dsimp only at hSw); first | (go_simp; done) | (go_simp; with_reducible rfl)
        try simp only [Act.put, List.setIfInBounds_toArray, List.set_cons_zero, List.set_cons_succ, List.getElem_toArray, List.getElem_cons_succ, List.getElem_cons_zero]
        refine wpAnyH_take (i := 22) (v := ?v4_22_22) rfl (by kernel_rfl) (by kernel_rfl) (by kernel_rfl) (fun _ _ _ h => h) (Or.inl ⟨by rfl, ?hy4_22_22⟩) (by assumption) ?rest4_22_22
        case hy4_22_22 => intro w hSw; (try dsimp only at hSw); first | (go_simp; done) | (go_simp; with_reducible rfl)
        try simp only [Act.put, List.setIfInBounds_toArray, List.set_cons_zero, List.set_cons_succ, List.getElem_toArray, List.getElem_cons_succ, List.getElem_cons_zero]
        refine wpAnyH_take (i := 23) (v := undef) rfl (by kernel_rfl) (by kernel_rfl) (by kernel_rfl) (fun _ _ _ h => h) (Or.inr ⟨by rfl, rfl⟩) (by assumption) ?rest4_23_23
        try simp only [Act.put, List.setIfInBounds_toArray, List.set_cons_zero, List.set_cons_succ, List.getElem_toArray, List.getElem_cons_succ, List.getElem_cons_zero]
        refine wpAnyH_take (i := 24) (v := undef) rfl (by kernel_rfl) (by kernel_rfl) (by kernel_rfl) (fun _ _ _ h => h) (Or.inr ⟨by rfl, rfl⟩) (by assumption) ?rest4_24_24
        try simp only [Act.put, List.setIfInBounds_toArray, List.set_cons_zero, List.set_cons_succ, List.getElem_toArray, List.getElem_cons_succ, List.getElem_cons_zero]
        refine wpAnyH_take (i := 25) (v := undef) rfl (by kernel_rfl) (by kernel_rfl) (by kernel_rfl) (fun _ _ _ h => h) (Or.inr ⟨by rfl, rfl⟩) (by assumption) ?rest4_25_25
        try simp only [Act.put, List.setIfInBounds_toArray, List.set_cons_zero, List.set_cons_succ, List.getElem_toArray, List.getElem_cons_succ, List.getElem_cons_zero]
        refine wpAnyH_take (i := 26) (v := undef) rfl (by kernel_rfl) (by kernel_rfl) (by kernel_rfl) (fun _ _ _ h => h) (Or.inr ⟨by rfl, rfl⟩) (by assumption) ?rest4_26_26
        try simp only [Act.put, List.setIfInBounds_toArray, List.set_cons_zero, List.set_cons_succ, List.getElem_toArray, List.getElem_cons_succ, List.getElem_cons_zero]
        refine wpAnyH_take (i := 27) (v := ?v4_27_27) rfl (by kernel_rfl) (by kernel_rfl) (by kernel_rfl) (fun _ _ _ h => h) (Or.inl ⟨by rfl, ?hy4_27_27⟩) (by assumption) ?rest4_27_27
        case hy4_27_27 => intro w hSw; (try dsimp only at hSw); first | (go_simp; done) | (go_simp; with_reducible rfl)
        try simp only [Act.put, List.setIfInBounds_toArray, List.set_cons_zero, List.set_cons_succ, List.getElem_toArray, List.getElem_cons_succ, List.getElem_cons_zero]
        refine wpAnyH_take (i := 28) (v := ?v4_28_28) rfl (by kernel_rfl) (by kernel_rfl) (by kernel_rfl) (fun _ _ _ h => h) (Or.inl ⟨by rfl, ?hy4_28_28⟩) (by assumption) ?rest4_28_28
        case hy4_28_28 => intro w hSw; (try dsimp only at hSw); first | (go_simp; done) | (go_simp; with_reducible rfl)
        try simp only [Act.put, List.setIfInBounds_toArray, List.set_cons_zero, List.set_cons_succ, List.getElem_toArray, List.getElem_cons_succ, List.getElem_cons_zero]
        refine wpAnyH_done (by kernel_rfl) ?_ _
        go_wp2_with fail
        go_ret
        exact ⟨ret_bool HR.out.symm, hE.bel⟩
    · have t1 : decide ((n : Int) ≤ 1) = false := decide_eq_false (by omega)
      rw [decide_eq_false h1, Bool.false_and] at hres
      have hE := (Env.start w).blk 40 #[.bool false, .slice A n c, .bool t, .slice B m d] (g := w.heap.size) rfl
      obtain ⟨W0, hW0⟩ : ∃ W0, W0 = w.alloc (.cells #[.bool false, .slice A n c, .bool t, .slice B m d] 40) := ⟨_, rfl⟩
      rw [← hW0] at hE
      have HW0 := Lib.hid hW0
      clear hW0
      have HR := Lib.hid hres
      clear hres
      go_enter Tryz.func43, Tryz.ntmps43
      go_upto_region 1 with (fail)
      rw [← HW0.out]
      replace hE := hE.drew
      refine wp_region_held_drew (S := fun w' => w'.cell? ⟨w.heap.size, 0, none⟩ = some (.bool false) ∧ w'.cell? ⟨w.heap.size, 1, none⟩ = some (.slice A n c) ∧ w'.cell? ⟨w.heap.size, 2, none⟩ = some (.bool t) ∧ w'.cell? ⟨w.heap.size, 3, none⟩ = some (.slice B m d)) (by kernel_rfl) (⟨(hE.here.2).c4.1, (hE.here.2).c4.2.1, (hE.here.2).c4.2.2.1, (hE.here.2).c4.2.2.2⟩) (fun hHeld => ?_)
      refine wpAnyH_take (i := 0) (v := ?v5_0_1) rfl (by kernel_rfl) (by kernel_rfl) (by kernel_rfl) (fun _ _ _ h => h) (Or.inl ⟨by rfl, ?hy5_0_1⟩) (by assumption) ?rest5_0_1
      case hy5_0_1 => intro w hSw; (try dsimp only at hSw); first | (go_simp; done) | (go_simp; with_reducible rfl)
      try simp only [Act.put, List.setIfInBounds_toArray, List.set_cons_zero, List.set_cons_succ, List.getElem_toArray, List.getElem_cons_succ, List.getElem_cons_zero]
      refine wpAnyH_ready (rs := [1]) (by kernel_rfl) (by simp) (AllReadyH.cons rfl (fun K hK => ?_) (AllReadyH.nil))
      go_simp
      refine (fvalid_r false t A B n m c d f g _ (hr.below hE.bel) hn hm _ HV.out).mono ?_
      rintro e w1 ⟨rfl, hb⟩
      replace hE := hE.step hb
      clear hb
      go_wp2_with fail
      refine hK.out _ _ (⟨(hE.here.2).c4.1, (hE.here.2).c4.2.1, (hE.here.2).c4.2.2.1, (hE.here.2).c4.2.2.2⟩) (fun hHeld => ?_)
      clear hK K
      try simp only [Act.put, List.setIfInBounds_toArray, List.set_cons_zero, List.set_cons_succ, List.getElem_toArray, List.getElem_cons_succ, List.getElem_cons_zero]
      refine wpAnyH_take (i := 2) (v := ?v5_2_2) rfl (by kernel_rfl) (by kernel_rfl) (by kernel_rfl) (fun _ _ _ h => h) (Or.inl ⟨by rfl, ?hy5_2_2⟩) (by assumption) ?rest5_2_2
      case hy5_2_2 => intro w hSw; (try dsimp only at hSw); first | (go_simp; done) | (go_simp; with_reducible rfl)
      try simp only [Act.put, List.setIfInBounds_toArray, List.set_cons_zero, List.set_cons_succ, List.getElem_toArray, List.getElem_cons_succ, List.getElem_cons_zero]
      refine wpAnyH_take (i := 3) (v := ?v5_3_3) rfl (by kernel_rfl) (by kernel_rfl) (by kernel_rfl) (fun _ _ _ h => h) (Or.inl ⟨by rfl, ?hy5_3_3⟩) (by assumption) ?rest5_3_3
      case hy5_3_3 => intro w hSw; (try dsimp only at hSw); first | (go_simp; done) | (go_simp; with_reducible rfl)
      try simp only [Act.put, List.setIfInBounds_toArray, List.set_cons_zero, List.set_cons_succ, List.getElem_toArray, List.getElem_cons_succ, List.getElem_cons_zero]
      refine wpAnyH_take (i := 4) (v := ?v5_4_4) rfl (by kernel_rfl) (by kernel_rfl) (by kernel_rfl) (fun _ _ _ h => h) (Or.inl ⟨by rfl, ?hy5_4_4⟩) (by assumption) ?rest5_4_4
      case hy5_4_4 => intro w hSw; (try dsimp only at hSw); first | (go_simp; done) | (go_simp; with_reducible rfl)
      try simp only [Act.put, List.setIfInBounds_toArray, List.set_cons_zero, List.set_cons_succ, List.getElem_toArray, List.getElem_cons_succ, List.getElem_cons_zero]
      refine wpAnyH_take (i := 5) (v := ?v5_5_5) rfl (by kernel_rfl) (by kernel_rfl) (by kernel_rfl) (fun _ _ _ h => h) (Or.inl ⟨by rfl, ?hy5_5_5⟩) (by assumption) ?rest5_5_5
      case hy5_5_5 => intro w hSw; (try dsimp only at hSw); first | (go_simp; done) | (go_simp; with_reducible rfl)
      try simp only [Act.put, List.setIfInBounds_toArray, List.set_cons_zero, List.set_cons_succ, List.getElem_toArray, List.getElem_cons_succ, List.getElem_cons_zero]
      refine wpAnyH_take (i := 6) (v := ?v5_6_6) rfl (by kernel_rfl) (by kernel_rfl) (by kernel_rfl) (fun _ _ _ h => h) (Or.inl ⟨by rfl, ?hy5_6_6⟩) (by assumption) ?rest5_6_6
      case hy5_6_6 => intro w hSw; (try dsimp only at hSw); first | (go_simp; done) | (go_simp; with_reducible rfl)
      try simp only [Act.put, List.setIfInBounds_toArray, List.set_cons_zero, List.set_cons_succ, List.getElem_toArray, List.getElem_cons_succ, List.getElem_cons_zero]
      refine wpAnyH_take (i := 7) (v := ?v5_7_7) rfl (by kernel_rfl) (by kernel_rfl) (by kernel_rfl) (fun _ _ _ h => h) (Or.inl ⟨by rfl, ?hy5_7_7⟩) (by assumption) ?rest5_7_7
      case hy5_7_7 => intro w hSw; (try dsimp only at hSw); first | (go_simp; done) | (go_simp; with_reducible rfl)
      try simp only [Act.put, List.setIfInBounds_toArray, List.set_cons_zero, List.set_cons_succ, List.getElem_toArray, List.getElem_cons_succ, List.getElem_cons_zero]
      refine wpAnyH_take (i := 8) (v := ?v5_8_8) rfl (by kernel_rfl) (by kernel_rfl) (by kernel_rfl) (fun _ _ _ h => h) (Or.inl ⟨by rfl, ?hy5_8_8⟩) (by assumption) ?rest5_8_8
      case hy5_8_8 => intro w hSw; (try dsimp only at hSw); first | (go_simp; done) | (go_simp; with_reducible rfl)
      try simp only [Act.put, List.setIfInBounds_toArray, List.set_cons_zero, List.set_cons_succ, List.getElem_toArray, List.getElem_cons_succ, List.getElem_cons_zero]
      refine wpAnyH_take (i := 9) (v := ?v5_9_9) rfl (by kernel_rfl) (by kernel_rfl) (by kernel_rfl) (fun _ _ _ h => h) (Or.inl ⟨by rfl, ?hy5_9_9⟩) (by assumption) ?rest5_9_9
      case hy5_9_9 => intro w hSw; (try dsimp only at hSw); first | (go_simp; done) | (go_simp; with_reducible rfl)
      try simp only [Act.put, List.setIfInBounds_toArray, List.set_cons_zero, List.set_cons_succ, List.getElem_toArray, List.getElem_cons_succ, List.getElem_cons_zero]
      refine wpAnyH_take (i := 10) (v := ?v5_10_10) rfl (by kernel_rfl) (by kernel_rfl) (by kernel_rfl) (fun _ _ _ h => h) (Or.inl ⟨by rfl, ?hy5_10_10⟩) (by assumption) ?rest5_10_10
      case hy5_10_10 => intro w hSw; (try dsimp only at hSw); first | (go_simp; done) | (go_simp; with_reducible rfl)
      try simp only [Act.put, List.setIfInBounds_toArray, List.set_cons_zero, List.set_cons_succ, List.getElem_toArray, List.getElem_cons_succ, List.getElem_cons_zero]
      refine wpAnyH_take (i := 11) (v := ?v5_11_11) rfl (by kernel_rfl) (by kernel_rfl) (by kernel_rfl) (fun _ _ _ h => h) (Or.inl ⟨by rfl, ?hy5_11_11⟩) (by assumption) ?rest5_11_11
      case hy5_11_11 => intro w hSw; (try dsimp only at hSw); first | (go_simp; done) | (go_simp; with_reducible rfl)
      try simp only [Act.put, List.setIfInBounds_toArray, List.set_cons_zero, List.set_cons_succ, List.getElem_toArray, List.getElem_cons_succ, List.getElem_cons_zero]
      refine wpAnyH_take (i := 12) (v := ?v5_12_12) rfl (by kernel_rfl) (by kernel_rfl) (by kernel_rfl) (fun _ _ _ h => h) (Or.inl ⟨by rfl, ?hy5_12_12⟩) (by assumption) ?rest5_12_12
      case hy5_12_12 => intro w hSw; (try dsimp only at hSw); first | (go_simp; done) | (go_simp; with_reducible rfl)
      try simp only [Act.put, List.setIfInBounds_toArray, List.set_cons_zero, List.set_cons_succ, List.getElem_toArray, List.getElem_cons_succ, List.getElem_cons_zero]
      refine wpAnyH_take (i := 13) (v := ?v5_13_13) rfl (by kernel_rfl) (by kernel_rfl) (by kernel_rfl) (fun _ _ _ h => h) (Or.inl ⟨by rfl, ?hy5_13_13⟩) (by assumption) ?rest5_13_13
      case hy5_13_13 => intro w hSw; (try dsimp only at hSw); first | (go_simp; done) | (go_simp; with_reducible rfl)
      try simp only [Act.put, List.setIfInBounds_toArray, List.set_cons_zero, List.set_cons_succ, List.getElem_toArray, List.getElem_cons_succ, List.getElem_cons_zero]
      refine wpAnyH_take (i := 14) (v := ?v5_14_14) rfl (by kernel_rfl) (by kernel_rfl) (by kernel_rfl) (fun _ _ _ h => h) (Or.inl ⟨by rfl, ?hy5_14_14⟩) (by assumption) ?rest5_14_14
      case hy5_14_14 => intro w hSw; (try dsimp only at hSw); first | (go_simp; done) | (go_simp; with_reducible rfl)
      try simp only [Act.put, List.setIfInBounds_toArray, List.set_cons_zero, List.set_cons_succ, List.getElem_toArray, List.getElem_cons_succ, List.getElem_cons_zero]
      refine wpAnyH_take (i := 15) (v := ?v5_15_15) rfl (by kernel_rfl) (by kernel_rfl) (by kernel_rfl) (fun _ _ _ h => h) (Or.inl ⟨by rfl, ?hy5_15_15⟩) (by assumption) ?rest5_15_15
      case hy5_15_15 => intro w hSw; (try dsimp only at hSw); first | (go_simp; done) | (go_simp; with_reducible rfl)
      try simp only [Act.put, List.setIfInBounds_toArray, List.set_cons_zero, List.set_cons_succ, List.getElem_toArray, List.getElem_cons_succ, List.getElem_cons_zero]
      refine wpAnyH_take (i := 16) (v := undef) rfl (by kernel_rfl) (by kernel_rfl) (by kernel_rfl) (fun _ _ _ h => h) (Or.inr ⟨by rfl, rfl⟩) (by assumption) ?rest5_16_16
      try simp only [Act.put, List.setIfInBounds_toArray, List.set_cons_zero, List.set_cons_succ, List.getElem_toArray, List.getElem_cons_succ, List.getElem_cons_zero]
      refine wpAnyH_take (i := 17) (v := undef) rfl (by kernel_rfl) (by kernel_rfl) (by kernel_rfl) (fun _ _ _ h => h) (Or.inr ⟨by rfl, rfl⟩) (by assumption) ?rest5_17_17
      try simp only [Act.put, List.setIfInBounds_toArray, List.set_cons_zero, List.set_cons_succ, List.getElem_toArray, List.getElem_cons_succ, List.getElem_cons_zero]
      refine wpAnyH_take (i := 18) (v := undef) rfl (by kernel_rfl) (by kernel_rfl) (by kernel_rfl) (fun _ _ _ h => h) (Or.inr ⟨by rfl, rfl⟩) (by assumption) ?rest5_18_18
      try simp only [Act.put, List.setIfInBounds_toArray, List.set_cons_zero, List.set_cons_succ, List.getElem_toArray, List.getElem_cons_succ, List.getElem_cons_zero]
      refine wpAnyH_take (i := 19) (v := undef) rfl (by kernel_rfl) (by kernel_rfl) (by kernel_rfl) (fun _ _ _ h => h) (Or.inr ⟨by rfl, rfl⟩) (by assumption) ?rest5_19_19
      try simp only [Act.put, List.setIfInBounds_toArray, List.set_cons_zero, List.set_cons_succ, List.getElem_toArray, List.getElem_cons_succ, List.getElem_cons_zero]
      refine wpAnyH_take (i := 20) (v := undef) rfl (by kernel_rfl) (by kernel_rfl) (by kernel_rfl) (fun _ _ _ h => h) (Or.inr ⟨by rfl, rfl⟩) (by assumption) ?rest5_20_20
      try simp only [Act.put, List.setIfInBounds_toArray, List.set_cons_zero, List.set_cons_succ, List.getElem_toArray, List.getElem_cons_succ, List.getElem_cons_zero]
      refine wpAnyH_take (i := 21) (v := ?v5_21_21) rfl (by kernel_rfl) (by kernel_rfl) (by kernel_rfl) (fun _ _ _ h => h) (Or.inl ⟨by rfl, ?hy5_21_21⟩) (by assumption) ?rest5_21_21
      case hy5_21_21 => intro w hSw; (try dsimp only at hSw); first | (go_simp; done) | (go_simp; with_reducible rfl)
      try simp only [Act.put, List.setIfInBounds_toArray, List.set_cons_zero, List.set_cons_succ, List.getElem_toArray, List.getElem_cons_succ, List.getElem_cons_zero]
      refine wpAnyH_take (i := 22) (v := ?v5_22_22) rfl (by kernel_rfl) (by kernel_rfl) (by kernel_rfl) (fun _ _ _ h => h) (Or.inl ⟨by rfl, ?hy5_22_22⟩) (by assumption) ?rest5_22_22
      case hy5_22_22 => intro w hSw; (try dsimp only at hSw); first | (go_simp; done) | (go_simp; with_reducible rfl)
      try simp only [Act.put, List.setIfInBounds_toArray, List.set_cons_zero, List.set_cons_succ, List.getElem_toArray, List.getElem_cons_succ, List.getElem_cons_zero]
      refine wpAnyH_take (i := 23) (v := undef) rfl (by kernel_rfl) (by kernel_rfl) (by kernel_rfl) (fun _ _ _ h => h) (Or.inr ⟨by rfl, rfl⟩) (by assumption) ?rest5_23_23
      try simp only [Act.put, List.setIfInBounds_toArray, List.set_cons_zero, List.set_cons_succ, List.getElem_toArray, List.getElem_cons_succ, List.getElem_cons_zero]
      refine wpAnyH_take (i := 24) (v := undef) rfl (by kernel_rfl) (by kernel_rfl) (by kernel_rfl) (fun _ _ _ h => h) (Or.inr ⟨by rfl, rfl⟩) (by assumption) ?rest5_24_24
      try simp only [Act.put, List.setIfInBounds_toArray, List.set_cons_zero, List.set_cons_succ, List.getElem_toArray, List.getElem_cons_succ, List.getElem_cons_zero]
      refine wpAnyH_take (i := 25) (v := undef) rfl (by kernel_rfl) (by kernel_rfl) (by kernel_rfl) (fun _ _ _ h => h) (Or.inr ⟨by rfl, rfl⟩) (by assumption) ?rest5_25_25
      try simp only [Act.put, List.setIfInBounds_toArray, List.set_cons_zero, List.set_cons_succ, List.getElem_toArray, List.getElem_cons_succ, List.getElem_cons_zero]
      refine wpAnyH_take (i := 26) (v := undef) rfl (by kernel_rfl) (by kernel_rfl) (by kernel_rfl) (fun _ _ _ h => h) (Or.inr ⟨by rfl, rfl⟩) (by assumption) ?rest5_26_26
      try simp only [Act.put, List.setIfInBounds_toArray, List.set_cons_zero, List.set_cons_succ, List.getElem_toArray, List.getElem_cons_succ, List.getElem_cons_zero]
      refine wpAnyH_take (i := 27) (v := ?v5_27_27) rfl (by kernel_rfl) (by kernel_rfl) (by kernel_rfl) (fun _ _ _ h => h) (Or.inl ⟨by rfl, ?hy5_27_27⟩) (by assumption) ?rest5_27_27
      case hy5_27_27 => intro w hSw; (try dsimp only at hSw); first | (go_simp; done) | (go_simp; with_reducible rfl)
      try simp only [Act.put, List.setIfInBounds_toArray, List.set_cons_zero, List.set_cons_succ, List.getElem_toArray, List.getElem_cons_succ, List.getElem_cons_zero]
      refine wpAnyH_take (i := 28) (v := ?v5_28_28) rfl (by kernel_rfl) (by kernel_rfl) (by kernel_rfl) (fun _ _ _ h => h) (Or.inl ⟨by rfl, ?hy5_28_28⟩) (by assumption) ?rest5_28_28
      case hy5_28_28 => intro w hSw; (try dsimp only at hSw); first | (go_simp; done) | (go_simp; with_reducible rfl)
      try simp only [Act.put, List.setIfInBounds_toArray, List.set_cons_zero, List.set_cons_succ, List.getElem_toArray, List.getElem_cons_succ, List.getElem_cons_zero]
      refine wpAnyH_done (by kernel_rfl) ?_ _
      go_wp2_with fail
      go_ret
      exact ⟨ret_bool HR.out.symm, hE.bel⟩
end Go.Proofs.YtgkepllfdhcdpaaGreat
namespace Go.Proofs.YtgkepllfdhcdpaaGreat
open Go.RowKit

/-- A fraction as it lies in memory: signs, slices of limbs, and the limbs. -/
structure FH where
  s : Bool
  A : Option Addr
  n : Nat
  c : Nat
  f : Nat → Nat
  t : Bool
  B : Option Addr
  m : Nat
  d : Nat
  g : Nat → Nat
/-- A row of fractions as it lies in memory. -/
structure RH where
  A : Option Addr
  n : Nat
  c : Nat
  h : Nat → FH
def FH.q (h : FH) : Rat := qOf h.s h.n h.f h.m h.g
def FH.isRate (h : FH) : Bool := rateB h.s h.n h.f h.t h.m h.g
def FH.cells (h : FH) (w : World) (b o : Nat) : Prop := w.cell? ⟨b, o, none⟩ = some (.bool h.s) ∧ w.cell? ⟨b, o + 1, none⟩ = some (.slice h.A h.n h.c) ∧ w.cell? ⟨b, o + 2, none⟩ = some (.bool h.t) ∧ w.cell? ⟨b, o + 3, none⟩ = some (.slice h.B h.m h.d)
def FH.rd (h : FH) (w : World) : Prop := FRd w h.A h.n h.f h.B h.m h.g
def RowM (w : World) (R : RH) : Prop := 0 < R.n → ∃ b o, R.A = some ⟨b, o, none⟩ ∧ b < w.heap.size ∧ ∀ k, k < R.n → (R.h k).cells w b (o + k * 4) ∧ (R.h k).rd w
/-- A slice of rows as it lies in memory. -/
def TabM (w : World) (A : Option Addr) (n : Nat) (r : Nat → RH) : Prop := 0 < n → ∃ b o, A = some ⟨b, o, none⟩ ∧ b < w.heap.size ∧ ∀ i, i < n → w.cell? ⟨b, o + i, none⟩ = some (.slice (r i).A (r i).n (r i).c) ∧ RowM w (r i)
theorem FH.cells_below {h : FH} {w w' : World} {b o : Nat} (hc : h.cells w b o) (hb : Below w.heap.size w w') (hlt : b < w.heap.size) : h.cells w' b o :=
  ⟨(hb.cell (p := ⟨b, o, none⟩) hlt).trans hc.1, (hb.cell (p := ⟨b, o + 1, none⟩) hlt).trans hc.2.1, (hb.cell (p := ⟨b, o + 2, none⟩) hlt).trans hc.2.2.1, (hb.cell (p := ⟨b, o + 3, none⟩) hlt).trans hc.2.2.2⟩
theorem RowM.below {R : RH} {w w' : World} (h : RowM w R) (hb : Below w.heap.size w w') : RowM w' R := fun h0 => by
  obtain ⟨b, o, e, hlt, hc⟩ := h h0
  exact ⟨b, o, e, Nat.lt_of_lt_of_le hlt hb.size, fun k hk => ⟨FH.cells_below (hc k hk).1 hb hlt, FRd.below (hc k hk).2 hb⟩⟩
theorem TabM.below {A : Option Addr} {n : Nat} {r : Nat → RH} {w w' : World} (h : TabM w A n r) (hb : Below w.heap.size w w') : TabM w' A n r := fun h0 => by
  obtain ⟨b, o, e, hlt, hc⟩ := h h0
  exact ⟨b, o, e, Nat.lt_of_lt_of_le hlt hb.size, fun i hi => ⟨(hb.cell (p := ⟨b, o + i, none⟩) hlt).trans (hc i hi).1, (hc i hi).2.below hb⟩⟩
theorem TabM.stable (A : Option Addr) (n : Nat) (r : Nat → RH) : Stable (fun W => TabM W A n r) := fun _ _ hb h => h.below hb
/-- Lengths that are no obstacle. -/
def TabB (n : Nat) (r : Nat → RH) : Prop := n ≤ 1000000 ∧ ∀ i, i < n → (r i).n ≤ 1000000 ∧ ∀ k, k < (r i).n → ((r i).h k).n ≤ 1000000 ∧ ((r i).h k).m ≤ 1000000
/-- What life.Valid says of a row. -/
def RowOK (S : Nat) (R : RH) : Prop := R.n = S + 1 ∧ ∀ k, k < R.n → (R.h k).isRate = true
/-- What life.Valid says of a table. -/
def TOK (F S : Int) (n : Nat) (r : Nat → RH) : Prop :=
  ((0 ≤ F ∧ F ≤ 150) ∧ (0 ≤ S ∧ S ≤ 5)) ∧ (1 ≤ n ∧ n ≤ 111) ∧ (∀ i, i < n → RowOK S.toNat (r i)) ∧ ((r (n - 1)).h S.toNat).q = 1
theorem isRate_ok {h : FH} (hr : h.isRate = true) : okF h.s h.n h.f h.t h.m h.g = true := by
  unfold FH.isRate rateB at hr
  exact (Bool.and_eq_true_iff.1 hr).1
/-- The call said whether P holds. -/
def BoolIff (P : Prop) (w : World) (e : Ending) (w' : World) : Prop := ∃ v, e = .returned (.bool v) ∧ (v = true ↔ P) ∧ Below w.heap.size w w'
/-- A cell that stays. -/
def At (b o : Nat) (v : Value) (V : World) : Prop := b < V.heap.size ∧ V.cell? ⟨b, o, none⟩ = some v
theorem At.stable (b o : Nat) (v : Value) : Stable (At b o v) := fun _ _ hb h => ⟨Nat.lt_of_lt_of_le h.1 hb.size, (hb.cell (p := ⟨b, o, none⟩) h.1).trans h.2⟩
theorem Env.at_ {w W : World} {P : World → Prop} {b o : Nat} {v : Value} (h : Env w P W) (hb : b < W.heap.size) (hc : W.cell? ⟨b, o, none⟩ = some v) : Env w (fun V => P V ∧ At b o v V) W := h.and (At.stable b o v) ⟨hb, hc⟩
theorem no_iff {P : Prop} (h : ¬ P) : (false = true ↔ P) := ⟨fun e => (Bool.false_ne_true e).elim, fun p => absurd p h⟩
theorem yes_iff {P : Prop} (h : P) : (true = true ↔ P) := ⟨fun _ => h, fun _ => rfl⟩
theorem TabM.row {A : Option Addr} {n i : Nat} {r : Nat → RH} {w : World} (h : TabM w A n r) (hi : i < n) : RowM w (r i) := by
  obtain ⟨b, o, _, _, hc⟩ := h (by omega)
  exact (hc i hi).2
theorem FH.fv {h : FH} {w : World} (hr : h.isRate = true) (hd : h.rd w) : FV w h.q h.s h.A h.n h.t h.B h.m ∧ fl h.q ≤ 256 := by
  have := okF_q hd (isRate_ok hr)
  exact ⟨this.1, this.2.2.2⟩
set_option linter.unusedSimpArgs false in
set_option maxRecDepth 100000 in
set_option maxHeartbeats 4000000 in
theorem lvalid_any (F S : Int) (A : Option Addr) (n c : Nat) (r : Nat → RH) (w : World) (hT : TabM w A n r) (hB : TabB n r) :
    Calls Tryz.prog 14 #[.agg #[.int .i64 F, .int .i64 S, .slice A n c]] w (BoolIff (TOK F S n r) w) := by
  have hE := ((Env.start w).and (TabM.stable A n r) hT).blk 24 #[.int .i64 F, .int .i64 S, .slice A n c] (g := w.heap.size) rfl
  obtain ⟨W0, hW0⟩ : ∃ W0, W0 = w.alloc (.cells #[.int .i64 F, .int .i64 S, .slice A n c] 24) := ⟨_, rfl⟩
  rw [← hW0] at hE
  have HW0 := Lib.hid hW0
  clear hW0
  go_enter Tryz.func14, Tryz.ntmps14
  go_upto_region 1 with (fail)
  rw [← HW0.out]
  obtain ⟨k1, k2, k3⟩ := hE.here.2.c3
  by_cases hF : (0 ≤ F ∧ F ≤ 150) ∧ (0 ≤ S ∧ S ≤ 5)
  · obtain ⟨⟨f1, f2⟩, f3, f4⟩ := hF
    have t1 : decide (F < 0) = false := decide_eq_false (by omega)
    have t2 : decide (150 < F) = false := decide_eq_false (by omega)
    have t3 : decide (S < 0) = false := decide_eq_false (by omega)
    have t4 : decide (5 < S) = false := decide_eq_false (by omega)
    go_upto_region 3 with (fail)
    by_cases hn : 1 ≤ n ∧ n ≤ 111
    · obtain ⟨n1, n2⟩ := hn
      have t5 : decide ((n : Int) < 1) = false := decide_eq_false (by omega)
      have t6 : decide ((111 : Int) < (n : Int)) = false := decide_eq_false (by omega)
      clear t1 t2 t3 t4
      go_wp2_with fail
      clear t5 t6
      clear k1 k2 k3
      obtain ⟨b, o, rfl, hblt, -⟩ := hE.here.1.2 (by omega)
      go_loopw [38] (fun x wr => ∃ i : Nat, i ≤ n ∧ x = .int .i64 (i : Int) ∧ Hid (∀ j, j < i → RowOK S.toNat (r j)) ∧ Env w (fun V => (True ∧ TabM V (some ⟨b, o, none⟩) n r) ∧ Blk 24 w.heap.size #[.int .i64 F, .int .i64 S, .slice (some ⟨b, o, none⟩) n c] V) wr) (fun x _ => n - (intOf x).toNat)
      case atStart => exact ⟨0, Nat.zero_le _, rfl, Lib.hid (fun j hj => absurd hj (by omega)), hE⟩
      case round =>
        clear hE
        obtain ⟨i, hi, rfl, HI, hE⟩ := hrel
        by_cases hlt : i < n
        · obtain ⟨b', o', e', -, hc⟩ := hE.here.1.2 (by omega)
          injection e' with e'
          injection e' with e1 e2 e3
          subst e1 e2
          obtain ⟨c0, -⟩ := hc i hlt
          have hbl := hB.2 i hlt
          obtain ⟨R, hR⟩ : ∃ R, R = r i := ⟨_, rfl⟩
          rw [← hR] at c0 hbl
          obtain ⟨Ai, ni, ci, hh⟩ := R
          dsimp only at c0 hbl
          have HR := Lib.hid hR
          clear hR hc e3
          have t1 : decide ((i : Int) < (n : Int)) = true := decide_eq_true (by omega)
          have t2 : (i : Int) < (n : Int) := by omega
          have o1 : IntKind.i64.wrap (S + 1) = S + 1 := by rw [IntKind.wrap_i64]; omega
          obtain ⟨k1, k2, k3⟩ := hE.here.2.c3
          by_cases hl : ni = S.toNat + 1
          · have t7 : ((ni : Int) != S + 1) = false := by rw [bne_eq_false_iff_eq]; omega
            have HL := Lib.hid hl
            clear hl
            go_wp2_with fail
            clear k1 k2 k3 c0 t1 t2 t7 o1
            go_loopw [50] (fun x wr => ∃ k : Nat, k ≤ ni ∧ x = .int .i64 (k : Int) ∧ Hid (∀ j, j < k → (hh j).isRate = true) ∧ Env w (fun V => (True ∧ TabM V (some ⟨b, o, none⟩) n r) ∧ Blk 24 w.heap.size #[.int .i64 F, .int .i64 S, .slice (some ⟨b, o, none⟩) n c] V) wr) (fun x _ => ni - (intOf x).toNat)
            case atStart => exact ⟨0, Nat.zero_le _, rfl, Lib.hid (fun j hj => absurd hj (by omega)), hE⟩
            case round =>
              clear hE
              obtain ⟨k, hk, rfl, HK, hE⟩ := hrel
              by_cases hkt : k < ni
              · have hrow := hE.here.1.2.row hlt
                rw [← HR.out] at hrow
                obtain ⟨b2, o2, e2, hb2, hc2⟩ := hrow (show 0 < ni by omega)
                dsimp only at e2
                subst e2
                obtain ⟨hcl, hrd⟩ := hc2 k hkt
                obtain ⟨hb3, hb4⟩ := hbl.2 k hkt
                dsimp only at hcl hrd
                obtain ⟨H, hH⟩ : ∃ H, H = hh k := ⟨_, rfl⟩
                rw [← hH] at hcl hrd hb3 hb4
                have HH := Lib.hid hH
                clear hH hc2
                obtain ⟨hs, hA, hn, hc, hf, ht, hD, hm, hd, hg⟩ := H
                obtain ⟨d0, d1, d2, d3⟩ := hcl
                unfold FH.rd at hrd
                dsimp only at d0 d1 d2 d3 hrd hb3 hb4
                obtain ⟨v, hv⟩ : ∃ v, rateB hs hn hf ht hm hg = v := ⟨_, rfl⟩
                have HV := Lib.hid hv
                clear hv
                have t1 : decide ((k : Int) < (ni : Int)) = true := decide_eq_true (by omega)
                have t2 : (k : Int) < (ni : Int) := by omega
                go_wp2_with fail
                refine (isRate_r hs ht hA hD hn hm hc hd hf hg _ (FRd.below hrd (belAlloc wr _)) hb3 hb4 v HV.out).mono ?_
                rintro e w3 ⟨rfl, hb⟩
                have hE3 := (hE.alloc _).step hb
                clear hE hb d0 d1 d2 d3 hrd t1 t2
                cases v with
                | true =>
                  go_wp2_with fail
                  go_roundw
                  case rel =>
                    refine ⟨k + 1, by omega, by go_num, Lib.hid (fun j hj => ?_), hE3⟩
                    rcases Nat.lt_or_ge j k with h | h
                    · exact HK.out j h
                    · obtain rfl : j = k := by omega
                      rw [← HH.out]
                      exact HV.out
                  case measure => simp [intOf]; omega
                | false =>
                  have hno : ¬ TOK F S n r := fun h => by
                    have h1 := (h.2.2.1 i hlt).2
                    rw [← HR.out] at h1
                    have h2 := h1 k hkt
                    dsimp only at h2
                    rw [← HH.out] at h2
                    exact absurd (h2.symm.trans HV.out) (by decide)
                  have HN := Lib.hid hno
                  clear hno
                  go_wp2_with fail
                  go_ret
                  exact ⟨false, rfl, no_iff HN.out, hE3.bel⟩
              · obtain rfl : k = ni := by omega
                go_wp2_with fail
                go_roundw
                case rel =>
                  refine ⟨i + 1, by omega, by go_num, Lib.hid (fun j hj => ?_), hE⟩
                  rcases Nat.lt_or_ge j i with h | h
                  · exact HI.out j h
                  · obtain rfl : j = i := by omega
                    rw [← HR.out]
                    exact ⟨HL.out, HK.out⟩
                case measure => simp [intOf]; omega
          · have t7 : ((ni : Int) != S + 1) = true := by rw [bne_iff_ne]; omega
            have hno : ¬ TOK F S n r := fun h => by
              have h1 := (h.2.2.1 i hlt).1
              rw [← HR.out] at h1
              exact hl h1
            have HN := Lib.hid hno
            clear hno hl
            go_wp2_with fail
            go_ret
            exact ⟨false, rfl, no_iff HN.out, hE.bel⟩
        · obtain rfl : i = n := by omega
          have hrow := hE.here.1.2.row (show i - 1 < i by omega)
          obtain ⟨b', o', e', hblt2, hc⟩ := hE.here.1.2 (by omega)
          injection e' with e'
          injection e' with e1 e2 e3
          subst e1 e2
          obtain ⟨c0, -⟩ := hc (i - 1) (by omega)
          obtain ⟨hl1, hl2⟩ := HI.out (i - 1) (by omega)
          obtain ⟨b2, o2, e2, hb2, hc2⟩ := hrow (by omega)
          obtain ⟨hcl, hrd⟩ := hc2 S.toNat (by omega)
          obtain ⟨hfv, hfl⟩ := FH.fv (hl2 S.toNat (by omega)) hrd
          rw [e2] at c0
          have hbl := (hB.2 (i - 1) (by omega)).2 S.toNat (by omega)
          have hTI : TOK F S i r ↔ ((r (i - 1)).h S.toNat).q = 1 := ⟨fun h => h.2.2.2, fun h => ⟨⟨⟨f1, f2⟩, f3, f4⟩, ⟨n1, n2⟩, HI.out, h⟩⟩
          have HTI := Lib.hid hTI
          obtain ⟨H, hH⟩ : ∃ H, H = (r (i - 1)).h S.toNat := ⟨_, rfl⟩
          rw [← hH] at hcl hfv hfl hbl HTI
          obtain ⟨nl, hnl⟩ : ∃ x, x = (r (i - 1)).n := ⟨_, rfl⟩
          rw [← hnl] at c0 hl1
          obtain ⟨cl, hcl2⟩ : ∃ x, x = (r (i - 1)).c := ⟨_, rfl⟩
          rw [← hcl2] at c0
          have hblw : b < wr.heap.size := hblt2
          clear hH hnl hcl2 hTI hc2 hc e3 e2 hrow hl2 HI hrd
          obtain ⟨Q, hQ⟩ : ∃ Q, Q = H.q := ⟨_, rfl⟩
          rw [← hQ] at hfv hfl HTI
          clear hQ
          obtain ⟨hs, hA, hn, hc, hf, ht, hD, hm, hd, hg⟩ := H
          obtain ⟨d0, d1, d2, d3⟩ := hcl
          dsimp only at d0 d1 d2 d3 hbl hfv
          obtain ⟨k1, k2, k3⟩ := hE.here.2.c3
          have hE := hE.fv hfv
          have hb3 : b2 < wr.heap.size := hb2
          have e1 : ((i : Int) - 1).toNat = i - 1 := by omega
          have i1 : (0 : Int) ≤ (i : Int) - 1 := by omega
          have i2 : (i : Int) - 1 < (i : Int) := by omega
          have o1 : IntKind.i64.wrap ((i : Int) - 1) = (i : Int) - 1 := by rw [IntKind.wrap_i64]; omega
          have i3 : S < (nl : Int) := by omega
          have i4 : (1 : Int) ≤ (i : Int) := by omega
          have i5 : 1 ≤ i := by omega
          have t1 : decide ((i : Int) < (i : Int)) = false := decide_eq_false (by omega)
          obtain ⟨v, hv⟩ : ∃ v, v = decide (Q = 1) := ⟨_, rfl⟩
          have HV := Lib.hid hv
          clear hv hl1 hfv
          replace hE := ((((((hE.at_ hblw c0).at_ hb3 d0).at_ hb3 d1).at_ hb3 d2).at_ hb3 d3).at_ hE.here.1.2.lt k2).at_ hE.here.1.2.lt k3
          clear c0 d0 d1 d2 d3 k1 k2 k3
          go_upto_region 17 with (fail)
          replace hE := hE.drew
          go_region_held3 (fun w' => w'.cell? ⟨b, o + (i - 1), none⟩ = some (.slice (some ⟨b2, o2, none⟩) nl cl) ∧ w'.cell? ⟨b2, o2 + S.toNat * 4, none⟩ = some (.bool hs) ∧ w'.cell? ⟨b2, o2 + S.toNat * 4 + 1, none⟩ = some (.slice hA hn hc) ∧ w'.cell? ⟨b2, o2 + S.toNat * 4 + 2, none⟩ = some (.bool ht) ∧ w'.cell? ⟨b2, o2 + S.toNat * 4 + 3, none⟩ = some (.slice hD hm hd) ∧ w'.cell? ⟨w.heap.size, 1, none⟩ = some (.int .i64 S) ∧ w'.cell? ⟨w.heap.size, 2, none⟩ = some (.slice (some ⟨b, o, none⟩) i c))
            (first | exact ⟨hE.here.1.1.1.1.1.1.2.2, hE.here.1.1.1.1.1.2.2, hE.here.1.1.1.1.2.2, hE.here.1.1.1.2.2, hE.here.1.1.2.2, hE.here.1.2.2, hE.here.2.2⟩ | exact ⟨hE.here.1.1.1.1.1.1.1.2.2, hE.here.1.1.1.1.1.1.2.2, hE.here.1.1.1.1.1.2.2, hE.here.1.1.1.1.2.2, hE.here.1.1.1.2.2, hE.here.1.1.2.2, hE.here.1.2.2⟩)
            (first
              | (go_at_call 32; refine (ffromInt_v 1 _ (by decide) (by decide)).mono ?_; rintro e w3 ⟨sp, Ap, np, cp, tp, Bp, mp, dp, rfl, hp, hb⟩; have hpl := hp.ln fl_one; replace hE := (hE.step hb).fv hp; clear hb hp)
              | (go_at_call 44; have hq := fsame_v (ca := hc) (da := hd) (cb := cp) (db := dp) hE.here.1.1.1.1.1.1.1.1.2 hE.here.2 hbl.1 hbl.2 (by omega) (by omega); rw [show (((1 : Int) : Rat)) = 1 from rfl, ← HV.out] at hq; refine hq.mono ?_; clear hq; rintro e w4 ⟨rfl, hb⟩; replace hE := hE.step hb; clear hb))
          go_wp2_with fail
          go_ret
          exact ⟨v, rfl, by rw [HV.out, decide_eq_true_iff]; exact HTI.out.symm, hE.bel⟩
    · have hno : ¬ TOK F S n r := fun h => hn h.2.1
      have HN := Lib.hid hno
      clear hno t1 t2 t3 t4
      by_cases hn1 : (n : Int) < 1
      · have t5 : decide ((n : Int) < 1) = true := decide_eq_true hn1
        clear hn1 hn
        go_wp2_with fail
        go_ret
        exact ⟨false, rfl, no_iff HN.out, hE.bel⟩
      · have t5 : decide ((n : Int) < 1) = false := decide_eq_false hn1
        have t6 : decide ((111 : Int) < (n : Int)) = true := decide_eq_true (by omega)
        clear hn
        go_wp2_with fail
        go_ret
        exact ⟨false, rfl, no_iff HN.out, hE.bel⟩
  · have hno : ¬ TOK F S n r := fun h => hF h.1
    have HN := Lib.hid hno
    clear hno
    by_cases e1 : F < 0
    · have t1 := decide_eq_true e1
      clear e1 hF
      go_wp2_with fail
      go_ret
      exact ⟨false, rfl, no_iff HN.out, hE.bel⟩
    · have t1 := decide_eq_false e1
      by_cases e2 : 150 < F
      · have t2 := decide_eq_true e2
        clear e1 e2 hF
        go_wp2_with fail
        go_ret
        exact ⟨false, rfl, no_iff HN.out, hE.bel⟩
      · have t2 := decide_eq_false e2
        by_cases e3 : S < 0
        · have t3 := decide_eq_true e3
          clear e1 e2 e3 hF
          go_wp2_with fail
          go_ret
          exact ⟨false, rfl, no_iff HN.out, hE.bel⟩
        · have t3 := decide_eq_false e3
          have t4 : decide (5 < S) = true := decide_eq_true (by omega)
          clear e1 e2 e3 hF
          go_wp2_with fail
          go_ret
          exact ⟨false, rfl, no_iff HN.out, hE.bel⟩
end Go.Proofs.YtgkepllfdhcdpaaGreat
