/-
  Sorting indexed claims: insertionSortCmpFunc, stableCmpFunc, SortStableFunc.
-/
import Derived.Test.YtjgihmmeimfheaaGreatK3
import Derived.Test.YtjgihmmeimfheaaGreatSV0
import Derived.Test.YtjgihmmeimfheaaGreatSvS
namespace Go.Proofs.YtjgihmmeimfheaaGreat
open Go.RowKit

theorem ix_desc : ∃ d, Tryz.prog.underlying 76 = some d ∧ d.isRow = true := ⟨_, Tryz.underlying76, rfl⟩
theorem ix_size : (Tryz.prog.info? 76).map (·.size) = some 11 := by kernel_rfl
section
variable {w W : World} {g n cap : Nat} {e : Nat → List Value}
theorem ix_load (h : Rw 76 11 g n cap e W) {k o : Nat} (hk : k < n) (hl : (e k).length = 11) (ho : o = k * 11) : (Instr.loadAt 76 (.pointer (some ⟨g, o, none⟩))).run Tryz.prog W = .ok (.agg (e k).toArray) W := by
 subst ho
 obtain ⟨d, h1, h2⟩ := ix_desc
 exact run_loadAt_mid W g (k * 11) _ (e k) d (h.range hk hl) h1 h2 (by rw [hl]; exact ix_size)
theorem ix_store (h : Rw 76 11 g n cap e W) {k o : Nat} (hk : k < n) (x : List Value) (hl : x.length = 11) (h1 : ∀ v ∈ x, v.oneCell' = true) (ho : o = k * 11) : (Instr.storeAt 76 (.pointer (some ⟨g, o, none⟩)) (.agg x.toArray)).run Tryz.prog W = .ok () (W.setCells g (k * 11) x) := by
 subst ho
 have ht := h.there hk
 exact run_storeAt_mid (P := Tryz.prog) W g (k * 11) _ x.toArray (by rw [List.size_toArray, hl]; exact ht) (by rw [List.size_toArray, hl]; exact ix_size) (all_oneCell_toArray h1)
end
theorem st_stepP {P : Program} {w w' : World} {o : Oper} {a : Act} {K : Act → World → Prop} {Q : Exit → Act → World → Prop} {ty : TypeId} {x y : Operand} {p v : Value} (hr : (Instr.storeAt ty p v).run P w = .ok () w') (ho : o.op = .store ty x y) (hx : a.eval x = p) (hy : a.eval y = v) (h : K (a.put o.dst undef) w') : o.wp P a w K Q := by
 unfold Oper.wp execOp
 simp only [ho, hx, hy, Sem.run_bind, Sem.run_pure, Result.andThen_ok, hr]
 exact h
theorem ld_stepP {P : Program} {w : World} {o : Oper} {a : Act} {K : Act → World → Prop} {Q : Exit → Act → World → Prop} {ty : TypeId} {x : Operand} {p v : Value} (hr : (Instr.loadAt ty p).run P w = .ok v w) (ho : o.op = .load ty x) (hx : a.eval x = p) (h : K (a.put o.dst v) w) : o.wp P a w K Q := by
 unfold Oper.wp execOp
 simp only [ho, hx, Sem.run_bind, Sem.run_pure, Result.andThen_ok, hr]
 exact h
/-- What a comparison of elements is asked: by their keys. -/
def CmpK (gf : Nat) (n : Nat) (E : Nat → List Value) (κ : Nat → Rat) (V : World) : Prop := ∀ a b, a < n → b < n → Calls Tryz.prog gf #[.agg (E a).toArray, .agg (E b).toArray] V fun e V' => ∃ z : Int, e = .returned (.int .i64 z) ∧ (z < 0 ↔ κ a < κ b) ∧ Below V.heap.size V V'
/-- The elements' cells. -/
def IxE (n : Nat) (E : Nat → List Value) : Prop := ∀ k, k < n → (E k).length = 11 ∧ ∀ v ∈ E k, noLimb v = true ∧ v.oneCell' = true
theorem swap_row {n q j : Nat} {p : Nat → Nat} {E : Nat → List Value} (hj : j = q + 1) : ∀ k, k < n → updE (updE (fun k => E (p k)) j (E (p q))) q (E (p j)) k = E (swp p j k) := fun k _ => by
 have hq : j - 1 = q := by omega
 unfold updE swp
 rw [hq]
 by_cases h1 : k = q
 · rw [if_pos h1, if_neg (by omega), if_pos h1]
 ·
  rw [if_neg h1]
  by_cases h2 : k = j
  · rw [if_pos h2, if_pos h2]
  · rw [if_neg h2, if_neg h2, if_neg h1]
set_option linter.unusedSimpArgs false in
set_option maxRecDepth 100000 in
set_option maxHeartbeats 4000000 in
theorem sins_v {w u : World} {g n cap gf : Nat} {E : Nat → List Value} {κ : Nat → Rat} (hbu : Below w.heap.size w u) (hg : w.heap.size ≤ g) (hR : Rw 76 11 g n cap E u) (hX : IxE n E) (hn9 : n ≤ 1000) (eg : ∀ args W, (callFunc gf args).run Tryz.prog W = .ok (.enter gf args) W) (hcmp : ∀ V, Kept u g V → CmpK gf n E κ V) :
  Calls Tryz.prog 143 #[.slice (some ⟨g, 0, none⟩) n cap, .int .i64 0, .int .i64 (n : Int), .func (.func gf) #[] #[]] u (fun e w' => (∃ v, e = .returned v) ∧ ∃ p, Srd n κ n p ∧ Rw 76 11 g n cap (fun k => E (p k)) w' ∧ Kept u g w') := by
 have hE := ((Env.again hbu).rwr hR).kept (Kept.refl u g)
 have Hhcmp := Lib.hid hcmp
 clear hcmp
 have HhX := Lib.hid hX
 clear hX
 clear hR
 have heg := hg
 go_enter Tryz.func143, Tryz.ntmps143
 go_wp2_with fail
 go_loopw [8] (fun x wr => ∃ (i : Nat) (p : Nat → Nat), x = .int .i64 (i : Int) ∧ Hid (Srd n κ i p) ∧ Env w (fun V => ((True ∧ Rw 76 11 g n cap (fun k => E (p k)) V) ∧ Kept u g V)) wr) (fun x _ => n - (intOf x).toNat)
 case atStart => exact ⟨1, fun k => k, by simp, Lib.hid (Srd.start n κ), hE⟩
 case round =>
  clear hE
  obtain ⟨i, p, rfl, HS, hE⟩ := hrel
  by_cases hlt : i < n
  rotate_left
  ·
   have t1 : decide ((i : Int) < (n : Int)) = false := decide_eq_false (by omega)
   go_wp2_with fail
   go_end0
   exact ⟨⟨_, rfl⟩, p, HS.out.full (by omega), hE.here.1.2, hE.here.2⟩
  have t1 : decide ((i : Int) < (n : Int)) = true := decide_eq_true (by omega)
  go_wp2_with fail
  clear t1
  go_loopw [9] (fun x wr => ∃ (j : Nat) (p : Nat → Nat), j ≤ i ∧ x = .int .i64 (j : Int) ∧ Hid (Ins n κ i j p) ∧ Env w (fun V => ((True ∧ Rw 76 11 g n cap (fun k => E (p k)) V) ∧ Kept u g V)) wr) (fun x _ => (intOf x).toNat)
  case atStart => exact ⟨i, p, Nat.le_refl _, rfl, Lib.hid (HS.out.ins hlt), hE⟩
  case round =>
   clear hE HS p
   obtain ⟨j, p, hj, rfl, HI, hE⟩ := hrel
   by_cases h0 : j = 0
   ·
    have u0 : decide (0 < j) = false := decide_eq_false (by omega)
    have H0 := Lib.hid h0
    clear h0
    go_upto_region 4 with (fail)
    replace hE := hE.drew
    refine wp_region_held_drew (S := fun w' => True) (by kernel_rfl) (trivial) (fun hHeld => ?_)
    generalize wr.drew = wd at *
    refine tk 0 ?_
    try simp only [PL]
    refine tk 1 ?_
    try simp only [PL]
    refine tk 2 ?_
    try simp only [PL]
    refine tk 3 ?_
    try simp only [PL]
    refine tu 4 ?_
    try simp only [PL]
    refine tu 5 ?_
    try simp only [PL]
    refine tu 6 ?_
    try simp only [PL]
    refine tu 7 ?_
    try simp only [PL]
    refine tu 8 ?_
    try simp only [PL]
    refine tu 9 ?_
    try simp only [PL]
    refine tu 10 ?_
    try simp only [PL]
    refine tu 11 ?_
    try simp only [PL]
    refine tu 12 ?_
    try simp only [PL]
    refine tu 13 ?_
    try simp only [PL]
    refine tu 14 ?_
    try simp only [PL]
    refine tu 15 ?_
    try simp only [PL]
    refine tk 16 ?_
    try simp only [PL]
    refine wpAnyH_done (by kernel_rfl) ?_ _
    go_wp2_with fail
    go_roundw
    case rel => exact ⟨i + 1, p, by go_num, Lib.hid (HI.out.done hj (.inl H0.out)), hE⟩
    case measure => simp [intOf]; omega
   obtain ⟨q, hq⟩ : ∃ q, j = q + 1 := ⟨j - 1, by omega⟩
   have u0 : decide (0 < j) = true := decide_eq_true (by omega)
   have o1 : IntKind.i64.wrap ((j : Int) - 1) = (q : Int) := by rw [IntKind.wrap_i64]; omega
   have hjn : j < n := by omega
   have hqn : q < n := by omega
   have i1 : (j : Int) < (n : Int) := by omega
   have i2 : (q : Int) < (n : Int) := by omega
   have hpj := HI.out.1.1 j hjn
   have hpq := HI.out.1.1 q hqn
   obtain ⟨xj, hxj⟩ : ∃ x, x = E (p j) := ⟨_, rfl⟩
   obtain ⟨xq, hxq⟩ : ∃ x, x = E (p q) := ⟨_, rfl⟩
   have hlj : (E (p j)).length = 11 := (HhX.out _ hpj).1
   have hlq : (E (p q)).length = 11 := (HhX.out _ hpq).1
   have Hhq := Lib.hid hq
   clear hq
   have Hhxj := Lib.hid hxj
   clear hxj
   have Hhxq := Lib.hid hxq
   clear hxq
   have Hhlj := Lib.hid hlj
   clear hlj
   have Hhlq := Lib.hid hlq
   clear hlq
   have Hh0 := Lib.hid h0
   clear h0
   go_upto_region 4 with (fail)
   replace hE := hE.drew
   refine wp_region_held_drew (S := fun V => Rw 76 11 g n cap (fun k => E (p k)) V) (by kernel_rfl) (hE.here.1.2) (fun hHeld => ?_)
   generalize wr.drew = wd at *
   refine tk 0 ?_
   try simp only [PL]
   refine tk 1 ?_
   try simp only [PL]
   refine tk 2 ?_
   try simp only [PL]
   refine tk 3 ?_
   try simp only [PL]
   refine tk 4 ?_
   try simp only [PL]
   refine tk 5 ?_
   try simp only [PL]
   refine tk 6 ?_
   try simp only [PL]
   refine tk 7 ?_
   try simp only [PL]
   refine wpAnyH_take (i := 8) (v := .agg (E (p j)).toArray) rfl (by kernel_rfl) (by kernel_rfl) (by kernel_rfl) (fun _ _ _ h => h) (Or.inl ⟨by rfl, ?hy2_8_9⟩) (by assumption) ?rest2_8_9
   case hy2_8_9 =>
    intro w hSw
    exact ld_exec (ix_load hSw hjn Hhlj.out (by omega)) rfl rfl
   try simp only [PL]
   refine tk 9 ?_
   try simp only [PL]
   refine tk 10 ?_
   try simp only [PL]
   refine tk 11 ?_
   try simp only [PL]
   refine tk 12 ?_
   try simp only [PL]
   refine wpAnyH_take (i := 13) (v := .agg (E (p q)).toArray) rfl (by kernel_rfl) (by kernel_rfl) (by kernel_rfl) (fun _ _ _ h => h) (Or.inl ⟨by rfl, ?hy2_13_14⟩) (by assumption) ?rest2_13_14
   case hy2_13_14 =>
    intro w hSw
    exact ld_exec (ix_load hSw hqn Hhlq.out (by omega)) rfl rfl
   try simp only [PL]
   refine r1 14 (fun K hK => ?_)
   go_simp
   refine (Hhcmp.out _ (hE.here.2) (p j) (p q) hpj hpq).mono ?_
   rintro e w9 ⟨z, rfl, hz, hb⟩
   replace hE := hE.step hb
   clear hb
   have HZ := Lib.hid hz
   clear hz
   obtain ⟨v, hv⟩ : ∃ v, decide (z < 0) = v := ⟨_, rfl⟩
   go_wp2_with fail
   refine hK.out _ _ (hE.here.1.2) (fun hHeld => ?_)
   clear hK K
   try simp only [PL]
   refine tk 15 ?_
   try simp only [PL]
   refine tk 16 ?_
   try simp only [PL]
   refine wpAnyH_done (by kernel_rfl) ?_ _
   have HV := Lib.hid hv
   clear hv u0
   cases v with
   | false =>
    go_wp2_with fail
    go_roundw
    case rel => exact ⟨i + 1, p, by go_num, Lib.hid (HI.out.done hj (.inr (fun h => by have e1 := HV.out; rw [decide_eq_false_iff_not] at e1; refine e1 (HZ.out.2 ?_); have e2 := Hhq.out; rw [show j - 1 = q by omega] at h; exact h))), hE⟩
    case measure => simp [intOf]; omega
   | true =>
    go_upto_region 6 with (fail)
    replace hE := hE.drew
    refine wp_region_held_drew (S := fun V => True) (by kernel_rfl) (trivial) (fun hHeld => ?_)
    generalize w9.drew = wd at *
    refine tk 0 ?_
    try simp only [PL]
    refine tk 1 ?_
    try simp only [PL]
    refine tk 2 ?_
    try simp only [PL]
    refine tk 3 ?_
    try simp only [PL]
    refine tk 4 ?_
    try simp only [PL]
    refine tk 5 ?_
    try simp only [PL]
    refine tk 6 ?_
    try simp only [PL]
    refine tk 7 ?_
    try simp only [PL]
    refine tk 8 ?_
    try simp only [PL]
    refine tk 10 ?_
    try simp only [PL]
    refine tk 11 ?_
    try simp only [PL]
    refine tk 12 ?_
    try simp only [PL]
    refine wpAnyH_ready (rs := [9, 13]) (by kernel_rfl) (by simp) (AllReadyH.cons rfl (fun K hK => ?_) (AllReadyH.cons rfl (fun K hK => ?_) (AllReadyH.nil)))
    ·
     refine Eq.mpr (if_pos (by rfl)) ?_
     refine ld_stepP (ix_load (hE.here.1.2) hqn Hhlq.out rfl) rfl rfl ?_
     refine hK.out _ _ (trivial) (fun hHeld => ?_)
     clear hK K
     try simp only [PL]
     refine r1 13 (fun K hK => ?_)
     refine Eq.mpr (if_pos (by rfl)) ?_
     refine ld_stepP (ix_load (hE.here.1.2) hjn Hhlj.out rfl) rfl rfl ?_
     refine hK.out _ _ (trivial) (fun hHeld => ?_)
     clear hK K
     try simp only [PL]
     refine tk 14 ?_
     try simp only [PL]
     refine r1 15 (fun K hK => ?_)
     refine Eq.mpr (if_pos (by rfl)) ?_
     refine st_stepP (ix_store (hE.here.1.2) hjn (E (p q)) (HhX.out _ hpq).1 (fun v hv => ((HhX.out _ hpq).2 v hv).2) rfl) rfl rfl rfl ?_
     obtain ⟨hR2, hgr⟩ := Rw.put (hE.here.1.2) hjn (x := E (p q)) (HhX.out _ hpq).1 (fun v hv => ((HhX.out _ hpq).2 v hv).1)
     replace hE := ((Env.again (Go.Proofs.YtjgihmmeimfheaaGreat.Below.grownB hE.bel hgr hE.bel.size heg)).rwr hR2).kept ((hE.here.2).grown hgr (fun q e => by cases e; exact .inr rfl))
     clear hR2 hgr
     generalize wd.setCells g (j * 11) (E (p q)) = Vj at hE ⊢
     refine hK.out _ _ (trivial) (fun hHeld => ?_)
     clear hK K
     try simp only [PL]
     refine tk 16 ?_
     try simp only [PL]
     refine r1 17 (fun K hK => ?_)
     refine Eq.mpr (if_pos (by rfl)) ?_
     refine st_stepP (ix_store (hE.here.1.2) hqn (E (p j)) (HhX.out _ hpj).1 (fun v hv => ((HhX.out _ hpj).2 v hv).2) rfl) rfl rfl rfl ?_
     obtain ⟨hR2, hgr⟩ := Rw.put (hE.here.1.2) hqn (x := E (p j)) (HhX.out _ hpj).1 (fun v hv => ((HhX.out _ hpj).2 v hv).1)
     replace hR2 := Rw.congr (e' := fun k => E (swp p j k)) hR2 (swap_row Hhq.out)
     replace hE := ((Env.again (Go.Proofs.YtjgihmmeimfheaaGreat.Below.grownB hE.bel hgr hE.bel.size heg)).rwr hR2).kept ((hE.here.2).grown hgr (fun q e => by cases e; exact .inr rfl))
     clear hR2 hgr
     generalize Vj.setCells g (q * 11) (E (p j)) = Vq at hE ⊢
     refine hK.out _ _ (trivial) (fun hHeld => ?_)
     clear hK K
     try simp only [PL]
     refine wpAnyH_done (by kernel_rfl) ?_ _
     go_wp2_with fail
     go_roundw
     case rel => exact ⟨q, swp p j, by have := Hhq.out; omega, rfl, Lib.hid (by
      have e2 := Hhq.out
      have e3 := HI.out.swap (by omega) hj hlt (by rw [show j - 1 = q by omega]; exact HZ.out.1 (of_decide_eq_true HV.out))
      rwa [show j - 1 = q by omega] at e3), hE⟩
     case measure => have := Hhq.out; simp [intOf]; omega
    ·
     refine Eq.mpr (if_pos (by rfl)) ?_
     refine ld_stepP (ix_load (hE.here.1.2) hjn Hhlj.out rfl) rfl rfl ?_
     refine hK.out _ _ (trivial) (fun hHeld => ?_)
     clear hK K
     try simp only [PL]
     refine r1 9 (fun K hK => ?_)
     refine Eq.mpr (if_pos (by rfl)) ?_
     refine ld_stepP (ix_load (hE.here.1.2) hqn Hhlq.out rfl) rfl rfl ?_
     refine hK.out _ _ (trivial) (fun hHeld => ?_)
     clear hK K
     try simp only [PL]
     refine tk 14 ?_
     try simp only [PL]
     refine r1 15 (fun K hK => ?_)
     refine Eq.mpr (if_pos (by rfl)) ?_
     refine st_stepP (ix_store (hE.here.1.2) hjn (E (p q)) (HhX.out _ hpq).1 (fun v hv => ((HhX.out _ hpq).2 v hv).2) rfl) rfl rfl rfl ?_
     obtain ⟨hR2, hgr⟩ := Rw.put (hE.here.1.2) hjn (x := E (p q)) (HhX.out _ hpq).1 (fun v hv => ((HhX.out _ hpq).2 v hv).1)
     replace hE := ((Env.again (Go.Proofs.YtjgihmmeimfheaaGreat.Below.grownB hE.bel hgr hE.bel.size heg)).rwr hR2).kept ((hE.here.2).grown hgr (fun q e => by cases e; exact .inr rfl))
     clear hR2 hgr
     generalize wd.setCells g (j * 11) (E (p q)) = Vj at hE ⊢
     refine hK.out _ _ (trivial) (fun hHeld => ?_)
     clear hK K
     try simp only [PL]
     refine tk 16 ?_
     try simp only [PL]
     refine r1 17 (fun K hK => ?_)
     refine Eq.mpr (if_pos (by rfl)) ?_
     refine st_stepP (ix_store (hE.here.1.2) hqn (E (p j)) (HhX.out _ hpj).1 (fun v hv => ((HhX.out _ hpj).2 v hv).2) rfl) rfl rfl rfl ?_
     obtain ⟨hR2, hgr⟩ := Rw.put (hE.here.1.2) hqn (x := E (p j)) (HhX.out _ hpj).1 (fun v hv => ((HhX.out _ hpj).2 v hv).1)
     replace hR2 := Rw.congr (e' := fun k => E (swp p j k)) hR2 (swap_row Hhq.out)
     replace hE := ((Env.again (Go.Proofs.YtjgihmmeimfheaaGreat.Below.grownB hE.bel hgr hE.bel.size heg)).rwr hR2).kept ((hE.here.2).grown hgr (fun q e => by cases e; exact .inr rfl))
     clear hR2 hgr
     generalize Vj.setCells g (q * 11) (E (p j)) = Vq at hE ⊢
     refine hK.out _ _ (trivial) (fun hHeld => ?_)
     clear hK K
     try simp only [PL]
     refine wpAnyH_done (by kernel_rfl) ?_ _
     go_wp2_with fail
     go_roundw
     case rel => exact ⟨q, swp p j, by have := Hhq.out; omega, rfl, Lib.hid (by
      have e2 := Hhq.out
      have e3 := HI.out.swap (by omega) hj hlt (by rw [show j - 1 = q by omega]; exact HZ.out.1 (of_decide_eq_true HV.out))
      rwa [show j - 1 = q by omega] at e3), hE⟩
     case measure => have := Hhq.out; simp [intOf]; omega
set_option linter.unusedSimpArgs false in
set_option maxRecDepth 100000 in
set_option maxHeartbeats 4000000 in
theorem sstab_v {w u : World} {g n cap gf : Nat} {E : Nat → List Value} {κ : Nat → Rat} (hbu : Below w.heap.size w u) (hg : w.heap.size ≤ g) (hR : Rw 76 11 g n cap E u) (hX : IxE n E) (hn9 : n ≤ 1000) (eg : ∀ args W, (callFunc gf args).run Tryz.prog W = .ok (.enter gf args) W) (hcmp : ∀ V, Kept u g V → CmpK gf n E κ V) (h19 : n ≤ 19) :
  Calls Tryz.prog 119 #[.slice (some ⟨g, 0, none⟩) n cap, .int .i64 (n : Int), .func (.func gf) #[] #[]] u (fun e w' => (∃ v, e = .returned v) ∧ ∃ p, Srd n κ n p ∧ Rw 76 11 g n cap (fun k => E (p k)) w' ∧ Kept u g w') := by
 have hC := Lib.hid (sins_v (w := w) hbu hg hR hX hn9 eg hcmp)
 clear hcmp hX hR
 have t1 : decide ((20 : Int) ≤ (n : Int)) = false := decide_eq_false (by omega)
 have t2 : decide ((20 : Int) < (n : Int)) = false := decide_eq_false (by omega)
 go_enter Tryz.func119, Tryz.ntmps119
 go_wp2_with fail
 go_loopw [7, 8] (fun x y wr => x = .int .i64 0 ∧ y = .int .i64 20 ∧ wr = u) (fun _ _ _ => 0)
 case atStart => exact ⟨rfl, rfl, rfl⟩
 case round =>
  obtain ⟨rfl, rfl, rfl⟩ := hrel
  go_wp2_with fail
  refine hC.out.mono ?_
  rintro e w1 ⟨⟨v, rfl⟩, hP⟩
  have HP := Lib.hid hP
  clear hP
  go_wp2_with fail
  go_loopw [6] (fun x wr => x = .int .i64 20 ∧ wr = w1) (fun _ _ => 0)
  case atStart => exact ⟨rfl, rfl⟩
  case round =>
   obtain ⟨rfl, rfl⟩ := hrel
   go_wp2_with fail
   go_end0
   exact ⟨⟨_, rfl⟩, HP.out⟩
set_option linter.unusedSimpArgs false in
set_option maxRecDepth 100000 in
set_option maxHeartbeats 4000000 in
theorem ssort_v {w u : World} {g n cap gf : Nat} {E : Nat → List Value} {κ : Nat → Rat} (hbu : Below w.heap.size w u) (hg : w.heap.size ≤ g) (hR : Rw 76 11 g n cap E u) (hX : IxE n E) (hn9 : n ≤ 1000) (eg : ∀ args W, (callFunc gf args).run Tryz.prog W = .ok (.enter gf args) W) (hcmp : ∀ V, Kept u g V → CmpK gf n E κ V) (h19 : n ≤ 19) :
  Calls Tryz.prog 81 #[.slice (some ⟨g, 0, none⟩) n cap, .func (.func gf) #[] #[]] u (fun e w' => (∃ v, e = .returned v) ∧ ∃ p, Srd n κ n p ∧ Rw 76 11 g n cap (fun k => E (p k)) w' ∧ Kept u g w') := by
 have hC := Lib.hid (sstab_v (w := w) hbu hg hR hX hn9 eg hcmp h19)
 clear hcmp hX hR
 go_enter Tryz.func81, Tryz.ntmps81
 go_wp2_with fail
 refine hC.out.mono ?_
 rintro e w1 ⟨⟨v, rfl⟩, hP⟩
 have HP := Lib.hid hP
 clear hP
 go_wp2_with fail
 go_end0
 exact ⟨⟨_, rfl⟩, HP.out⟩
end Go.Proofs.YtjgihmmeimfheaaGreat
