/-
  Several texts in one: Sorting indexed claims: insertionSortCmpFunc, stableCmpFunc, SortStableFunc. Sorting indexed claims of equal keys: nothing moves.
-/
import Derived.Test.YtjgihmmeimfheaaGreatK3
import Derived.Test.YtjgihmmeimfheaaGreatK13
import Derived.Test.YtjgihmmeimfheaaGreatK1
set_option linter.unusedSimpArgs false
set_option maxRecDepth 100000
set_option maxHeartbeats 4000000
namespace Go.Proofs.YtjgihmmeimfheaaGreat
section
open Go.RowKit

theorem ix_desc : ∃ d, Tryz.prog.underlying 76 = some d ∧ d.isRow = true := ⟨_, Tryz.underlying76, rfl⟩
theorem ix_size : (Tryz.prog.info? 76).map (·.size) = some 11 := by kernel_rfl
section
variable {w W : World} {g n cap : Nat} {e : Nat → List Value}
theorem ix_load (h : Rw 76 11 g n cap e W) {k o : Nat} (hk : k < n) (hl : (e k).length = 11) (ho : o = k * 11) : (Instr.loadAt 76 (.pointer (some ⟨g, o, none⟩))).run Tryz.prog W = .ok (.agg (e k).toArray) W := by
 subst ho;obtain ⟨d, h1, h2⟩ := ix_desc;exact run_loadAt_mid W g (k * 11) _ (e k) d (h.range hk hl) h1 h2 (by rw [hl]; exact ix_size)
theorem ix_store (h : Rw 76 11 g n cap e W) {k o : Nat} (hk : k < n) (x : List Value) (hl : x.length = 11) (h1 : ∀ v ∈ x, v.oneCell' = true) (ho : o = k * 11) : (Instr.storeAt 76 (.pointer (some ⟨g, o, none⟩)) (.agg x.toArray)).run Tryz.prog W = .ok () (W.setCells g (k * 11) x) := by
 subst ho;have ht := h.there hk;exact run_storeAt_mid (P := Tryz.prog) W g (k * 11) _ x.toArray (by rw [List.size_toArray, hl]; exact ht) (by rw [List.size_toArray, hl]; exact ix_size) (all_oneCell_toArray h1)
end
theorem st_stepP {P : Program} {w w' : World} {o : Oper} {a : Act} {K : Act → World → Prop} {Q : Exit → Act → World → Prop} {ty : TypeId} {x y : Operand} {p v : Value} (hr : (Instr.storeAt ty p v).run P w = .ok () w') (ho : o.op = .store ty x y) (hx : a.eval x = p) (hy : a.eval y = v) (h : K (a.put o.dst undef) w') : o.wp P a w K Q := by
 unfold Oper.wp execOp;simp only [ho, hx, hy, Sem.run_bind, Sem.run_pure, Result.andThen_ok, hr];exact h
theorem ld_stepP {P : Program} {w : World} {o : Oper} {a : Act} {K : Act → World → Prop} {Q : Exit → Act → World → Prop} {ty : TypeId} {x : Operand} {p v : Value} (hr : (Instr.loadAt ty p).run P w = .ok v w) (ho : o.op = .load ty x) (hx : a.eval x = p) (h : K (a.put o.dst v) w) : o.wp P a w K Q := by
 unfold Oper.wp execOp;simp only [ho, hx, Sem.run_bind, Sem.run_pure, Result.andThen_ok, hr];exact h
def CmpK (gf : Nat) (n : Nat) (E : Nat → List Value) (κ : Nat → Rat) (V : World) : Prop := ∀ a b, a < n → b < n → Calls Tryz.prog gf #[.agg (E a).toArray, .agg (E b).toArray] V fun e V' => ∃ z : Int, e = .returned (.int .i64 z) ∧ (z < 0 ↔ κ a < κ b) ∧ Below V.heap.size V V'
def IxE (n : Nat) (E : Nat → List Value) : Prop := ∀ k, k < n → (E k).length = 11 ∧ ∀ v ∈ E k, noLimb v = true ∧ v.oneCell' = true
theorem swap_row {n q j : Nat} {p : Nat → Nat} {E : Nat → List Value} (hj : j = q + 1) : ∀ k, k < n → updE (updE (fun k => E (p k)) j (E (p q))) q (E (p j)) k = E (swp p j k) := fun k _ => by
 have hq : j - 1 = q := by omega
 unfold updE swp;rw [hq]
 by_cases h1 : k = q
 · rw [if_pos h1, if_neg (by omega), if_pos h1]
 ·
  rw [if_neg h1]
  by_cases h2 : k = j
  · rw [if_pos h2, if_pos h2]
  · rw [if_neg h2, if_neg h2, if_neg h1]
theorem sins_v {w u : World} {g n cap gf : Nat} {E : Nat → List Value} {κ : Nat → Rat} (hbu : Below w.heap.size w u) (hg : w.heap.size ≤ g) (hR : Rw 76 11 g n cap E u) (hX : IxE n E) (hn9 : n ≤ 1000) (eg : ∀ args W, (callFunc gf args).run Tryz.prog W = .ok (.enter gf args) W) (hcmp : ∀ V, Kept u g V → CmpK gf n E κ V) :
  Calls Tryz.prog 143 #[.slice (some ⟨g, 0, none⟩) n cap, .int .i64 0, .int .i64 (n : Int), .func (.func gf) #[] #[]] u (fun e w' => (∃ v, e = .returned v) ∧ ∃ p, Srd n κ n p ∧ Rw 76 11 g n cap (fun k => E (p k)) w' ∧ Kept u g w') := by
 have hE := ((Env.again hbu).rwr hR).kept (Kept.refl u g);have Hhcmp := Lib.hid hcmp;clear hcmp;have HhX := Lib.hid hX;clear hX;clear hR;have heg := hg
 go_enter Tryz.func143, Tryz.ntmps143
 go_wp2_with fail
 go_loopw [8] (fun x wr => ∃ (i : Nat) (p : Nat → Nat), x = .int .i64 (i : Int) ∧ Hid (Srd n κ i p) ∧ Env w (fun V => ((True ∧ Rw 76 11 g n cap (fun k => E (p k)) V) ∧ Kept u g V)) wr) (fun x _ => n - (intOf x).toNat)
 case atStart => exact ⟨1, fun k => k, by simp, Lib.hid (Srd.start n κ), hE⟩
 case round =>
  clear hE;obtain ⟨i, p, rfl, HS, hE⟩ := hrel
  by_cases hlt : i < n
  rotate_left
  ·
   have t1 : decide ((i : Int) < (n : Int)) = false := decide_eq_false (by omega);go_wp2_with fail
   go_end0
   exact ⟨⟨_, rfl⟩, p, HS.out.full (by omega), hE.here.1.2, hE.here.2⟩
  have t1 : decide ((i : Int) < (n : Int)) = true := decide_eq_true (by omega);go_wp2_with fail
  clear t1
  go_loopw [9] (fun x wr => ∃ (j : Nat) (p : Nat → Nat), j ≤ i ∧ x = .int .i64 (j : Int) ∧ Hid (Ins n κ i j p) ∧ Env w (fun V => ((True ∧ Rw 76 11 g n cap (fun k => E (p k)) V) ∧ Kept u g V)) wr) (fun x _ => (intOf x).toNat)
  case atStart => exact ⟨i, p, Nat.le_refl _, rfl, Lib.hid (HS.out.ins hlt), hE⟩
  case round =>
   clear hE HS p;obtain ⟨j, p, hj, rfl, HI, hE⟩ := hrel
   by_cases h0 : j = 0
   ·
    have u0 : decide (0 < j) = false := decide_eq_false (by omega);have H0 := Lib.hid h0;clear h0
    go_upto_region 4 with (fail)
    replace hE := hE.drew;refine wp_region_held_drew (S := fun w' => True) (by kernel_rfl) (trivial) (fun hHeld => ?_)
    generalize wr.drew = wd at *
    refine tk 0 ?_;refine tk 1 ?_;refine tk 2 ?_;refine tk 3 ?_;refine tu 4 ?_;refine tu 5 ?_;refine tu 6 ?_;refine tu 7 ?_;refine tu 8 ?_;refine tu 9 ?_;refine tu 10 ?_;refine tu 11 ?_;refine tu 12 ?_;refine tu 13 ?_;refine tu 14 ?_;refine tu 15 ?_;refine tk 16 ?_;refine wpAnyH_done (by kernel_rfl) ?_ _;go_wp2_with fail
    go_roundw
    case rel => exact ⟨i + 1, p, by go_num, Lib.hid (HI.out.done hj (.inl H0.out)), hE⟩
    case measure => simp [intOf]; omega
   obtain ⟨q, hq⟩ : ∃ q, j = q + 1 := ⟨j - 1, by omega⟩
   have u0 : decide (0 < j) = true := decide_eq_true (by omega)
   have o1 : IntKind.i64.wrap ((j : Int) - 1) = (q : Int) := by rw [IntKind.wrap_i64]; omega
   have hjn : j < n := by omega
   have hqn : q < n := by omega
   have i1 : (j : Int) < (n : Int) := by omega
   have i2 : (q : Int) < (n : Int) := by omega
   have hpj := HI.out.1.1 j hjn;have hpq := HI.out.1.1 q hqn
   obtain ⟨xj, hxj⟩ : ∃ x, x = E (p j) := ⟨_, rfl⟩
   obtain ⟨xq, hxq⟩ : ∃ x, x = E (p q) := ⟨_, rfl⟩
   have hlj : (E (p j)).length = 11 := (HhX.out _ hpj).1;have hlq : (E (p q)).length = 11 := (HhX.out _ hpq).1;have Hhq := Lib.hid hq;clear hq;have Hhxj := Lib.hid hxj;clear hxj;have Hhxq := Lib.hid hxq;clear hxq;have Hhlj := Lib.hid hlj;clear hlj;have Hhlq := Lib.hid hlq;clear hlq;have Hh0 := Lib.hid h0;clear h0
   go_upto_region 4 with (fail)
   replace hE := hE.drew;refine wp_region_held_drew (S := fun V => Rw 76 11 g n cap (fun k => E (p k)) V) (by kernel_rfl) (hE.here.1.2) (fun hHeld => ?_)
   generalize wr.drew = wd at *
   refine tk 0 ?_;refine tk 1 ?_;refine tk 2 ?_;refine tk 3 ?_;refine tk 4 ?_;refine tk 5 ?_;refine tk 6 ?_;refine tk 7 ?_;refine wpAnyH_take (i := 8) (v := .agg (E (p j)).toArray) rfl (by kernel_rfl) (by kernel_rfl) (by kernel_rfl) (fun _ _ _ h => h) (Or.inl ⟨by rfl, ?hy2_8_9⟩) (by assumption) ?rest2_8_9
   case hy2_8_9 =>
    intro w hSw;exact ld_exec (ix_load hSw hjn Hhlj.out (by omega)) rfl rfl
   try simp only [PL]
   refine tk 9 ?_;refine tk 10 ?_;refine tk 11 ?_;refine tk 12 ?_;refine wpAnyH_take (i := 13) (v := .agg (E (p q)).toArray) rfl (by kernel_rfl) (by kernel_rfl) (by kernel_rfl) (fun _ _ _ h => h) (Or.inl ⟨by rfl, ?hy2_13_14⟩) (by assumption) ?rest2_13_14
   case hy2_13_14 =>
    intro w hSw;exact ld_exec (ix_load hSw hqn Hhlq.out (by omega)) rfl rfl
   try simp only [PL]
   refine r1 14 (fun K hK => ?_);go_simp;refine (Hhcmp.out _ (hE.here.2) (p j) (p q) hpj hpq).mono ?_
   rintro e w9 ⟨z, rfl, hz, hb⟩
   replace hE := hE.step hb;clear hb;have HZ := Lib.hid hz;clear hz
   obtain ⟨v, hv⟩ : ∃ v, decide (z < 0) = v := ⟨_, rfl⟩
   go_wp2_with fail
   refine hK.out _ _ (hE.here.1.2) (fun hHeld => ?_);clear hK K;try simp only [PL]
   refine tk 15 ?_;refine tk 16 ?_;refine wpAnyH_done (by kernel_rfl) ?_ _;have HV := Lib.hid hv;clear hv u0
   cases v with
   | false =>
    go_wp2_with fail
    go_roundw
    case rel => exact ⟨i + 1, p, by go_num, Lib.hid (HI.out.done hj (.inr (fun h => by have e1 := HV.out; rw [decide_eq_false_iff_not] at e1; refine e1 (HZ.out.2 ?_); have e2 := Hhq.out; rw [show j - 1 = q by omega] at h; exact h))), hE⟩
    case measure => simp [intOf]; omega
   | true =>
    go_upto_region 6 with (fail)
    replace hE := hE.drew;refine wp_region_held_drew (S := fun V => True) (by kernel_rfl) (trivial) (fun hHeld => ?_)
    generalize w9.drew = wd at *
    refine tk 0 ?_;refine tk 1 ?_;refine tk 2 ?_;refine tk 3 ?_;refine tk 4 ?_;refine tk 5 ?_;refine tk 6 ?_;refine tk 7 ?_;refine tk 8 ?_;refine tk 10 ?_;refine tk 11 ?_;refine tk 12 ?_;refine wpAnyH_ready (rs := [9, 13]) (by kernel_rfl) (by simp) (AllReadyH.cons rfl (fun K hK => ?_) (AllReadyH.cons rfl (fun K hK => ?_) (AllReadyH.nil)))
    ·
     refine Eq.mpr (if_pos (by rfl)) ?_;refine ld_stepP (ix_load (hE.here.1.2) hqn Hhlq.out rfl) rfl rfl ?_;refine hK.out _ _ (trivial) (fun hHeld => ?_);clear hK K;try simp only [PL]
     refine r1 13 (fun K hK => ?_);refine Eq.mpr (if_pos (by rfl)) ?_;refine ld_stepP (ix_load (hE.here.1.2) hjn Hhlj.out rfl) rfl rfl ?_;refine hK.out _ _ (trivial) (fun hHeld => ?_);clear hK K;try simp only [PL]
     refine tk 14 ?_;refine r1 15 (fun K hK => ?_);refine Eq.mpr (if_pos (by rfl)) ?_;refine st_stepP (ix_store (hE.here.1.2) hjn (E (p q)) (HhX.out _ hpq).1 (fun v hv => ((HhX.out _ hpq).2 v hv).2) rfl) rfl rfl rfl ?_;obtain ⟨hR2, hgr⟩ := Rw.put (hE.here.1.2) hjn (x := E (p q)) (HhX.out _ hpq).1 (fun v hv => ((HhX.out _ hpq).2 v hv).1);replace hE := ((Env.again (Go.Proofs.YtjgihmmeimfheaaGreat.Below.grownB hE.bel hgr hE.bel.size heg)).rwr hR2).kept ((hE.here.2).grown hgr (fun q e => by cases e; exact .inr rfl));clear hR2 hgr;generalize wd.setCells g (j * 11) (E (p q)) = Vj at hE ⊢;refine hK.out _ _ (trivial) (fun hHeld => ?_);clear hK K;try simp only [PL]
     refine tk 16 ?_;refine r1 17 (fun K hK => ?_);refine Eq.mpr (if_pos (by rfl)) ?_;refine st_stepP (ix_store (hE.here.1.2) hqn (E (p j)) (HhX.out _ hpj).1 (fun v hv => ((HhX.out _ hpj).2 v hv).2) rfl) rfl rfl rfl ?_;obtain ⟨hR2, hgr⟩ := Rw.put (hE.here.1.2) hqn (x := E (p j)) (HhX.out _ hpj).1 (fun v hv => ((HhX.out _ hpj).2 v hv).1);replace hR2 := Rw.congr (e' := fun k => E (swp p j k)) hR2 (swap_row Hhq.out);replace hE := ((Env.again (Go.Proofs.YtjgihmmeimfheaaGreat.Below.grownB hE.bel hgr hE.bel.size heg)).rwr hR2).kept ((hE.here.2).grown hgr (fun q e => by cases e; exact .inr rfl));clear hR2 hgr;generalize Vj.setCells g (q * 11) (E (p j)) = Vq at hE ⊢;refine hK.out _ _ (trivial) (fun hHeld => ?_);clear hK K;try simp only [PL]
     refine wpAnyH_done (by kernel_rfl) ?_ _;go_wp2_with fail
     go_roundw
     case rel => exact ⟨q, swp p j, by have := Hhq.out; omega, rfl, Lib.hid (by
      have e2 := Hhq.out;have e3 := HI.out.swap (by omega) hj hlt (by rw [show j - 1 = q by omega]; exact HZ.out.1 (of_decide_eq_true HV.out))
      rwa [show j - 1 = q by omega] at e3), hE⟩
     case measure => have := Hhq.out; simp [intOf]; omega
    ·
     refine Eq.mpr (if_pos (by rfl)) ?_;refine ld_stepP (ix_load (hE.here.1.2) hjn Hhlj.out rfl) rfl rfl ?_;refine hK.out _ _ (trivial) (fun hHeld => ?_);clear hK K;try simp only [PL]
     refine r1 9 (fun K hK => ?_);refine Eq.mpr (if_pos (by rfl)) ?_;refine ld_stepP (ix_load (hE.here.1.2) hqn Hhlq.out rfl) rfl rfl ?_;refine hK.out _ _ (trivial) (fun hHeld => ?_);clear hK K;try simp only [PL]
     refine tk 14 ?_;refine r1 15 (fun K hK => ?_);refine Eq.mpr (if_pos (by rfl)) ?_;refine st_stepP (ix_store (hE.here.1.2) hjn (E (p q)) (HhX.out _ hpq).1 (fun v hv => ((HhX.out _ hpq).2 v hv).2) rfl) rfl rfl rfl ?_;obtain ⟨hR2, hgr⟩ := Rw.put (hE.here.1.2) hjn (x := E (p q)) (HhX.out _ hpq).1 (fun v hv => ((HhX.out _ hpq).2 v hv).1);replace hE := ((Env.again (Go.Proofs.YtjgihmmeimfheaaGreat.Below.grownB hE.bel hgr hE.bel.size heg)).rwr hR2).kept ((hE.here.2).grown hgr (fun q e => by cases e; exact .inr rfl));clear hR2 hgr;generalize wd.setCells g (j * 11) (E (p q)) = Vj at hE ⊢;refine hK.out _ _ (trivial) (fun hHeld => ?_);clear hK K;try simp only [PL]
     refine tk 16 ?_;refine r1 17 (fun K hK => ?_);refine Eq.mpr (if_pos (by rfl)) ?_;refine st_stepP (ix_store (hE.here.1.2) hqn (E (p j)) (HhX.out _ hpj).1 (fun v hv => ((HhX.out _ hpj).2 v hv).2) rfl) rfl rfl rfl ?_;obtain ⟨hR2, hgr⟩ := Rw.put (hE.here.1.2) hqn (x := E (p j)) (HhX.out _ hpj).1 (fun v hv => ((HhX.out _ hpj).2 v hv).1);replace hR2 := Rw.congr (e' := fun k => E (swp p j k)) hR2 (swap_row Hhq.out);replace hE := ((Env.again (Go.Proofs.YtjgihmmeimfheaaGreat.Below.grownB hE.bel hgr hE.bel.size heg)).rwr hR2).kept ((hE.here.2).grown hgr (fun q e => by cases e; exact .inr rfl));clear hR2 hgr;generalize Vj.setCells g (q * 11) (E (p j)) = Vq at hE ⊢;refine hK.out _ _ (trivial) (fun hHeld => ?_);clear hK K;try simp only [PL]
     refine wpAnyH_done (by kernel_rfl) ?_ _;go_wp2_with fail
     go_roundw
     case rel => exact ⟨q, swp p j, by have := Hhq.out; omega, rfl, Lib.hid (by
      have e2 := Hhq.out;have e3 := HI.out.swap (by omega) hj hlt (by rw [show j - 1 = q by omega]; exact HZ.out.1 (of_decide_eq_true HV.out))
      rwa [show j - 1 = q by omega] at e3), hE⟩
     case measure => have := Hhq.out; simp [intOf]; omega
theorem sstab_v {w u : World} {g n cap gf : Nat} {E : Nat → List Value} {κ : Nat → Rat} (hbu : Below w.heap.size w u) (hg : w.heap.size ≤ g) (hR : Rw 76 11 g n cap E u) (hX : IxE n E) (hn9 : n ≤ 1000) (eg : ∀ args W, (callFunc gf args).run Tryz.prog W = .ok (.enter gf args) W) (hcmp : ∀ V, Kept u g V → CmpK gf n E κ V) (h19 : n ≤ 19) :
  Calls Tryz.prog 119 #[.slice (some ⟨g, 0, none⟩) n cap, .int .i64 (n : Int), .func (.func gf) #[] #[]] u (fun e w' => (∃ v, e = .returned v) ∧ ∃ p, Srd n κ n p ∧ Rw 76 11 g n cap (fun k => E (p k)) w' ∧ Kept u g w') := by
 have hC := Lib.hid (sins_v (w := w) hbu hg hR hX hn9 eg hcmp);clear hcmp hX hR;have t1 : decide ((20 : Int) ≤ (n : Int)) = false := decide_eq_false (by omega);have t2 : decide ((20 : Int) < (n : Int)) = false := decide_eq_false (by omega)
 go_enter Tryz.func119, Tryz.ntmps119
 go_wp2_with fail
 go_loopw [7, 8] (fun x y wr => x = .int .i64 0 ∧ y = .int .i64 20 ∧ wr = u) (fun _ _ _ => 0)
 case atStart => exact ⟨rfl, rfl, rfl⟩
 case round =>
  obtain ⟨rfl, rfl, rfl⟩ := hrel;go_wp2_with fail
  refine hC.out.mono ?_
  rintro e w1 ⟨⟨v, rfl⟩, hP⟩
  have HP := Lib.hid hP;clear hP;go_wp2_with fail
  go_loopw [6] (fun x wr => x = .int .i64 20 ∧ wr = w1) (fun _ _ => 0)
  case atStart => exact ⟨rfl, rfl⟩
  case round =>
   obtain ⟨rfl, rfl⟩ := hrel;go_wp2_with fail
   go_end0
   exact ⟨⟨_, rfl⟩, HP.out⟩
theorem ssort_v {w u : World} {g n cap gf : Nat} {E : Nat → List Value} {κ : Nat → Rat} (hbu : Below w.heap.size w u) (hg : w.heap.size ≤ g) (hR : Rw 76 11 g n cap E u) (hX : IxE n E) (hn9 : n ≤ 1000) (eg : ∀ args W, (callFunc gf args).run Tryz.prog W = .ok (.enter gf args) W) (hcmp : ∀ V, Kept u g V → CmpK gf n E κ V) (h19 : n ≤ 19) :
  Calls Tryz.prog 81 #[.slice (some ⟨g, 0, none⟩) n cap, .func (.func gf) #[] #[]] u (fun e w' => (∃ v, e = .returned v) ∧ ∃ p, Srd n κ n p ∧ Rw 76 11 g n cap (fun k => E (p k)) w' ∧ Kept u g w') := by
 have hC := Lib.hid (sstab_v (w := w) hbu hg hR hX hn9 eg hcmp h19);clear hcmp hX hR
 go_enter Tryz.func81, Tryz.ntmps81
 go_wp2_with fail
 refine hC.out.mono ?_
 rintro e w1 ⟨⟨v, rfl⟩, hP⟩
 have HP := Lib.hid hP;clear hP;go_wp2_with fail
 go_end0
 exact ⟨⟨_, rfl⟩, HP.out⟩
end
section
open Go.RowKit

theorem cmpE_no {gf n : Nat} {E : Nat → List Value} {κ : Nat → Rat} {V : World} (h : CmpK gf n E κ V) (heq : ∀ k, k < n → κ k = κ 0) {a b : Nat} (ha : a < n) (hb : b < n) : Calls Tryz.prog gf #[.agg (E a).toArray, .agg (E b).toArray] V fun e V' => ∃ z : Int, e = .returned (.int .i64 z) ∧ decide (z < 0) = false ∧ Below V.heap.size V V' :=
 (h a b ha hb).mono fun e V' ⟨z, he, hz, hb2⟩ => ⟨z, he, decide_eq_false (fun h1 => by have h2 := hz.1 h1; rw [heq a ha, heq b hb] at h2; exact Rat.lt_irrefl h2), hb2⟩
theorem sinsE_v {w u : World} {g n cap gf : Nat} {E : Nat → List Value} {κ : Nat → Rat} (hX : IxE n E) (hn9 : n ≤ 1000) (eg : ∀ args W, (callFunc gf args).run Tryz.prog W = .ok (.enter gf args) W) (hcmp : ∀ V, Kept u g V → CmpK gf n E κ V) (heq : ∀ k, k < n → κ k = κ 0) {a b : Nat} (han : a ≤ n) (hbn : b ≤ n) : ∀ V, Below w.heap.size w V → Rw 76 11 g n cap E V → Kept u g V →
  Calls Tryz.prog 143 #[.slice (some ⟨g, 0, none⟩) n cap, .int .i64 (a : Int), .int .i64 (b : Int), .func (.func gf) #[] #[]] V (fun e w' => (∃ v, e = .returned v) ∧ Rw 76 11 g n cap E w' ∧ Kept u g w') := by
 intro V hbV hR hK;have hE := ((Env.again hbV).rwr hR).kept hK;have Hhcmp := Lib.hid hcmp;clear hcmp;have HhX := Lib.hid hX;clear hX;clear hR hK hbV
 go_enter Tryz.func143, Tryz.ntmps143
 have o0 : IntKind.i64.wrap ((a : Int) + 1) = ((a + 1 : Nat) : Int) := by rw [IntKind.wrap_i64]; omega
 go_wp2_with fail
 go_loopw [8] (fun x wr => ∃ i : Nat, a < i ∧ x = .int .i64 (i : Int) ∧ Env w (fun V => ((True ∧ Rw 76 11 g n cap E V) ∧ Kept u g V)) wr) (fun x _ => n - (intOf x).toNat)
 case atStart => exact ⟨a + 1, Nat.lt_succ_self a, rfl, hE⟩
 case round =>
  clear hE;obtain ⟨i, hai, rfl, hE⟩ := hrel
  by_cases hlt : i < b
  rotate_left
  ·
   have t1 : decide ((i : Int) < (b : Int)) = false := decide_eq_false (by omega);go_wp2_with fail
   go_end0
   exact ⟨⟨_, rfl⟩, hE.here.1.2, hE.here.2⟩
  have t1 : decide ((i : Int) < (b : Int)) = true := decide_eq_true (by omega);go_wp2_with fail
  clear t1
  go_loopw [9] (fun x wr => x = .int .i64 (i : Int) ∧ Env w (fun V => ((True ∧ Rw 76 11 g n cap E V) ∧ Kept u g V)) wr) (fun x _ => 0)
  case atStart => exact ⟨rfl, hE⟩
  case round =>
   clear hE;obtain ⟨rfl, hE⟩ := hrel
   obtain ⟨q, hq⟩ : ∃ q, i = q + 1 := ⟨i - 1, by omega⟩
   have u0 : decide ((a : Int) < (i : Int)) = true := decide_eq_true (by omega);have u1 : decide (a < i) = true := decide_eq_true hai
   have o1 : IntKind.i64.wrap ((i : Int) - 1) = (q : Int) := by rw [IntKind.wrap_i64]; omega
   have hjn : i < n := by omega
   have hqn : q < n := by omega
   have i1 : (i : Int) < (n : Int) := by omega
   have i2 : (q : Int) < (n : Int) := by omega
   have Hhq := Lib.hid hq;clear hq
   go_upto_region 4 with (fail)
   replace hE := hE.drew;refine wp_region_held_drew (S := fun V => Rw 76 11 g n cap E V) (by kernel_rfl) (hE.here.1.2) (fun hHeld => ?_)
   generalize wr.drew = wd at *
   refine tk 0 ?_;refine tk 1 ?_;refine tk 2 ?_;refine tk 3 ?_;refine tk 4 ?_;refine tk 5 ?_;refine tk 6 ?_;refine tk 7 ?_;refine wpAnyH_take (i := 8) (v := .agg (E i).toArray) rfl (by kernel_rfl) (by kernel_rfl) (by kernel_rfl) (fun _ _ _ h => h) (Or.inl ⟨by rfl, ?hy1_8_9⟩) (by assumption) ?rest1_8_9
   case hy1_8_9 =>
    intro w hSw;exact ld_exec (ix_load hSw hjn (HhX.out _ hjn).1 (by omega)) rfl rfl
   try simp only [PL]
   refine tk 9 ?_;refine tk 10 ?_;refine tk 11 ?_;refine tk 12 ?_;refine wpAnyH_take (i := 13) (v := .agg (E q).toArray) rfl (by kernel_rfl) (by kernel_rfl) (by kernel_rfl) (fun _ _ _ h => h) (Or.inl ⟨by rfl, ?hy1_13_14⟩) (by assumption) ?rest1_13_14
   case hy1_13_14 =>
    intro w hSw;exact ld_exec (ix_load hSw hqn (HhX.out _ hqn).1 (by omega)) rfl rfl
   try simp only [PL]
   refine r1 14 (fun K hK => ?_);go_simp;refine (cmpE_no (Hhcmp.out _ (hE.here.2)) heq hjn hqn).mono ?_
   rintro e w1 ⟨z, rfl, hv, hb⟩
   replace hE := hE.step hb;clear hb;go_wp2_with fail
   refine hK.out _ _ (hE.here.1.2) (fun hHeld => ?_);clear hK K;try simp only [PL]
   refine tk 15 ?_;refine tk 16 ?_;refine wpAnyH_done (by kernel_rfl) ?_ _;go_wp2_with fail
   go_roundw
   case rel => exact ⟨i + 1, by omega, by go_num, hE⟩
   case measure => simp [intOf]; omega
theorem ssym_v {w u : World} {g n cap gf : Nat} {E : Nat → List Value} {κ : Nat → Rat} (hX : IxE n E) (hn9 : n ≤ 1000) (eg : ∀ args W, (callFunc gf args).run Tryz.prog W = .ok (.enter gf args) W) (hcmp : ∀ V, Kept u g V → CmpK gf n E κ V) (heq : ∀ k, k < n → κ k = κ 0) : ∀ (s a m b : Nat) (V : World), b - a ≤ s → a < m → m < b → b ≤ n → Below w.heap.size w V → Rw 76 11 g n cap E V → Kept u g V →
  Calls Tryz.prog 144 #[.slice (some ⟨g, 0, none⟩) n cap, .int .i64 (a : Int), .int .i64 (m : Int), .int .i64 (b : Int), .func (.func gf) #[] #[]] V (fun e w' => (∃ v, e = .returned v) ∧ Rw 76 11 g n cap E w' ∧ Kept u g w') := by
 have Hhcmp := Lib.hid hcmp;clear hcmp;have HhX := Lib.hid hX;clear hX;intro s
 induction s with
 | zero => intro a m b V h1 h2 h3; omega
 | succ s ih =>
  intro a m b V hs ham hmb hbn hbV hR hK;have Hih := Lib.hid ih;clear ih;have hE := ((Env.again hbV).rwr hR).kept hK;clear hR hK hbV
  go_enter Tryz.func144, Tryz.ntmps144
  obtain ⟨d1, hd1⟩ : ∃ d, d = m - a := ⟨_, rfl⟩
  obtain ⟨d2, hd2⟩ : ∃ d, d = b - m := ⟨_, rfl⟩
  have o1 : IntKind.i64.wrap ((m : Int) - (a : Int)) = (d1 : Int) := by rw [IntKind.wrap_i64]; omega
  have o2 : IntKind.i64.wrap ((b : Int) - (m : Int)) = (d2 : Int) := by rw [IntKind.wrap_i64]; omega
  have Hhd1 := Lib.hid hd1;clear hd1;have Hhd2 := Lib.hid hd2;clear hd2
  by_cases hc1 : d1 = 1
  ·
   have ta1 : ((d1 : Int) == 1) = true := by rw [beq_iff_eq]; omega
   have ta2 : (d1 == 1) = true := by rw [beq_iff_eq]; omega
   have hm1 : m = a + 1 := by have := Hhd1.out; omega
   have Hhc1 := Lib.hid hc1;clear hc1;have Hhm1 := Lib.hid hm1;clear hm1;go_wp2_with fail
   clear ta1 ta2
   go_loopw [10, 11, 12] (fun x y z wr => ∃ j : Nat, m ≤ j ∧ j ≤ b ∧ x = .int .i64 (m : Int) ∧ y = .int .i64 (j : Int) ∧ Env w (fun V => ((True ∧ Rw 76 11 g n cap E V) ∧ Kept u g V)) wr) (fun _ y _ _ => (intOf y).toNat - m)
   case atStart => exact ⟨b, by omega, Nat.le_refl b, rfl, rfl, hE⟩
   case round =>
    clear hE;obtain ⟨j, hmj, hjb, rfl, rfl, hE⟩ := hrel
    by_cases hlt : m < j
    rotate_left
    ·
     obtain rfl : m = j := by omega
     have t1 : decide ((m : Int) < (m : Int)) = false := decide_eq_false (by omega);go_wp2_with fail
     clear t1
     go_loopw [13] (fun x wr => x = .int .i64 (a : Int) ∧ Env w (fun V => ((True ∧ Rw 76 11 g n cap E V) ∧ Kept u g V)) wr) (fun _ _ => 0)
     case atStart => exact ⟨rfl, hE⟩
     case round =>
      clear hE;obtain ⟨rfl, hE⟩ := hrel
      have o3 : IntKind.i64.wrap ((m : Int) - 1) = (a : Int) := by have := Hhm1.out; rw [IntKind.wrap_i64]; omega
      have t1 : decide ((a : Int) < (a : Int)) = false := decide_eq_false (by omega);go_wp2_with fail
      refine bodyPost_ret (results_none rfl _ _ _) rfl ?_;exact ⟨⟨_, rfl⟩, hE.here.1.2, hE.here.2⟩
    have t1 : decide ((m : Int) < (j : Int)) = true := decide_eq_true (by omega)
    obtain ⟨S, hS⟩ : ∃ S, S = m + j := ⟨_, rfl⟩
    obtain ⟨h, hh⟩ : ∃ h, h = S / 2 := ⟨_, rfl⟩
    have m1 : IntKind.i64.wrap ((m : Int) + (j : Int)) = (S : Int) := by rw [IntKind.wrap_i64]; omega
    have m2 : IntKind.u64.wrap (S : Int) = (S : Int) := by rw [IntKind.wrap_u64]; omega
    have m3 : ((S : Int) / 2) = (h : Int) := by omega
    have m4 : IntKind.i64.wrap (h : Int) = (h : Int) := by rw [IntKind.wrap_i64]; omega
    have m5 : IntKind.u64.wrap (h : Int) = (h : Int) := by rw [IntKind.wrap_u64]; omega
    have m6 : (S / 2) = h := hh.symm
    have hhn : h < n := by omega
    have han : a < n := by omega
    have i1 : (h : Int) < (n : Int) := by omega
    have i2 : (a : Int) < (n : Int) := by omega
    have hhj : m ≤ h ∧ h < j := by omega
    have HhS := Lib.hid hS;clear hS;have Hhh := Lib.hid hh;clear hh
    go_upto_region 5 with (fail)
    clear t1 m1 m2 m3 m4 m5 m6;replace hE := hE.drew;refine wp_region_held_drew (S := fun V => Rw 76 11 g n cap E V) (by kernel_rfl) (hE.here.1.2) (fun hHeld => ?_)
    generalize wr.drew = wd at *
    refine tk 0 ?_;refine tk 1 ?_;refine tk 2 ?_;refine tk 3 ?_;refine wpAnyH_take (i := 4) (v := .agg (E h).toArray) rfl (by kernel_rfl) (by kernel_rfl) (by kernel_rfl) (fun _ _ _ h => h) (Or.inl ⟨by rfl, ?hy2_4_5⟩) (by assumption) ?rest2_4_5
    case hy2_4_5 =>
     intro w hSw;exact ld_exec (ix_load hSw hhn (HhX.out _ hhn).1 (by omega)) rfl rfl
    try simp only [PL]
    refine tk 5 ?_;refine tk 6 ?_;refine tk 7 ?_;refine wpAnyH_take (i := 8) (v := .agg (E a).toArray) rfl (by kernel_rfl) (by kernel_rfl) (by kernel_rfl) (fun _ _ _ h => h) (Or.inl ⟨by rfl, ?hy2_8_9⟩) (by assumption) ?rest2_8_9
    case hy2_8_9 =>
     intro w hSw;exact ld_exec (ix_load hSw han (HhX.out _ han).1 (by omega)) rfl rfl
    try simp only [PL]
    refine r1 9 (fun K hK => ?_);go_simp;refine (cmpE_no (Hhcmp.out _ (hE.here.2)) heq hhn han).mono ?_
    rintro e w1 ⟨z, rfl, hv, hb⟩
    replace hE := hE.step hb;clear hb;go_wp2_with fail
    refine hK.out _ _ (hE.here.1.2) (fun hHeld => ?_);clear hK K;try simp only [PL]
    refine tk 10 ?_;refine wpAnyH_done (by kernel_rfl) ?_ _;go_wp2_with fail
    go_roundw
    case rel => exact ⟨h, by omega, by omega, rfl, rfl, hE⟩
    case measure => simp [intOf]; omega
  have ta1 : ((d1 : Int) == 1) = false := beq_eq_false_iff_ne.2 (by omega);have ta2 : (d1 == 1) = false := beq_eq_false_iff_ne.2 (by omega);have Hhc1 := Lib.hid hc1;clear hc1
  by_cases hc2 : d2 = 1
  ·
   have tb1 : ((d2 : Int) == 1) = true := by rw [beq_iff_eq]; omega
   have tb2 : (d2 == 1) = true := by rw [beq_iff_eq]; omega
   have hb1 : b = m + 1 := by have := Hhd2.out; omega
   have Hhc2 := Lib.hid hc2;clear hc2;have Hhb1 := Lib.hid hb1;clear hb1;go_wp2_with fail
   clear ta1 ta2 tb1 tb2
   go_loopw [14, 15, 16] (fun x y z wr => ∃ i : Nat, a ≤ i ∧ i ≤ m ∧ x = .int .i64 (i : Int) ∧ y = .int .i64 (m : Int) ∧ Env w (fun V => ((True ∧ Rw 76 11 g n cap E V) ∧ Kept u g V)) wr) (fun x _ _ _ => m - (intOf x).toNat)
   case atStart => exact ⟨a, Nat.le_refl a, by omega, rfl, rfl, hE⟩
   case round =>
    clear hE;obtain ⟨i, hai, him, rfl, rfl, hE⟩ := hrel
    by_cases hlt : i < m
    rotate_left
    ·
     obtain rfl : i = m := by omega
     have t1 : decide ((i : Int) < (i : Int)) = false := decide_eq_false (by omega);go_wp2_with fail
     go_loopw [17] (fun x wr => x = .int .i64 (i : Int) ∧ Env w (fun V => ((True ∧ Rw 76 11 g n cap E V) ∧ Kept u g V)) wr) (fun _ _ => 0)
     case atStart => exact ⟨rfl, hE⟩
     case round =>
      clear hE;obtain ⟨rfl, hE⟩ := hrel;go_wp2_with fail
      refine bodyPost_ret (results_none rfl _ _ _) rfl ?_;exact ⟨⟨_, rfl⟩, hE.here.1.2, hE.here.2⟩
    have t1 : decide ((i : Int) < (m : Int)) = true := decide_eq_true (by omega)
    obtain ⟨S, hS⟩ : ∃ S, S = i + m := ⟨_, rfl⟩
    obtain ⟨h, hh⟩ : ∃ h, h = S / 2 := ⟨_, rfl⟩
    have m1 : IntKind.i64.wrap ((i : Int) + (m : Int)) = (S : Int) := by rw [IntKind.wrap_i64]; omega
    have m2 : IntKind.u64.wrap (S : Int) = (S : Int) := by rw [IntKind.wrap_u64]; omega
    have m3 : ((S : Int) / 2) = (h : Int) := by omega
    have m4 : IntKind.i64.wrap (h : Int) = (h : Int) := by rw [IntKind.wrap_i64]; omega
    have m5 : IntKind.u64.wrap (h : Int) = (h : Int) := by rw [IntKind.wrap_u64]; omega
    have m6 : (S / 2) = h := hh.symm
    have hhn : h < n := by omega
    have hmn : m < n := by omega
    have i1 : (h : Int) < (n : Int) := by omega
    have i2 : (m : Int) < (n : Int) := by omega
    have hhj : i ≤ h ∧ h < m := by omega
    have o4 : IntKind.i64.wrap ((h : Int) + 1) = ((h + 1 : Nat) : Int) := by rw [IntKind.wrap_i64]; omega
    have HhS := Lib.hid hS;clear hS;have Hhh := Lib.hid hh;clear hh
    go_upto_region 17 with (fail)
    clear t1 m1 m2 m3 m4 m5 m6;replace hE := hE.drew;refine wp_region_held_drew (S := fun V => Rw 76 11 g n cap E V) (by kernel_rfl) (hE.here.1.2) (fun hHeld => ?_)
    generalize wr.drew = wd at *
    refine tk 0 ?_;refine tk 1 ?_;refine tk 2 ?_;refine tk 3 ?_;refine wpAnyH_take (i := 4) (v := .agg (E m).toArray) rfl (by kernel_rfl) (by kernel_rfl) (by kernel_rfl) (fun _ _ _ h => h) (Or.inl ⟨by rfl, ?hy3_4_5⟩) (by assumption) ?rest3_4_5
    case hy3_4_5 =>
     intro w hSw;exact ld_exec (ix_load hSw hmn (HhX.out _ hmn).1 (by omega)) rfl rfl
    try simp only [PL]
    refine tk 5 ?_;refine tk 6 ?_;refine tk 7 ?_;refine wpAnyH_take (i := 8) (v := .agg (E h).toArray) rfl (by kernel_rfl) (by kernel_rfl) (by kernel_rfl) (fun _ _ _ h => h) (Or.inl ⟨by rfl, ?hy3_8_9⟩) (by assumption) ?rest3_8_9
    case hy3_8_9 =>
     intro w hSw;exact ld_exec (ix_load hSw hhn (HhX.out _ hhn).1 (by omega)) rfl rfl
    try simp only [PL]
    refine r1 9 (fun K hK => ?_);go_simp;refine (cmpE_no (Hhcmp.out _ (hE.here.2)) heq hmn hhn).mono ?_
    rintro e w2 ⟨z, rfl, hv, hb⟩
    replace hE := hE.step hb;clear hb;go_wp2_with fail
    refine hK.out _ _ (hE.here.1.2) (fun hHeld => ?_);clear hK K;try simp only [PL]
    refine tk 10 ?_;refine tk 11 ?_;refine wpAnyH_done (by kernel_rfl) ?_ _;go_wp2_with fail
    go_roundw
    case rel => exact ⟨h + 1, by omega, by omega, by go_num, rfl, hE⟩
    case measure => simp [intOf]; omega
  have tb1 : ((d2 : Int) == 1) = false := beq_eq_false_iff_ne.2 (by omega);have tb2 : (d2 == 1) = false := beq_eq_false_iff_ne.2 (by omega);have Hhc2 := Lib.hid hc2;clear hc2
  obtain ⟨S, hS⟩ : ∃ S, S = a + b := ⟨_, rfl⟩
  obtain ⟨c, hc⟩ : ∃ c, c = S / 2 := ⟨_, rfl⟩
  have hd12 : d1 ≠ 1 ∧ d2 ≠ 1 := ⟨Hhc1.out, Hhc2.out⟩;have e1 := Hhd1.out;have e2 := Hhd2.out
  have m1 : IntKind.i64.wrap ((a : Int) + (b : Int)) = (S : Int) := by rw [IntKind.wrap_i64]; omega
  have m2 : IntKind.u64.wrap (S : Int) = (S : Int) := by rw [IntKind.wrap_u64]; omega
  have m3 : ((S : Int) / 2) = (c : Int) := by omega
  have m4 : IntKind.i64.wrap (c : Int) = (c : Int) := by rw [IntKind.wrap_i64]; omega
  have m5 : IntKind.u64.wrap (c : Int) = (c : Int) := by rw [IntKind.wrap_u64]; omega
  have m6 : (S / 2) = c := hc.symm
  have n1 : IntKind.i64.wrap ((c : Int) + (m : Int)) = ((c + m : Nat) : Int) := by rw [IntKind.wrap_i64]; omega
  obtain ⟨N, hN⟩ : ∃ N, N = c + m := ⟨_, rfl⟩
  rw [← hN] at n1
  have n3 : IntKind.i64.wrap ((N : Int) - 1) = ((N - 1 : Nat) : Int) := by rw [IntKind.wrap_i64]; omega
  obtain ⟨p, hp⟩ : ∃ p, p = N - 1 := ⟨_, rfl⟩
  rw [← hp] at n3
  have hac : a < c ∧ c < b := by omega
  have HS0 := Lib.hid hS
  by_cases hmc : c < m
  ·
   obtain ⟨st, hst⟩ : ∃ st, st = N - b := ⟨_, rfl⟩
   have n2 : IntKind.i64.wrap ((N : Int) - (b : Int)) = (st : Int) := by rw [IntKind.wrap_i64]; omega
   have hstc : st ≤ c ∧ c + m = st + b := by omega
   have t1 : decide ((c : Int) < (m : Int)) = true := decide_eq_true (by omega);have HhS := Lib.hid hS;clear hS;have Hhc := Lib.hid hc;clear hc;have HhN := Lib.hid hN;clear hN;have Hhp := Lib.hid hp;clear hp;have Hhst := Lib.hid hst;clear hst;clear e1 e2 hd12;go_wp2_with fail
   clear t1 ta1 ta2 tb1 tb2 m1 m2 m3 m4 m5 m6 n1 n3
   go_loopw [20, 21, 23] (fun x y z wr => ∃ i : Nat, st ≤ i ∧ i ≤ c ∧ x = .int .i64 (i : Int) ∧ y = .int .i64 (c : Int) ∧ Env w (fun V => ((True ∧ Rw 76 11 g n cap E V) ∧ Kept u g V)) wr) (fun x _ _ _ => c - (intOf x).toNat)
   case atStart => exact ⟨st, Nat.le_refl _, by omega, rfl, rfl, hE⟩
   case round =>
    clear hE;obtain ⟨i, hai, him, rfl, rfl, hE⟩ := hrel
    by_cases hlt : i < c
    rotate_left
    ·
     obtain rfl : c = i := by omega
     have q1 : decide ((c : Int) < (c : Int)) = false := decide_eq_false (by omega)
     have q2 : IntKind.i64.wrap ((N : Int) - (c : Int)) = (m : Int) := by have := HhN.out; rw [IntKind.wrap_i64]; omega
     have q3 : decide ((c : Int) < (m : Int)) = true := decide_eq_true (by omega);have q4 : decide ((m : Int) < (m : Int)) = false := decide_eq_false (by omega);have q5 : decide ((a : Int) < (c : Int)) = true := decide_eq_true (by omega);have q6 : decide ((m : Int) < (b : Int)) = true := decide_eq_true (by omega);go_wp2_with fail
     refine (Hih.out c m b _ (by omega) (by omega) (by omega) hbn hE.bel (hE.here.1.2) (hE.here.2)).mono ?_
     rintro e w3 ⟨⟨v, rfl⟩, hR2, hK2⟩
     have HF := Lib.hid (And.intro hR2 hK2);clear hR2 hK2;go_wp2_with fail
     go_end0
     exact ⟨⟨_, rfl⟩, HF.out⟩
    have t1 : decide ((i : Int) < (c : Int)) = true := decide_eq_true (by omega)
    obtain ⟨S, hS⟩ : ∃ S, S = i + c := ⟨_, rfl⟩
    obtain ⟨h, hh⟩ : ∃ h, h = S / 2 := ⟨_, rfl⟩
    have m1 : IntKind.i64.wrap ((i : Int) + (c : Int)) = (S : Int) := by rw [IntKind.wrap_i64]; omega
    have m2 : IntKind.u64.wrap (S : Int) = (S : Int) := by rw [IntKind.wrap_u64]; omega
    have m3 : ((S : Int) / 2) = (h : Int) := by omega
    have m4 : IntKind.i64.wrap (h : Int) = (h : Int) := by rw [IntKind.wrap_i64]; omega
    have m5 : IntKind.u64.wrap (h : Int) = (h : Int) := by rw [IntKind.wrap_u64]; omega
    have m6 : (S / 2) = h := hh.symm
    have hhj : i ≤ h ∧ h < c := by omega
    have hpN := Hhp.out;have hNN := HhN.out
    have hac2 : 2 * c ≤ a + b := by have h1 := HS0.out; have h2 := Hhc.out; omega
    obtain ⟨y, hy⟩ : ∃ y, y = p - h := ⟨_, rfl⟩
    have hyn : y < n := by omega
    have hhn : h < n := by omega
    have o5 : IntKind.i64.wrap ((p : Int) - (h : Int)) = (y : Int) := by rw [IntKind.wrap_i64]; omega
    have i1 : (h : Int) < (n : Int) := by omega
    have i2 : (y : Int) < (n : Int) := by omega
    have o4 : IntKind.i64.wrap ((h : Int) + 1) = ((h + 1 : Nat) : Int) := by rw [IntKind.wrap_i64]; omega
    have HhS := Lib.hid hS;clear hS;have Hhh := Lib.hid hh;clear hh;have Hhy := Lib.hid hy;clear hy;clear hpN hNN hac2
    go_upto_region 35 with (fail)
    clear t1 m1 m2 m3 m4 m5 m6;replace hE := hE.drew;refine wp_region_held_drew (S := fun V => Rw 76 11 g n cap E V) (by kernel_rfl) (hE.here.1.2) (fun hHeld => ?_)
    generalize wr.drew = wd at *
    refine tk 0 ?_;refine tk 1 ?_;refine tk 2 ?_;refine tk 3 ?_;refine tk 4 ?_;refine tk 5 ?_;refine wpAnyH_take (i := 6) (v := .agg (E y).toArray) rfl (by kernel_rfl) (by kernel_rfl) (by kernel_rfl) (fun _ _ _ h => h) (Or.inl ⟨by rfl, ?hy4_6_7⟩) (by assumption) ?rest4_6_7
    case hy4_6_7 =>
     intro w hSw;exact ld_exec (ix_load hSw hyn (HhX.out _ hyn).1 (by omega)) rfl rfl
    try simp only [PL]
    refine tk 7 ?_;refine tk 8 ?_;refine tk 9 ?_;refine wpAnyH_take (i := 10) (v := .agg (E h).toArray) rfl (by kernel_rfl) (by kernel_rfl) (by kernel_rfl) (fun _ _ _ h => h) (Or.inl ⟨by rfl, ?hy4_10_11⟩) (by assumption) ?rest4_10_11
    case hy4_10_11 =>
     intro w hSw;exact ld_exec (ix_load hSw hhn (HhX.out _ hhn).1 (by omega)) rfl rfl
    try simp only [PL]
    refine r1 11 (fun K hK => ?_);go_simp;refine (cmpE_no (Hhcmp.out _ (hE.here.2)) heq hyn hhn).mono ?_
    rintro e w4 ⟨z, rfl, hv, hb⟩
    replace hE := hE.step hb;clear hb;go_wp2_with fail
    refine hK.out _ _ (hE.here.1.2) (fun hHeld => ?_);clear hK K;try simp only [PL]
    refine tk 12 ?_;refine tk 13 ?_;refine wpAnyH_done (by kernel_rfl) ?_ _;go_wp2_with fail
    go_roundw
    case rel => exact ⟨h + 1, by omega, by omega, by go_num, rfl, hE⟩
    case measure => simp [intOf]; omega
  have t1 : decide ((c : Int) < (m : Int)) = false := decide_eq_false (by omega);have HhS := Lib.hid hS;clear hS;have Hhc := Lib.hid hc;clear hc;have HhN := Lib.hid hN;clear hN;have Hhp := Lib.hid hp;clear hp;clear e1 e2 hd12;go_wp2_with fail
  clear t1 ta1 ta2 tb1 tb2 m1 m2 m3 m4 m5 m6 n1 n3
  go_loopw [20, 21, 23] (fun x y z wr => ∃ i : Nat, a ≤ i ∧ i ≤ m ∧ x = .int .i64 (i : Int) ∧ y = .int .i64 (m : Int) ∧ Env w (fun V => ((True ∧ Rw 76 11 g n cap E V) ∧ Kept u g V)) wr) (fun x _ _ _ => m - (intOf x).toNat)
  case atStart => exact ⟨a, Nat.le_refl _, by omega, rfl, rfl, hE⟩
  case round =>
   clear hE;obtain ⟨i, hai, him, rfl, rfl, hE⟩ := hrel
   by_cases hlt : i < m
   rotate_left
   ·
    obtain rfl : m = i := by omega
    have q1 : decide ((m : Int) < (m : Int)) = false := decide_eq_false (by omega)
    have q2 : IntKind.i64.wrap ((N : Int) - (m : Int)) = (c : Int) := by have := HhN.out; rw [IntKind.wrap_i64]; omega
    have q3 : decide ((m : Int) < (m : Int)) = false := decide_eq_false (by omega);have q5 : decide ((a : Int) < (m : Int)) = true := decide_eq_true (by omega);have q7 : decide ((c : Int) < (c : Int)) = false := decide_eq_false (by omega)
    by_cases hmc : m < c
    ·
     have q4 : decide ((m : Int) < (c : Int)) = true := decide_eq_true (by omega);go_wp2_with fail
     refine (Hih.out a m c _ (by omega) (by omega) (by omega) (by omega) hE.bel (hE.here.1.2) (hE.here.2)).mono ?_
     rintro e w5 ⟨⟨v, rfl⟩, hR2, hK2⟩
     have HF := Lib.hid (And.intro hR2 hK2);clear hR2 hK2;go_wp2_with fail
     go_end0
     exact ⟨⟨_, rfl⟩, HF.out⟩
    have q4 : decide ((m : Int) < (c : Int)) = false := decide_eq_false (by omega);go_wp2_with fail
    go_end0
    exact ⟨⟨_, rfl⟩, hE.here.1.2, hE.here.2⟩
   have t1 : decide ((i : Int) < (m : Int)) = true := decide_eq_true (by omega)
   obtain ⟨S, hS⟩ : ∃ S, S = i + m := ⟨_, rfl⟩
   obtain ⟨h, hh⟩ : ∃ h, h = S / 2 := ⟨_, rfl⟩
   have m1 : IntKind.i64.wrap ((i : Int) + (m : Int)) = (S : Int) := by rw [IntKind.wrap_i64]; omega
   have m2 : IntKind.u64.wrap (S : Int) = (S : Int) := by rw [IntKind.wrap_u64]; omega
   have m3 : ((S : Int) / 2) = (h : Int) := by omega
   have m4 : IntKind.i64.wrap (h : Int) = (h : Int) := by rw [IntKind.wrap_i64]; omega
   have m5 : IntKind.u64.wrap (h : Int) = (h : Int) := by rw [IntKind.wrap_u64]; omega
   have m6 : (S / 2) = h := hh.symm
   have hhj : i ≤ h ∧ h < m := by omega
   have hpN := Hhp.out;have hNN := HhN.out
   have hac2 : 2 * c ≤ a + b := by have h1 := HS0.out; have h2 := Hhc.out; omega
   obtain ⟨y, hy⟩ : ∃ y, y = p - h := ⟨_, rfl⟩
   have hyn : y < n := by omega
   have hhn : h < n := by omega
   have o5 : IntKind.i64.wrap ((p : Int) - (h : Int)) = (y : Int) := by rw [IntKind.wrap_i64]; omega
   have i1 : (h : Int) < (n : Int) := by omega
   have i2 : (y : Int) < (n : Int) := by omega
   have o4 : IntKind.i64.wrap ((h : Int) + 1) = ((h + 1 : Nat) : Int) := by rw [IntKind.wrap_i64]; omega
   have HhS := Lib.hid hS;clear hS;have Hhh := Lib.hid hh;clear hh;have Hhy := Lib.hid hy;clear hy;clear hpN hNN hac2
   go_upto_region 35 with (fail)
   clear t1 m1 m2 m3 m4 m5 m6;replace hE := hE.drew;refine wp_region_held_drew (S := fun V => Rw 76 11 g n cap E V) (by kernel_rfl) (hE.here.1.2) (fun hHeld => ?_)
   generalize wr.drew = wd at *
   refine tk 0 ?_;refine tk 1 ?_;refine tk 2 ?_;refine tk 3 ?_;refine tk 4 ?_;refine tk 5 ?_;refine wpAnyH_take (i := 6) (v := .agg (E y).toArray) rfl (by kernel_rfl) (by kernel_rfl) (by kernel_rfl) (fun _ _ _ h => h) (Or.inl ⟨by rfl, ?hy5_6_7⟩) (by assumption) ?rest5_6_7
   case hy5_6_7 =>
    intro w hSw;exact ld_exec (ix_load hSw hyn (HhX.out _ hyn).1 (by omega)) rfl rfl
   try simp only [PL]
   refine tk 7 ?_;refine tk 8 ?_;refine tk 9 ?_;refine wpAnyH_take (i := 10) (v := .agg (E h).toArray) rfl (by kernel_rfl) (by kernel_rfl) (by kernel_rfl) (fun _ _ _ h => h) (Or.inl ⟨by rfl, ?hy5_10_11⟩) (by assumption) ?rest5_10_11
   case hy5_10_11 =>
    intro w hSw;exact ld_exec (ix_load hSw hhn (HhX.out _ hhn).1 (by omega)) rfl rfl
   try simp only [PL]
   refine r1 11 (fun K hK => ?_);go_simp;refine (cmpE_no (Hhcmp.out _ (hE.here.2)) heq hyn hhn).mono ?_
   rintro e w6 ⟨z, rfl, hv, hb⟩
   replace hE := hE.step hb;clear hb;go_wp2_with fail
   refine hK.out _ _ (hE.here.1.2) (fun hHeld => ?_);clear hK K;try simp only [PL]
   refine tk 12 ?_;refine tk 13 ?_;refine wpAnyH_done (by kernel_rfl) ?_ _;go_wp2_with fail
   go_roundw
   case rel => exact ⟨h + 1, by omega, by omega, by go_num, rfl, hE⟩
   case measure => simp [intOf]; omega
theorem kept_bel {w u V : World} {g : Nat} (hb : Below w.heap.size w u) (hg : w.heap.size ≤ g) (h : Kept u g V) : Below w.heap.size w V := Go.Proofs.YtjgihmmeimfheaaGreat.Below.grownB hb h hb.size hg
theorem srd_eq {n : Nat} {κ : Nat → Rat} (heq : ∀ k, k < n → κ k = κ 0) : Srd n κ n (fun k => k) := ⟨Bij.id n, fun _ _ _ => rfl, fun _ h _ => h, fun a b h1 _ h3 => .inr ⟨by rw [heq a (by omega), heq b h3], h1⟩⟩
theorem sstabE_v {w u : World} {g n cap gf : Nat} {E : Nat → List Value} {κ : Nat → Rat} (hbu : Below w.heap.size w u) (hg : w.heap.size ≤ g) (hR : Rw 76 11 g n cap E u) (hX : IxE n E) (hn9 : n ≤ 1000) (eg : ∀ args W, (callFunc gf args).run Tryz.prog W = .ok (.enter gf args) W) (hcmp : ∀ V, Kept u g V → CmpK gf n E κ V) (heq : ∀ k, k < n → κ k = κ 0) (h20 : 20 ≤ n) (h39 : n ≤ 39) :
  Calls Tryz.prog 119 #[.slice (some ⟨g, 0, none⟩) n cap, .int .i64 (n : Int), .func (.func gf) #[] #[]] u (fun e w' => (∃ v, e = .returned v) ∧ Rw 76 11 g n cap E w' ∧ Kept u g w') := by
 have hbw := hbu;have hwg := hg;have hI := Lib.hid (sinsE_v (w := w) (u := u) (cap := cap) hX hn9 eg hcmp heq (a := 0) (b := 20) (by omega) h20);have hJ := Lib.hid (sinsE_v (w := w) (u := u) (cap := cap) hX hn9 eg hcmp heq (a := 20) (b := n) h20 (Nat.le_refl n));have hS := Lib.hid (ssym_v (w := w) (u := u) (cap := cap) hX hn9 eg hcmp heq n 0 20 n);have hE := ((Env.again hbu).rwr hR).kept (Kept.refl u g);clear hcmp hX hR hbu
 go_enter Tryz.func119, Tryz.ntmps119
 go_wp2_with fail
 go_loopw [7, 8] (fun x y wr => ((x = .int .i64 0 ∧ y = .int .i64 20) ∨ (x = .int .i64 20 ∧ y = .int .i64 40)) ∧ Env w (fun V => ((True ∧ Rw 76 11 g n cap E V) ∧ Kept u g V)) wr) (fun _ y _ => (40 - intOf y).toNat)
 case atStart => exact ⟨.inl ⟨rfl, rfl⟩, hE⟩
 case round =>
  clear hE;obtain ⟨⟨rfl, rfl⟩ | ⟨rfl, rfl⟩, hE⟩ := hrel
  ·
   have t1 : decide ((20 : Int) ≤ (n : Int)) = true := decide_eq_true (by omega);have t2 : decide (20 ≤ n) = true := decide_eq_true h20;go_wp2_with fail
   refine (hI.out _ hE.bel (hE.here.1.2) (hE.here.2)).mono ?_
   rintro e w1 ⟨⟨v, rfl⟩, hR2, hK2⟩
   have HF := Lib.hid (And.intro hR2 hK2);clear hR2 hK2;go_wp2_with fail
   go_roundw
   case rel => exact ⟨.inr ⟨rfl, rfl⟩, ((Env.again (kept_bel hbw hwg HF.out.2)).rwr HF.out.1).kept HF.out.2⟩
   case measure => simp [intOf]
  have t1 : decide ((40 : Int) ≤ (n : Int)) = false := decide_eq_false (by omega);have t2 : decide (40 ≤ n) = false := decide_eq_false (by omega);go_wp2_with fail
  clear t1 t2;refine (hJ.out _ hE.bel (hE.here.1.2) (hE.here.2)).mono ?_
  rintro e w2 ⟨⟨v, rfl⟩, hR2, hK2⟩
  replace hE := ((Env.again (kept_bel hbw hwg hK2)).rwr hR2).kept hK2;clear hR2 hK2;go_wp2_with fail
  go_loopw [6, 7, 8, 9] (fun x y z q wr => (x = .int .i64 20 ∨ x = .int .i64 40) ∧ Env w (fun V => ((True ∧ Rw 76 11 g n cap E V) ∧ Kept u g V)) wr) (fun x _ _ _ _ => (40 - intOf x).toNat)
  case atStart => exact ⟨.inl rfl, hE⟩
  case round =>
   clear hE;obtain ⟨rfl | rfl, hE⟩ := hrel
   ·
    by_cases hlt : 20 < n
    rotate_left
    ·
     have t1 : decide ((20 : Int) < (n : Int)) = false := decide_eq_false (by omega);have t2 : decide (20 < n) = false := decide_eq_false hlt;go_wp2_with fail
     go_end0
     exact ⟨⟨_, rfl⟩, hE.here.1.2, hE.here.2⟩
    have t1 : decide ((20 : Int) < (n : Int)) = true := decide_eq_true (by omega);have t2 : decide (20 < n) = true := decide_eq_true hlt;go_wp2_with fail
    go_loopw [7, 8] (fun y z wr => y = .int .i64 0 ∧ z = .int .i64 40 ∧ Env w (fun V => ((True ∧ Rw 76 11 g n cap E V) ∧ Kept u g V)) wr) (fun _ _ _ => 0)
    case atStart => exact ⟨rfl, rfl, hE⟩
    case round =>
     clear hE;obtain ⟨rfl, rfl, hE⟩ := hrel;have t3 : decide ((40 : Int) ≤ (n : Int)) = false := decide_eq_false (by omega);have t4 : decide (40 ≤ n) = false := decide_eq_false (by omega);go_wp2_with fail
     refine (hS.out _ (by omega) (by decide) hlt (Nat.le_refl n) hE.bel (hE.here.1.2) (hE.here.2)).mono ?_
     rintro e w3 ⟨⟨v, rfl⟩, hR2, hK2⟩
     have HF := Lib.hid (And.intro hR2 hK2);clear hR2 hK2;go_wp2_with fail
     go_roundw
     case rel => exact ⟨.inr rfl, ((Env.again (kept_bel hbw hwg HF.out.2)).rwr HF.out.1).kept HF.out.2⟩
     case measure => simp [intOf]
   have t1 : decide ((40 : Int) < (n : Int)) = false := decide_eq_false (by omega);have t2 : decide (40 < n) = false := decide_eq_false (by omega);go_wp2_with fail
   go_end0
   exact ⟨⟨_, rfl⟩, hE.here.1.2, hE.here.2⟩
theorem ssort2_v {w u : World} {g n cap gf : Nat} {E : Nat → List Value} {κ : Nat → Rat} (hbu : Below w.heap.size w u) (hg : w.heap.size ≤ g) (hR : Rw 76 11 g n cap E u) (hX : IxE n E) (hn9 : n ≤ 1000) (eg : ∀ args W, (callFunc gf args).run Tryz.prog W = .ok (.enter gf args) W) (hcmp : ∀ V, Kept u g V → CmpK gf n E κ V) (hs : n ≤ 19 ∨ (n ≤ 39 ∧ ∀ k, k < n → κ k = κ 0)) :
  Calls Tryz.prog 81 #[.slice (some ⟨g, 0, none⟩) n cap, .func (.func gf) #[] #[]] u (fun e w' => (∃ v, e = .returned v) ∧ ∃ p, Srd n κ n p ∧ Rw 76 11 g n cap (fun k => E (p k)) w' ∧ Kept u g w') := by
 by_cases h19 : n ≤ 19
 · exact ssort_v hbu hg hR hX hn9 eg hcmp h19
 ·
  obtain ⟨h39, heq⟩ := hs.resolve_left h19;have hC := Lib.hid (sstabE_v (w := w) hbu hg hR hX hn9 eg hcmp heq (by omega) h39);have Heq := Lib.hid heq;clear hcmp hX hR heq hs h19
  go_enter Tryz.func81, Tryz.ntmps81
  go_wp2_with fail
  refine hC.out.mono ?_
  rintro e w1 ⟨⟨v, rfl⟩, hP⟩
  have HP := Lib.hid hP;clear hP;go_wp2_with fail
  go_end0
  exact ⟨⟨_, rfl⟩, fun k => k, srd_eq Heq.out, HP.out⟩
end
end Go.Proofs.YtjgihmmeimfheaaGreat
