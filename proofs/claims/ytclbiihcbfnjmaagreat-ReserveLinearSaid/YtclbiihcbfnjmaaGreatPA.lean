/-
  Parts.
-/
import Derived.Test.YtclbiihcbfnjmaaGreatK8
import Derived.Test.YtclbiihcbfnjmaaGreatK20
import Derived.Test.YtclbiihcbfnjmaaGreatK21
import Derived.Test.YtclbiihcbfnjmaaGreatK22
set_option linter.unusedSimpArgs false
set_option maxRecDepth 100000
set_option maxHeartbeats 8000000
namespace Go.Proofs.YtclbiihcbfnjmaaGreat
open Go.RowKit

theorem wpList_stP {P : Program} {w w' : World} {ops : Array Oper} {rest : List Oper} {o : Oper} {a : Act} {Q : Exit → Act → World → Prop} {ty : TypeId} {x y : Operand} {p v : Value} (hr : (Instr.storeAt ty p v).run P w = .ok () w') (hg : o.guard = none) (ho : o.op = .store ty x y) (hx : a.eval x = p) (hy : a.eval y = v)
  (h : wpList P ops Q rest (a.put o.dst undef) w') : wpList P ops Q (o :: rest) a w :=
 wpList_plain hg fun _ hK => by
  unfold Oper.wp execOp;simp only [ho, hx, hy, Sem.run_bind, Sem.run_pure, Result.andThen_ok, hr];exact hK _ _ h
theorem store_all (T : TypeId) {t : TypeId} {g : Nat} {cs : Array Value} {W : World} (hB : Blk t g cs W) (vs : List Value) (hl : cs.size = vs.length) (hs : (Tryz.prog.info? T).map (·.size) = some vs.length) (h1 : ∀ v ∈ vs, v.oneCell' = true) :
  (Instr.storeAt T (.pointer (some ⟨g, 0, none⟩)) (.agg vs.toArray)).run Tryz.prog W = .ok () (W.setCells g 0 vs) :=
 run_storeAt_mid (P := Tryz.prog) W g 0 T vs.toArray (by rw [List.size_toArray]; exact there_of hB (by omega)) (by rw [List.size_toArray]; exact hs) (all_oneCell_toArray h1)
theorem two_keep {t : TypeId} {g : Nat} {cs : Array Value} {U : World} (h : Blk t g cs U) (t1 : TypeId) (A : Array Value) (t2 : TypeId) (B : Array Value) : Blk t g cs ((U.alloc (.cells A t1)).alloc (.cells B t2)) :=
 Blk.stable _ _ _ _ _ (belAlloc _ _) (Blk.stable _ _ _ _ _ (belAlloc _ _) h)
def smL (k : Nat) : Int := if k = 2 then 500 else 0
def smK (_ : Nat) : Int := 1000
def SampleP (w : World) (e : Ending) (w' : World) : Prop := ∃ s A n c t B m d GA GB, e = .returned (.agg #[.int .i64 60, .int .i64 0, .int .i64 2, .bool s, .slice A n c, .bool t, .slice B m d, .slice (some ⟨GA, 0, none⟩) 3 3, .slice (some ⟨GB, 0, none⟩) 3 3]) ∧ FV w' (Rat.divInt 100 1) s A n t B m ∧ RdI (some ⟨GA, 0, none⟩) 3 smL w' ∧ RdI (some ⟨GB, 0, none⟩) 3 smK w' ∧ Below w.heap.size w w'
theorem psample_v (w : World) :
  Calls Tryz.prog 48 #[] w (SampleP w) := by
 have hE := (Env.start w).blk 36 qz9 (g := w.heap.size) rfl
 obtain ⟨W0, hW0⟩ : ∃ W0, W0 = w.alloc (.cells qz9 36) := ⟨_, rfl⟩
 rw [← hW0] at hE;have HW0 := Lib.hid hW0;clear hW0
 go_enter Tryz.func48, Tryz.ntmps48
 go_upto_region 1 with (fail)
 rw [← HW0.out];go_wp2_with fail
 refine hE.fr (p_quick 100 1 W0 (by decide) (by decide) (by decide) (by decide) (by decide)) ?_;clear hE;intro sp Ap np cp tp Bp mp dp w1 hE;have hW2 := two_keep hE.here.1.2 3 #[.int .i64 0, .int .i64 0, .int .i64 500] 3 #[.int .i64 1000, .int .i64 1000, .int .i64 1000];have hst := store_all 36 hW2 [.int .i64 60, .int .i64 0, .int .i64 2, .bool sp, .slice Ap np cp, .bool tp, .slice Bp mp dp, .slice (some ⟨w1.heap.size, 0, none⟩) 3 3, .slice (some ⟨w1.heap.size + 1, 0, none⟩) 3 3] rfl (by kernel_rfl) (fun v hv => by simp only [List.mem_cons, List.not_mem_nil, or_false] at hv; rcases hv with rfl | rfl | rfl | rfl | rfl | rfl | rfl | rfl | rfl <;> rfl);obtain ⟨hgr, hB⟩ := sets_all hW2 [.int .i64 60, .int .i64 0, .int .i64 2, .bool sp, .slice Ap np cp, .bool tp, .slice Bp mp dp, .slice (some ⟨w1.heap.size, 0, none⟩) 3 3, .slice (some ⟨w1.heap.size + 1, 0, none⟩) 3 3] rfl;have hA2 := Blk.new w1 3 #[.int .i64 0, .int .i64 0, .int .i64 500];have hb1 := belAlloc w1 (.cells #[.int .i64 0, .int .i64 0, .int .i64 500] 3);have hB2 := Blk.new (w1.alloc (.cells #[.int .i64 0, .int .i64 0, .int .i64 500] 3)) 3 #[.int .i64 1000, .int .i64 1000, .int .i64 1000];have hb2 := belAlloc (w1.alloc (.cells #[.int .i64 0, .int .i64 0, .int .i64 500] 3)) (.cells #[.int .i64 1000, .int .i64 1000, .int .i64 1000] 3);rw [World.size_alloc] at hB2;have hlt := (hE.here.1.2).lt;have hA3 := Blk.grownB (Blk.stable _ _ _ _ _ hb2 hA2) hgr (by omega);have hB3 := Blk.grownB hB2 hgr (by omega);have hq3 := FV.grownB ((hE.here.2.below hb1).below hb2) hW2 rfl hgr;have hBel3 := Below.grownB ((hE.bel.trans (hb1.mono hE.bel.size)).trans (hb2.mono (Nat.le_trans hE.bel.size hb1.size))) hgr (Nat.le_trans hE.bel.size (Nat.le_trans hb1.size hb2.size)) (Nat.le_refl _)
 generalize ((w1.alloc (.cells #[.int .i64 0, .int .i64 0, .int .i64 500] 3)).alloc (.cells #[.int .i64 1000, .int .i64 1000, .int .i64 1000] 3)).setCells w.heap.size 0 [.int .i64 60, .int .i64 0, .int .i64 2, .bool sp, .slice Ap np cp, .bool tp, .slice Bp mp dp, .slice (some ⟨w1.heap.size, 0, none⟩) 3 3, .slice (some ⟨w1.heap.size + 1, 0, none⟩) 3 3] = V at *
 have HQ := Lib.hid (And.intro hA3 (And.intro hB3 (And.intro hq3 (And.intro hBel3 hB))));clear hW2 hgr hA2 hb1 hB2 hb2 hA3 hB3 hq3 hBel3 hB;go_wp2_with (first | refine wpList_stP hst rfl rfl rfl rfl ?_)
 obtain ⟨hA3, hB2, hq3, hBel3, hB3⟩ := HQ.out;have y0 := hB3.cell 0;have y1 := hB3.cell 1;have y2 := hB3.cell 2;have y3 := hB3.cell 3;have y4 := hB3.cell 4;have y5 := hB3.cell 5;have y6 := hB3.cell 6;have y7 := hB3.cell 7;have y8 := hB3.cell 8;refine bodyPost_ret (v := .agg #[.int .i64 60, .int .i64 0, .int .i64 2, .bool sp, .slice Ap np cp, .bool tp, .slice Bp mp dp, .slice (some ⟨w1.heap.size, 0, none⟩) 3 3, .slice (some ⟨w1.heap.size + 1, 0, none⟩) 3 3]) (by simp [results, Tryz.results48, go_sem, y0, y1, y2, y3, y4, y5, y6, y7, y8]) rfl ?_;refine ⟨_, _, _, _, _, _, _, _, _, _, rfl, hq3, fun k hk => ⟨_, _, rfl, ?_⟩, fun k hk => ⟨_, _, rfl, ?_⟩, hBel3⟩
 ·
  rw [Nat.zero_add];exact At.of_blk hA3 k (by rcases (show k = 0 ∨ k = 1 ∨ k = 2 by omega) with rfl | rfl | rfl <;> rfl)
 ·
  rw [Nat.zero_add];exact At.of_blk hB2 k (by rcases (show k = 0 ∨ k = 1 ∨ k = 2 by omega) with rfl | rfl | rfl <;> rfl)
def SmP (b : Bh) (x : Ct) (N : Int) : Prop := SmB b.n b.r N b.i.n b.i.m ∧ (x.p.n ≤ 5 ∧ x.p.m ≤ 5) ∧ x.n ≤ 300 ∧ x.m ≤ 300
theorem plarge_any {b : Bh} {x : Ct} {N : Int} {w : World} (hT : TabM w b.A b.n b.r) (h1 : 0 ≤ N) (h2 : N ≤ 1000000) :
  Calls Tryz.prog 50 #[.agg b.C, .agg x.C, .int .i64 N] w (fun e w' => ∃ v, e = .returned (.bool v) ∧ (v = false ↔ SmP b x N) ∧ Below w.heap.size w w') := by
 by_cases hs : SmB b.n b.r N b.i.n b.i.m
 ·
  by_cases h3 : x.p.n ≤ 5
  ·
   have t1 : decide ((5 : Int) < (x.p.n : Int)) = false := decide_eq_false (by omega)
   by_cases h4 : x.p.m ≤ 5
   ·
    have t2 : decide ((5 : Int) < (x.p.m : Int)) = false := decide_eq_false (by omega)
    by_cases h5 : x.n ≤ 300
    ·
     have t3 : decide ((300 : Int) < (x.n : Int)) = false := decide_eq_false (by omega)
     by_cases h6 : x.m ≤ 300
     ·
      have t4 : decide ((300 : Int) < (x.m : Int)) = false := decide_eq_false (by omega);have HN : Hid (SmP b x N) := Lib.hid ⟨hs, ⟨h3, h4⟩, h5, h6⟩;have hE := (((Env.start w).tab hT).blk 31 b.C (g := w.heap.size) rfl).blk 36 x.C (g := w.heap.size + 1) (by simp)
      obtain ⟨W0, hW0⟩ : ∃ W0, W0 = ((w.alloc (.cells b.C 31)).alloc (.cells x.C 36)) := ⟨_, rfl⟩
      rw [← hW0] at hE;have HW0 := Lib.hid hW0;clear hW0
      go_enter Tryz.func50, Tryz.ntmps50
      go_upto_region 1 with (fail)
      rw [← HW0.out];obtain ⟨k1, k2, k3, k4, k5, k6, k7⟩ := (hE.here.1.2).c7;go_wp2_with fail
      refine (largeB_any b.F b.S N b.A b.n b.c b.r b.i.s b.i.t b.i.A b.i.B b.i.n b.i.m b.i.c b.i.d _ (hE.h2) h1 h2).mono ?_;clear k1 k2 k3 k4 k5 k6 k7
      rintro e w9 ⟨v, rfl, hv, hb⟩
      obtain rfl : v = false := hv.2 hs;clear hv;replace hE := hE.step hb;clear hb;have k8 := (hE.here.2).cell 4;have k9 := (hE.here.2).cell 6;have k10 := (hE.here.2).cell 7;have k11 := (hE.here.2).cell 8;go_wp2_with fail
      go_ret
      exact ⟨false, rfl, ⟨fun _ => HN.out, fun _ => rfl⟩, hE.bel⟩
     ·
      have t4 : decide ((300 : Int) < (x.m : Int)) = true := decide_eq_true (by omega);have HN : Hid (¬ SmP b x N) := Lib.hid (fun h => h6 (h.2.2.2));have hE := (((Env.start w).tab hT).blk 31 b.C (g := w.heap.size) rfl).blk 36 x.C (g := w.heap.size + 1) (by simp)
      obtain ⟨W0, hW0⟩ : ∃ W0, W0 = ((w.alloc (.cells b.C 31)).alloc (.cells x.C 36)) := ⟨_, rfl⟩
      rw [← hW0] at hE;have HW0 := Lib.hid hW0;clear hW0
      go_enter Tryz.func50, Tryz.ntmps50
      go_upto_region 1 with (fail)
      rw [← HW0.out];obtain ⟨k1, k2, k3, k4, k5, k6, k7⟩ := (hE.here.1.2).c7;go_wp2_with fail
      refine (largeB_any b.F b.S N b.A b.n b.c b.r b.i.s b.i.t b.i.A b.i.B b.i.n b.i.m b.i.c b.i.d _ (hE.h2) h1 h2).mono ?_;clear k1 k2 k3 k4 k5 k6 k7
      rintro e w9 ⟨v, rfl, hv, hb⟩
      obtain rfl : v = false := hv.2 hs;clear hv;replace hE := hE.step hb;clear hb;have k8 := (hE.here.2).cell 4;have k9 := (hE.here.2).cell 6;have k10 := (hE.here.2).cell 7;have k11 := (hE.here.2).cell 8;go_wp2_with fail
      go_ret
      exact ⟨true, rfl, no_tab HN.out, hE.bel⟩
    ·
     have t3 : decide ((300 : Int) < (x.n : Int)) = true := decide_eq_true (by omega);have HN : Hid (¬ SmP b x N) := Lib.hid (fun h => h5 (h.2.2.1));have hE := (((Env.start w).tab hT).blk 31 b.C (g := w.heap.size) rfl).blk 36 x.C (g := w.heap.size + 1) (by simp)
     obtain ⟨W0, hW0⟩ : ∃ W0, W0 = ((w.alloc (.cells b.C 31)).alloc (.cells x.C 36)) := ⟨_, rfl⟩
     rw [← hW0] at hE;have HW0 := Lib.hid hW0;clear hW0
     go_enter Tryz.func50, Tryz.ntmps50
     go_upto_region 1 with (fail)
     rw [← HW0.out];obtain ⟨k1, k2, k3, k4, k5, k6, k7⟩ := (hE.here.1.2).c7;go_wp2_with fail
     refine (largeB_any b.F b.S N b.A b.n b.c b.r b.i.s b.i.t b.i.A b.i.B b.i.n b.i.m b.i.c b.i.d _ (hE.h2) h1 h2).mono ?_;clear k1 k2 k3 k4 k5 k6 k7
     rintro e w9 ⟨v, rfl, hv, hb⟩
     obtain rfl : v = false := hv.2 hs;clear hv;replace hE := hE.step hb;clear hb;have k8 := (hE.here.2).cell 4;have k9 := (hE.here.2).cell 6;have k10 := (hE.here.2).cell 7;have k11 := (hE.here.2).cell 8;go_wp2_with fail
     go_ret
     exact ⟨true, rfl, no_tab HN.out, hE.bel⟩
   ·
    have t2 : decide ((5 : Int) < (x.p.m : Int)) = true := decide_eq_true (by omega);have HN : Hid (¬ SmP b x N) := Lib.hid (fun h => h4 (h.2.1.2));have hE := (((Env.start w).tab hT).blk 31 b.C (g := w.heap.size) rfl).blk 36 x.C (g := w.heap.size + 1) (by simp)
    obtain ⟨W0, hW0⟩ : ∃ W0, W0 = ((w.alloc (.cells b.C 31)).alloc (.cells x.C 36)) := ⟨_, rfl⟩
    rw [← hW0] at hE;have HW0 := Lib.hid hW0;clear hW0
    go_enter Tryz.func50, Tryz.ntmps50
    go_upto_region 1 with (fail)
    rw [← HW0.out];obtain ⟨k1, k2, k3, k4, k5, k6, k7⟩ := (hE.here.1.2).c7;go_wp2_with fail
    refine (largeB_any b.F b.S N b.A b.n b.c b.r b.i.s b.i.t b.i.A b.i.B b.i.n b.i.m b.i.c b.i.d _ (hE.h2) h1 h2).mono ?_;clear k1 k2 k3 k4 k5 k6 k7
    rintro e w9 ⟨v, rfl, hv, hb⟩
    obtain rfl : v = false := hv.2 hs;clear hv;replace hE := hE.step hb;clear hb;have k8 := (hE.here.2).cell 4;have k9 := (hE.here.2).cell 6;have k10 := (hE.here.2).cell 7;have k11 := (hE.here.2).cell 8;go_wp2_with fail
    go_ret
    exact ⟨true, rfl, no_tab HN.out, hE.bel⟩
  ·
   have t1 : decide ((5 : Int) < (x.p.n : Int)) = true := decide_eq_true (by omega);have HN : Hid (¬ SmP b x N) := Lib.hid (fun h => h3 (h.2.1.1));have hE := (((Env.start w).tab hT).blk 31 b.C (g := w.heap.size) rfl).blk 36 x.C (g := w.heap.size + 1) (by simp)
   obtain ⟨W0, hW0⟩ : ∃ W0, W0 = ((w.alloc (.cells b.C 31)).alloc (.cells x.C 36)) := ⟨_, rfl⟩
   rw [← hW0] at hE;have HW0 := Lib.hid hW0;clear hW0
   go_enter Tryz.func50, Tryz.ntmps50
   go_upto_region 1 with (fail)
   rw [← HW0.out];obtain ⟨k1, k2, k3, k4, k5, k6, k7⟩ := (hE.here.1.2).c7;go_wp2_with fail
   refine (largeB_any b.F b.S N b.A b.n b.c b.r b.i.s b.i.t b.i.A b.i.B b.i.n b.i.m b.i.c b.i.d _ (hE.h2) h1 h2).mono ?_;clear k1 k2 k3 k4 k5 k6 k7
   rintro e w9 ⟨v, rfl, hv, hb⟩
   obtain rfl : v = false := hv.2 hs;clear hv;replace hE := hE.step hb;clear hb;have k8 := (hE.here.2).cell 4;have k9 := (hE.here.2).cell 6;have k10 := (hE.here.2).cell 7;have k11 := (hE.here.2).cell 8;go_wp2_with fail
   go_ret
   exact ⟨true, rfl, no_tab HN.out, hE.bel⟩
 ·
  have HN : Hid (¬ SmP b x N) := Lib.hid (fun h => hs (h.1));have hE := (((Env.start w).tab hT).blk 31 b.C (g := w.heap.size) rfl).blk 36 x.C (g := w.heap.size + 1) (by simp)
  obtain ⟨W0, hW0⟩ : ∃ W0, W0 = ((w.alloc (.cells b.C 31)).alloc (.cells x.C 36)) := ⟨_, rfl⟩
  rw [← hW0] at hE;have HW0 := Lib.hid hW0;clear hW0
  go_enter Tryz.func50, Tryz.ntmps50
  go_upto_region 1 with (fail)
  rw [← HW0.out];obtain ⟨k1, k2, k3, k4, k5, k6, k7⟩ := (hE.here.1.2).c7;go_wp2_with fail
  refine (largeB_any b.F b.S N b.A b.n b.c b.r b.i.s b.i.t b.i.A b.i.B b.i.n b.i.m b.i.c b.i.d _ (hE.h2) h1 h2).mono ?_;clear k1 k2 k3 k4 k5 k6 k7
  rintro e w9 ⟨v, rfl, hv, hb⟩
  obtain rfl : v = true := by cases v with | true => rfl | false => exact absurd (hv.1 rfl) hs
  clear hv;replace hE := hE.step hb;clear hb;go_wp2_with fail
  go_ret
  exact ⟨true, rfl, no_tab HN.out, hE.bel⟩
def UsP (b : Bh) (x : Ct) : Prop := SmP b x 15 ∧ x.ok b
theorem SmP.bd {b : Bh} {x : Ct} {N : Int} (h : SmP b x N) (hN : N ≤ 100) (hT : -9223372036854775808 ≤ x.T ∧ x.T ≤ 9223372036854775807) : b.bd ∧ x.bd := by
 obtain ⟨⟨h1, h2, h3⟩, ⟨h4, h5⟩, h6, h7⟩ := h;exact ⟨⟨h1.b (by omega) (by decide) (by decide), by omega, by omega⟩, hT, ⟨by omega, by omega⟩, by omega, by omega⟩
theorem pusable_any {b : Bh} {x : Ct} {w : World} (hb : b.rd w) (hx : x.rd w) (hT : -9223372036854775808 ≤ x.T ∧ x.T ≤ 9223372036854775807) :
  Calls Tryz.prog 15 #[.agg b.C, .agg x.C] w (BoolIff (UsP b x) w) := by
 have Hhb := Lib.hid hb;have Hhx := Lib.hid hx;clear hb hx
 by_cases hs : SmP b x 15
 ·
  have hbd := hs.bd (by decide) hT
  by_cases ho : x.ok b
  ·
   have hE := ((Env.start w).blk 31 b.C (g := w.heap.size) rfl).blk 36 x.C (g := w.heap.size + 1) (by simp)
   obtain ⟨W0, hW0⟩ : ∃ W0, W0 = ((w.alloc (.cells b.C 31)).alloc (.cells x.C 36)) := ⟨_, rfl⟩
   rw [← hW0] at hE;have HW0 := Lib.hid hW0;clear hW0
   go_enter Tryz.func15, Tryz.ntmps15
   go_upto_region 1 with (fail)
   rw [← HW0.out];obtain ⟨k1, k2, k3, k4, k5, k6, k7⟩ := (hE.here.1.2).c7;have k8 := (hE.here.2).cell 0;have k9 := (hE.here.2).cell 1;have k10 := (hE.here.2).cell 2;have k11 := (hE.here.2).cell 3;have k12 := (hE.here.2).cell 4;have k13 := (hE.here.2).cell 5;have k14 := (hE.here.2).cell 6;have k15 := (hE.here.2).cell 7;have k16 := (hE.here.2).cell 8;go_wp2_with fail
   refine (plarge_any (x := x) (Hhb.out.1.below hE.bel) (by decide) (by decide)).mono ?_;clear k1 k2 k3 k4 k5 k6 k7 k8 k9 k10 k11 k12 k13 k14 k15 k16
   rintro e w9 ⟨v, rfl, hv, hb⟩
   obtain rfl : v = false := hv.2 hs;clear hv;replace hE := hE.step hb;clear hb;obtain ⟨k17, k18, k19, k20, k21, k22, k23⟩ := (hE.here.1.2).c7;have k24 := (hE.here.2).cell 0;have k25 := (hE.here.2).cell 1;have k26 := (hE.here.2).cell 2;have k27 := (hE.here.2).cell 3;have k28 := (hE.here.2).cell 4;have k29 := (hE.here.2).cell 5;have k30 := (hE.here.2).cell 6;have k31 := (hE.here.2).cell 7;have k32 := (hE.here.2).cell 8;go_wp2_with fail
   refine hE.br (vvalid_t (Bh.rd_below Hhb.out hE.bel) hbd.1 (Ct.rd_below Hhx.out hE.bel) hbd.2 ho) ?_;clear hE k17 k18 k19 k20 k21 k22 k23 k24 k25 k26 k27 k28 k29 k30 k31 k32;intro w33 hE;go_wp2_with fail
   go_ret
   exact ⟨true, rfl, yes_iff ⟨hs, ho⟩, hE.bel⟩
  ·
   have HN : Hid (¬ UsP b x) := Lib.hid (fun h => ho h.2);have hE := ((Env.start w).blk 31 b.C (g := w.heap.size) rfl).blk 36 x.C (g := w.heap.size + 1) (by simp)
   obtain ⟨W0, hW0⟩ : ∃ W0, W0 = ((w.alloc (.cells b.C 31)).alloc (.cells x.C 36)) := ⟨_, rfl⟩
   rw [← hW0] at hE;have HW0 := Lib.hid hW0;clear hW0
   go_enter Tryz.func15, Tryz.ntmps15
   go_upto_region 1 with (fail)
   rw [← HW0.out];obtain ⟨k1, k2, k3, k4, k5, k6, k7⟩ := (hE.here.1.2).c7;have k8 := (hE.here.2).cell 0;have k9 := (hE.here.2).cell 1;have k10 := (hE.here.2).cell 2;have k11 := (hE.here.2).cell 3;have k12 := (hE.here.2).cell 4;have k13 := (hE.here.2).cell 5;have k14 := (hE.here.2).cell 6;have k15 := (hE.here.2).cell 7;have k16 := (hE.here.2).cell 8;go_wp2_with fail
   refine (plarge_any (x := x) (Hhb.out.1.below hE.bel) (by decide) (by decide)).mono ?_;clear k1 k2 k3 k4 k5 k6 k7 k8 k9 k10 k11 k12 k13 k14 k15 k16
   rintro e w9 ⟨v, rfl, hv, hb⟩
   obtain rfl : v = false := hv.2 hs;clear hv;replace hE := hE.step hb;clear hb;obtain ⟨k17, k18, k19, k20, k21, k22, k23⟩ := (hE.here.1.2).c7;have k24 := (hE.here.2).cell 0;have k25 := (hE.here.2).cell 1;have k26 := (hE.here.2).cell 2;have k27 := (hE.here.2).cell 3;have k28 := (hE.here.2).cell 4;have k29 := (hE.here.2).cell 5;have k30 := (hE.here.2).cell 6;have k31 := (hE.here.2).cell 7;have k32 := (hE.here.2).cell 8;go_wp2_with fail
   refine hE.br (vvalid_f (Bh.rd_below Hhb.out hE.bel) hbd.1 (Ct.rd_below Hhx.out hE.bel) hbd.2 ho) ?_;clear hE k17 k18 k19 k20 k21 k22 k23 k24 k25 k26 k27 k28 k29 k30 k31 k32;intro w33 hE;go_wp2_with fail
   go_ret
   exact ⟨false, rfl, no_iff HN.out, hE.bel⟩
 ·
  have HN : Hid (¬ UsP b x) := Lib.hid (fun h => hs h.1);have hE := ((Env.start w).blk 31 b.C (g := w.heap.size) rfl).blk 36 x.C (g := w.heap.size + 1) (by simp)
  obtain ⟨W0, hW0⟩ : ∃ W0, W0 = ((w.alloc (.cells b.C 31)).alloc (.cells x.C 36)) := ⟨_, rfl⟩
  rw [← hW0] at hE;have HW0 := Lib.hid hW0;clear hW0
  go_enter Tryz.func15, Tryz.ntmps15
  go_upto_region 1 with (fail)
  rw [← HW0.out];obtain ⟨k1, k2, k3, k4, k5, k6, k7⟩ := (hE.here.1.2).c7;have k8 := (hE.here.2).cell 0;have k9 := (hE.here.2).cell 1;have k10 := (hE.here.2).cell 2;have k11 := (hE.here.2).cell 3;have k12 := (hE.here.2).cell 4;have k13 := (hE.here.2).cell 5;have k14 := (hE.here.2).cell 6;have k15 := (hE.here.2).cell 7;have k16 := (hE.here.2).cell 8;go_wp2_with fail
  refine (plarge_any (x := x) (Hhb.out.1.below hE.bel) (by decide) (by decide)).mono ?_;clear k1 k2 k3 k4 k5 k6 k7 k8 k9 k10 k11 k12 k13 k14 k15 k16
  rintro e w9 ⟨v, rfl, hv, hb⟩
  obtain rfl : v = true := by cases v with | true => rfl | false => exact absurd (hv.1 rfl) hs
  clear hv;replace hE := hE.step hb;clear hb;go_wp2_with fail
  go_ret
  exact ⟨false, rfl, no_iff HN.out, hE.bel⟩
theorem pusable_t {b : Bh} {x : Ct} {w : World} (hb : b.rd w) (hx : x.rd w) (hT : -9223372036854775808 ≤ x.T ∧ x.T ≤ 9223372036854775807) (h : UsP b x) :
  Calls Tryz.prog 15 #[.agg b.C, .agg x.C] w fun e w' => e = .returned (.bool true) ∧ Below w.heap.size w w' :=
 (pusable_any hb hx hT).mono fun _ _ ⟨v, he, hv, hw⟩ => by obtain rfl : v = true := hv.2 h; exact ⟨he, hw⟩
theorem pusable_f {b : Bh} {x : Ct} {w : World} (hb : b.rd w) (hx : x.rd w) (hT : -9223372036854775808 ≤ x.T ∧ x.T ≤ 9223372036854775807) (h : ¬ UsP b x) :
  Calls Tryz.prog 15 #[.agg b.C, .agg x.C] w fun e w' => e = .returned (.bool false) ∧ Below w.heap.size w w' :=
 (pusable_any hb hx hT).mono fun _ _ ⟨v, he, hv, hw⟩ => by
  cases v with
  | true => exact absurd (hv.1 rfl) h
  | false => exact ⟨he, hw⟩
theorem UsP.get {b : Bh} {x : Ct} (h : UsP b x) : b.bd ∧ x.bd ∧ x.ok b ∧ ∃ N, N ≤ 16 ∧ Cnt b.v (b.rt x.E x.Y) N := by
 have hT := h.2.2.2.1;obtain ⟨h1, h2⟩ := h.1.bd (by decide) (by omega);obtain ⟨N, hN, hc⟩ := life_cnt b.v h.2.2.1
 have hn : b.n ≤ 15 := by have := h.1.1.1.1; omega
 exact ⟨h1, h2, h.2, N, by omega, hc⟩
end Go.Proofs.YtclbiihcbfnjmaaGreat
