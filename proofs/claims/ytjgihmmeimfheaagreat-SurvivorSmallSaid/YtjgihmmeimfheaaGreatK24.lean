/-
  Several texts in one: The reference's Level and Exact, over its level. Rows of bools and of fractions of a given length. How many bools of a row in memory are true: the measure of the rounds of the reference's level. The rounds of the reference's level: what holds ahead of each round, and what each way out gives. The reference's parts: the unit goes, one by one, to the first claim of the greatest lost part.
-/
import Derived.Test.YtjgihmmeimfheaaGreatK3
import Derived.Test.YtjgihmmeimfheaaGreatK8
import Derived.Test.YtjgihmmeimfheaaGreatK22
import Derived.Test.YtjgihmmeimfheaaGreatK21
import Derived.Test.YtjgihmmeimfheaaGreatK14
set_option linter.unusedSimpArgs false
set_option maxRecDepth 100000
set_option maxHeartbeats 8000000
namespace Go.Proofs.YtjgihmmeimfheaaGreat
section
open Go.RowKit

theorem Blk.grownL {T : TypeId} {m b0 n : Nat} {v : Value} {e : Nat → List Value} {w w' : World} {t : TypeId} {b : Nat} {cs : Array Value} (hb : Blk t b cs w) (hlt : b < b0) (hv : RwV T m b0 v n e w) (hg : w.grownBy w' v.ownBlock) : Blk t b cs w' := by
 refine (hg.block b hb.lt fun e2 => ?_).trans hb
 rcases hv with ⟨rfl, _⟩ | ⟨g, cap, rfl, h0, hB⟩
 · cases e2
 ·
  obtain rfl : b = g := by simpa [Value.ownBlock] using e2
  omega
def RLev (a : Int) (A : Option Addr) (n c : Nat) (r : Nat → Cl) (w : World) : Prop := ∀ W, Below w.heap.size w W → Calls Tryz.prog 100 #[.int .i64 a, .slice A n c] W (LevP a r n W)
def RExP (a : Int) (r : Nat → Cl) (n : Nat) (w : World) (e : Ending) (w' : World) : Prop := ∃ t v h, e = .returned (.tuple #[v, .int .i64 0]) ∧ Lv (prs (wq r) (Kz r) (List.range n)) ((totZ a (wq r) (Kz r) n : Int) : Rat) t ∧ fl t ≤ 48 ∧ RwV 29 4 w.heap.size v n (fun j => zqL (h j)) w' ∧ FqS h n (xq t (wq r) (Kz r)) w' ∧ Below w.heap.size w w'
theorem rsExact_v {A : Option Addr} {n c : Nat} {r : Nat → Cl} {w : World} (a : Int) (hM : ClM A n r w) (hal : Al a n r) (hn : n ≤ 32) (hlev : RLev a A n c r w) :
  Calls Tryz.prog 60 #[.int .i64 a, .slice A n c] w (RExP a r n w) := by
 have hok := hal.2;have hw4 := hok.w hM;have hK := hok.K;have HhM := Lib.hid hM;clear hM;have Hhal := Lib.hid hal;clear hal;have Hhlev := Lib.hid hlev;clear hlev;have Hhok := Lib.hid hok;clear hok;have Hhw4 := Lib.hid hw4;clear hw4;have HhK := Lib.hid hK;clear hK;have hE := Env.start w
 go_enter Tryz.func60, Tryz.ntmps60
 go_wp2_with fail
 refine (rsallowed_v (c := c) a (HhM.out.below hE.bel)).mono ?_
 rintro e w1 ⟨v, rfl, hv, hb⟩
 replace hE := hE.step hb;obtain rfl : v = true := hv.2 Hhal.out;clear hb hv;go_wp2_with fail
 refine (Hhlev.out _ hE.bel).mono ?_
 rintro e w2 ⟨t, hlv, hft, sq, Aq, nq, cq, tq, Bq, mq, dq, rfl, hq, hb⟩
 replace hE := (hE.step hb).fv hq;clear hq hb;have Hhlv := Lib.hid hlv;clear hlv
 go_upto_region 4 with (fail)
 obtain ⟨g1, hg1⟩ : ∃ g1, g1 = w2.heap.size := ⟨_, rfl⟩
 have hlw_g1 : w.heap.size ≤ g1 := by rw [hg1]; exact hE.bel.size
 replace hE := hE.blk 29 #[.bool sq, .slice Aq nq cq, .bool tq, .slice Bq mq dq] (g := g1) hg1.symm;generalize w2.alloc (.cells #[.bool sq, .slice Aq nq cq, .bool tq, .slice Bq mq dq] 29) = W1 at hE ⊢;rw [← hg1];clear hg1;go_wp2_with fail
 go_loopw [7, 8] (fun mv x wr => ∃ (k : Nat) (h : Nat → FH) (v : Value), k ≤ n ∧ v = mv ∧ x = .int .i64 (k : Int) ∧ Env w (fun V => ((((True ∧ FV V t sq Aq nq tq Bq mq) ∧ Blk 29 (g1) #[.bool sq, .slice Aq nq cq, .bool tq, .slice Bq mq dq] V) ∧ RwV 29 4 (g1 + 1) v k (fun j => zqL (h j)) V) ∧ FqS h k (xq t (wq r) (Kz r)) V)) wr) (fun _ x _ => n - (intOf x).toNat)
 case atStart => exact ⟨0, fun _ => zFH, .slice none 0 0, Nat.zero_le _, rfl, rfl, (hE.rwv (.inl ⟨rfl, rfl⟩)).fqs (fun j hj => absurd hj (Nat.not_lt_zero j))⟩
 case round =>
  clear hE;obtain ⟨k, h, v, hk, rfl, rfl, hE⟩ := hrel
  by_cases hlt : k < n
  rotate_left
  ·
   obtain rfl : n = k := by omega
   have t1 : decide ((n : Int) < (n : Int)) = false := decide_eq_false (by omega);go_wp2_with fail
   refine bodyPost_ret (v := .tuple #[v, .int .i64 0]) (by simp [results, Tryz.results60, go_sem]) rfl ?_
   have hv2 : RwV 29 4 w.heap.size v n (fun j => zqL (h j)) wr := by
    rcases hE.here.1.2 with hv | ⟨g, cap, e1, hg, hR⟩
    · exact .inl hv
    · exact .inr ⟨g, cap, e1, by omega, hR⟩
   exact ⟨t, v, h, rfl, Hhlv.out, hft, hv2, hE.here.2, hE.bel⟩
  have t1 : decide ((k : Int) < (n : Int)) = true := decide_eq_true (by omega)
  have t2 : (k : Int) < (n : Int) := by omega
  obtain ⟨b, o, rfl, hb, hc⟩ := (HhM.out.below hE.bel) (by omega);clear hb hc
  obtain ⟨x, hx2⟩ : ∃ x, x = r k := ⟨_, rfl⟩
  have hxw : FV wr (wq r k) x.w.s x.w.A x.w.n x.w.t x.w.B x.w.m := by rw [hx2]; exact (ClM.fv (HhM.out.below hE.bel) Hhok.out hlt).2.1
  have hw4k := (Hhw4.out k hlt).2
  have hxb : 0 ≤ x.K ∧ x.K ≤ 1099511627776 := by rw [hx2]; exact HhK.out k hlt
  have hX : part t (wq r k, ((x.K : Int) : Rat)) = xq t (wq r) (Kz r) k := by rw [hx2]; rfl
  obtain ⟨pw, hpw⟩ : ∃ pw, pw = wq r k := ⟨_, rfl⟩
  rw [← hpw] at hxw hw4k hX;have Hhx2 := Lib.hid hx2;clear hx2;have Hhpw := Lib.hid hpw;clear hpw;have HhX := Lib.hid hX;clear hX;replace hE := (hE.fv hxw).clm (HhM.out.below hE.bel);clear hxw
  go_upto_region 8 with (fail)
  clear t1;replace hE := hE.drew;refine wp_region_held_drew (S := fun V => Blk 29 (g1) #[.bool sq, .slice Aq nq cq, .bool tq, .slice Bq mq dq] V ∧ ClM (some ⟨b, o, none⟩) n r V) (by kernel_rfl) (⟨hE.h4, hE.here.2⟩) (fun hHeld => ?_)
  generalize wr.drew = wd at *
  refine tk 0 ?_
  refine tk 1 ?_ (hy := by
   intro w hSw;have kc0 := (hSw.1).cell 0;have kc1 := (hSw.1).cell 1;have kc2 := (hSw.1).cell 2;have kc3 := (hSw.1).cell 3;clear hSw
   first | (go_simp; done) | (go_simp; with_reducible rfl))
  try simp only [PL]
  refine tk 2 ?_;refine tk 3 ?_;refine tk 4 ?_
  refine tk 5 ?_ (hy := by
   intro w hSw;obtain ⟨b2, o2, e2, -, hc2⟩ := hSw.2 (by omega)
   cases e2
   obtain ⟨⟨d0, d1, d2, d3, d4, d5⟩, -⟩ := hc2 k hlt;rw [← Hhx2.out] at d0 d1 d2 d3 d4 d5;clear hc2;clear hSw
   first | (go_simp; done) | (go_simp; with_reducible rfl))
  try simp only [PL]
  refine r1 6 (fun K hK => ?_);go_simp;have hc := rspart_v (x := x) (cq := cq) (dq := dq) (hE.h5) (hE.here.1.2) (by omega) (by omega) hxb;rw [HhX.out] at hc;refine hE.fr (hc) ?_;clear hE;intro sm Am nm cm tm Bm mm dm w2 hE;clear hc;go_wp2_with fail
  refine hK.out _ _ (⟨hE.h5, hE.here.1.2⟩) (fun hHeld => ?_);clear hK K;try simp only [PL]
  refine r1 7 (fun K hK => ?_);go_simp
  obtain ⟨g3, hg3⟩ : ∃ g3, g3 = w2.heap.size := ⟨_, rfl⟩
  have hl3_1 : g1 < g3 := by rw [hg3]; exact (hE.h5).lt
  have hlw_g3 : w.heap.size ≤ g3 := by rw [hg3]; exact hE.bel.size
  replace hE := hE.blk 29 #[.bool sm, .slice Am nm cm, .bool tm, .slice Bm mm dm] (g := g3) hg3.symm;generalize w2.alloc (.cells #[.bool sm, .slice Am nm cm, .bool tm, .slice Bm mm dm] 29) = W3 at hE ⊢;rw [← hg3];clear hg3;refine hK.out _ _ (⟨hE.h6, hE.h2⟩) (fun hHeld => ?_);clear hK K;try simp only [PL]
  refine r1 8 (fun K hK => ?_);obtain ⟨g9, cap9, wz, hr, hg9, hR, hgw⟩ := append_rw frElem 33 (hE.h5) (Nat.succ_le_of_lt (hE.h6).lt) ⟨g3, 0, none⟩ 1 (zqL (⟨sm, Am, nm, cm, fun _ => 0, tm, Bm, mm, dm, fun _ => 0⟩ : FH)) rfl (fun u hu => (zqL_ok _ u hu).1) (fun u hu => (zqL_ok _ u hu).2) (fun j u hu => by rw [Addr.add_mid, Nat.zero_add, (hE.here.2).cell]; exact (List.getElem?_toArray ▸ hu)) (by omega);replace hR := hR.congr (fun j _ => updF_row h k (⟨sm, Am, nm, cm, fun _ => 0, tm, Bm, mm, dm, fun _ => 0⟩ : FH) j);have hq2 := (FqS.grownR (hE.h4) (hE.h5) hgw).push (x := (⟨sm, Am, nm, cm, fun _ => 0, tm, Bm, mm, dm, fun _ => 0⟩ : FH)) (FV.grownR (hE.here.1.2) (hE.h5) hgw);refine Eq.mpr (if_pos (by rfl)) ?_;refine app_step rfl rfl rfl hr ?_;clear hr;replace hE := (((((Env.again (Go.Proofs.YtjgihmmeimfheaaGreat.Below.grownR hE.bel (hE.h5) hgw (by omega) hE.bel.size)).fv (FV.grownR (hE.h7) (hE.h5) hgw)).blkI (Blk.grownL (hE.h6) (Nat.lt_succ_self _) (hE.h5) hgw)).rwv (.inr ⟨g9, cap9, rfl, hg9, hR⟩)).fqs hq2).clm (HhM.out.below (Go.Proofs.YtjgihmmeimfheaaGreat.Below.grownR hE.bel (hE.h5) hgw (by omega) hE.bel.size));clear hR hgw hq2;refine hK.out _ _ (⟨hE.h3, hE.here.2⟩) (fun hHeld => ?_);clear hK K;try simp only [PL]
  refine tk 9 ?_;refine wpAnyH_done (by kernel_rfl) ?_ _;go_wp2_with fail
  go_roundw
  case rel => exact ⟨k + 1, _, _, by omega, rfl, by go_num, (((((Env.again hE.bel).fv (hE.h4)).blkI (hE.h3)).rwv (hE.h2)).fqs (hE.here.1.2))⟩
  case measure => simp [intOf]; omega
theorem rsLevel_v {A : Option Addr} {n c : Nat} {r : Nat → Cl} {w : World} (a : Int) (hM : ClM A n r w) (hal : Al a n r) (hlev : RLev a A n c r w) :
  Calls Tryz.prog 59 #[.int .i64 a, .slice A n c] w (LevT a r n w) := by
 have HhM := Lib.hid hM;clear hM;have Hhal := Lib.hid hal;clear hal;have Hhlev := Lib.hid hlev;clear hlev;have hE := Env.start w;have hE := hE.blk 29 #[.bool false, .slice none 0 0, .bool false, .slice none 0 0] (g := w.heap.size) rfl
 obtain ⟨W0, hW0⟩ : ∃ W0, W0 = (w.alloc (.cells #[.bool false, .slice none 0 0, .bool false, .slice none 0 0] 29)) := ⟨_, rfl⟩
 rw [← hW0] at hE;have HW0 := Lib.hid hW0;clear hW0
 go_enter Tryz.func59, Tryz.ntmps59
 go_upto_region 1 with (fail)
 rw [← HW0.out];go_wp2_with fail
 refine (rsallowed_v (c := c) a (HhM.out.below hE.bel)).mono ?_
 rintro e w1 ⟨v, rfl, hv, hb⟩
 replace hE := hE.step hb;obtain rfl : v = true := hv.2 Hhal.out;clear hb hv;go_wp2_with fail
 refine (Hhlev.out _ hE.bel).mono ?_
 rintro e w2 ⟨t, hlv, hft, sq, Aq, nq, cq, tq, Bq, mq, dq, rfl, hq, hb⟩
 replace hE := (hE.step hb).fv hq;clear hq hb;have Hhlv := Lib.hid hlv;clear hlv
 have hRl : w.heap.size ≤ w.heap.size := by omega
 obtain ⟨WW, hWW, hB, hV, hBel⟩ := ret_frac hE hE.here.1.2 hRl hE.here.2 cq dq;obtain ⟨x0, x1, x2, x3⟩ := (hE.here.1.2).c4;obtain ⟨fz0, fz1, fz2, fz3⟩ := hE.here.1.2.f4;have HWW := Lib.hid hWW;clear hWW;go_wp2_with fail
 clear x0 x1 x2 x3;rw [← HWW.out];obtain ⟨y0, y1, y2, y3⟩ := hB.c4;refine bodyPost_ret (v := .tuple #[.agg #[.bool sq, .slice Aq nq cq, .bool tq, .slice Bq mq dq], .int .i64 0]) (by simp [results, Tryz.results59, go_sem, y0, y1, y2, y3]) rfl ?_;exact ⟨t, Hhlv.out, hft, sq, Aq, nq, cq, tq, Bq, mq, dq, rfl, hV, hBel⟩
end
section
open Go.RowKit

theorem cmpQ_lt2 {a b : Rat} (h : a < b) : cmpQ a b = -1 := by
 rw [cmpQ_val, if_pos h]
theorem cmpQ_gt {a b : Rat} (h : b < a) : cmpQ a b = 1 := by
 rw [cmpQ_val, if_neg (by grind), if_neg (by grind)]
theorem cmpQ_eq {a b : Rat} (h : a = b) : cmpQ a b = 0 := by
 rw [cmpQ_val, if_neg (by grind), if_pos h]
theorem fr_store {W : World} {g n cap : Nat} {e : Nat → List Value} (h : Rw 29 4 g n cap e W) {k o : Nat} (hk : k < n) (x : List Value) (hl : x.length = 4) (h1 : ∀ v ∈ x, v.oneCell' = true) (ho : o = k * 4) : (Instr.storeAt 29 (.pointer (some ⟨g, o, none⟩)) (.agg x.toArray)).run Tryz.prog W = .ok () (W.setCells g (k * 4) x) := by
 subst ho;have ht := h.there hk;exact run_storeAt_mid (P := Tryz.prog) W g (k * 4) _ x.toArray (by rw [List.size_toArray, hl]; exact ht) (by rw [List.size_toArray, hl]; kernel_rfl) (all_oneCell_toArray h1)
def boolElem : Elem 47 4 1 := ⟨Tryz.underlying47, .bool false, 1, by kernel_rfl, rfl, by decide, fun v hv => by
 simp only [Value.cells, List.mem_toArray, List.mem_cons, List.not_mem_nil, or_false] at hv
 subst hv; rfl, by decide⟩
theorem make_full {tS T : TypeId} {m : Nat} (E : Elem tS T m) (n : Nat) (hn : n ≤ 1000000) (w : World) : (Instr.makeSlice tS (.int .i64 (n : Int)) (.int .i64 (n : Int))).run Tryz.prog w = .ok (.slice (some ⟨w.heap.size, 0, none⟩) n n) (w.alloc (.cells (mkC E n) T)) := by
 unfold mkC;obtain ⟨i, hi, hz, hs, hb⟩ := info_parts E.info;have hfew := E.few
 have h := run_make (P := Tryz.prog) w tS T i E.z E.und hi hz .i64 .i64 (n : Int) (n : Int) (by omega) (by omega) (by
  rw [hb];have h1 : E.bytes * n ≤ 4096 * 1000000 := Nat.mul_le_mul hfew hn;have h2 : ((E.bytes * n : Nat) : Int) = (E.bytes : Int) * (n : Int) := Int.natCast_mul _ _
  omega) (by omega)
 rw [h, hs];simp only [Int.toNat_natCast]
theorem full_made {tS T : TypeId} {m : Nat} (E : Elem tS T m) (n : Nat) (hn : n ≤ 1000000) (w : World) : Rw T m w.heap.size n n (fun _ => E.z.cells.toList) (w.alloc (.cells (mkC E n) T)) :=
 Rw.made w T m n n E.z.cells E.size E.noL (Nat.le_refl _) (by unfold maxLen; omega) E.pos
def updB (h : Nat → Bool) (n : Nat) (x : Bool) (j : Nat) : Bool := if j = n then x else h j
theorem updB_row (h : Nat → Bool) (n : Nat) (x : Bool) (k : Nat) : updE (fun j => [.bool (h j)]) n [.bool x] k = [.bool (updB h n x k)] := by
 unfold updE updB
 split <;> rfl
end
section
open Go.RowKit

def cntW (W : World) (g : Nat) : Nat → Nat
 | 0 => 0
 | k + 1 => cntW W g k + match W.cell? ⟨g, k, none⟩ with
  | some (.bool true) => 1
  | _ => 0
theorem cntW_row {W : World} {g n cap : Nat} {f : Nat → Bool} (h : Rw 4 1 g n cap (fun j => [.bool (f j)]) W) : ∀ k, k ≤ n → cntW W g k = cntB f k
 | 0, _ => rfl
 | k + 1, hk => by
  have h1 := cntW_row h k (by omega);have h2 := h.cell (k := k) (i := 0) (o := k) (v := .bool (f k)) (by omega) (by decide) (by omega) rfl;unfold cntW cntB;rw [h1, h2]
  cases f k <;> rfl
end
section

section
variable {w : Nat → Rat} {K : Nat → Int} {n : Nat}
def Rnd (w : Nat → Rat) (K : Nat → Int) (n : Nat) (a : Int) (f : Nat → Bool) (s : Rat) : Prop := 0 ≤ s ∧ FullAt w K f n s ∧ s * outW w f n ≤ ((a : Int) : Rat) - inK K f n
def nxB (w : Nat → Rat) (K : Nat → Int) (f : Nat → Bool) (s : Rat) (k j : Nat) : Bool := f j || (decide (j < k) && (decide (w j ≠ 0) && decide (((K j : Int) : Rat) ≤ s * w j)))
theorem nxB_zero (f : Nat → Bool) (s : Rat) (j : Nat) : nxB w K f s 0 j = f j := by simp [nxB]
theorem nxB_at (f : Nat → Bool) (s : Rat) (k : Nat) : nxB w K f s k k = f k := by simp [nxB]
theorem nxB_true {f : Nat → Bool} {s : Rat} {k j : Nat} : nxB w K f s k j = true ↔ f j = true ∨ (j < k ∧ w j ≠ 0 ∧ ((K j : Int) : Rat) ≤ s * w j) := by simp [nxB]
theorem nxB_more {f : Nat → Bool} {s : Rat} {k : Nat} (h : f k = true ∨ (w k ≠ 0 ∧ ((K k : Int) : Rat) ≤ s * w k)) (j : Nat) : (if j = k then true else nxB w K f s k j) = nxB w K f s (k + 1) j := by
 by_cases e : j = k
 ·
  subst e;rw [if_pos rfl];exact (nxB_true.2 (h.imp id fun h => ⟨Nat.lt_succ_self j, h⟩)).symm
 ·
  rw [if_neg e, Bool.eq_iff_iff, nxB_true, nxB_true];exact or_congr Iff.rfl (and_congr (by omega) Iff.rfl)
theorem nxB_same {f : Nat → Bool} {s : Rat} {k : Nat} (h : f k = true ∨ ¬ (w k ≠ 0 ∧ ((K k : Int) : Rat) ≤ s * w k)) (j : Nat) : nxB w K f s k j = nxB w K f s (k + 1) j := by
 rw [Bool.eq_iff_iff, nxB_true, nxB_true]
 by_cases e : j = k
 ·
  subst e
  constructor
  · exact fun h1 => h1.imp id fun h2 => absurd h2.1 (Nat.lt_irrefl _)
  ·
   rintro (h1 | ⟨_, h1⟩)
   · exact .inl h1
   · exact h.elim .inl fun h2 => absurd h1 h2
 · exact or_congr Iff.rfl (and_congr (by omega) Iff.rfl)
def Joined (w : Nat → Rat) (K : Nat → Int) (f : Nat → Bool) (s : Rat) (k : Nat) : Prop := ∃ j, j < k ∧ f j = false ∧ nxB w K f s k j = true
theorem joined_zero {f : Nat → Bool} {s : Rat} : ¬ Joined w K f s 0 := fun ⟨_, h, _⟩ => Nat.not_lt_zero _ h
theorem joined_more {f : Nat → Bool} {s : Rat} {k : Nat} (h0 : f k = false) (h : w k ≠ 0 ∧ ((K k : Int) : Rat) ≤ s * w k) : Joined w K f s (k + 1) := ⟨k, Nat.lt_succ_self k, h0, nxB_true.2 (.inr ⟨Nat.lt_succ_self k, h⟩)⟩
theorem joined_same {f : Nat → Bool} {s : Rat} {k : Nat} (h : f k = true ∨ ¬ (w k ≠ 0 ∧ ((K k : Int) : Rat) ≤ s * w k)) : Joined w K f s (k + 1) ↔ Joined w K f s k := by
 constructor
 ·
  rintro ⟨j, h1, h2, h3⟩
  rw [← nxB_same h] at h3
  by_cases e : j = k
  ·
   subst e;rw [nxB_at, h2] at h3
   cases h3
  · exact ⟨j, by omega, h2, h3⟩
 ·
  rintro ⟨j, h1, h2, h3⟩
  rw [nxB_same h] at h3;exact ⟨j, by omega, h2, h3⟩
theorem joined_cnt {f : Nat → Bool} {s : Rat} (h : Joined w K f s n) : cntB f n < cntB (nxB w K f s n) n := cntB_lt (fun _ _ h1 => nxB_true.2 (.inl h1)) h
theorem outW_nn {f : Nat → Bool} (hwK : ∀ k, k < n → 0 ≤ w k ∧ 0 ≤ K k) : 0 ≤ outW w f n := by
 have h := su_le (f := fun _ => 0) (g := fun k => if f k then 0 else w k) (n := n) (fun j hj => by
  show (0 : Rat) ≤ if f j then 0 else w j
  split
  · exact Rat.le_refl
  · exact (hwK j hj).1)
 rw [su_zero_of (fun _ _ => rfl)] at h;exact h
theorem rnd_start {a : Int} (ha : 0 ≤ a) : Rnd w K n a (fun _ => false) 0 := by
 refine ⟨Rat.le_refl, (by intro k hk h; cases h), ?_⟩;unfold inK;rw [su_zero_of (g := fun k => if (fun _ => false) k = true then ((K k : Int) : Rat) else 0) (fun _ _ => rfl)];have h : (0 : Rat) ≤ ((a : Int) : Rat) := Rat.intCast_nonneg.2 ha
 grind
theorem rnd_in {a : Int} {f : Nat → Bool} {s : Rat} (hwK : ∀ k, k < n → 0 ≤ w k ∧ 0 ≤ K k) (h : Rnd w K n a f s) : inK K f n ≤ ((a : Int) : Rat) := by
 have h1 := Rat.mul_nonneg h.1 (outW_nn (f := f) hwK);have h2 := h.2.2
 grind
theorem rnd_top {a : Int} {f : Nat → Bool} {s : Rat} (hwK : ∀ k, k < n → 0 ≤ w k ∧ 0 ≤ K k) (h : Rnd w K n a f s) (h0 : outW w f n = 0) : Lv (prs w K (List.range n)) ((totZ a w K n : Int) : Rat) (mxq w K f n) := by
 have h1 := out_none hwK h0;have h2 := cap_full h.2.1 h1;have h3 : capS w K n ≤ a := Rat.intCast_le_intCast.1 (by rw [h2]; exact rnd_in hwK h)
 have e : totZ a w K n = capS w K n := by unfold totZ; omega
 rw [e];refine most_lv hwK (mxq_nn hwK) (fun k hk hw => mxq_ge hwK k hk (Classical.byContradiction fun h4 => hw (h1 k hk (by simpa using h4))) hw) (mxq_ex fun k hk hf => (h.2.1 k hk hf).1)
theorem rnd_share {a : Int} {f : Nat → Bool} {s s' : Rat} (hwK : ∀ k, k < n → 0 ≤ w k ∧ 0 ≤ K k) (h : Rnd w K n a f s) (h0 : outW w f n ≠ 0) (hs : s' * outW w f n = ((a : Int) : Rat) - inK K f n) : s ≤ s' := by
 have hW : 0 < outW w f n := by have := outW_nn (f := f) hwK; grind
 refine Rat.not_lt.1 fun h1 => ?_
 have h2 : s' * outW w f n < s * outW w f n := Rat.mul_lt_mul_of_pos_right h1 hW;have h3 := h.2.2
 grind
theorem rnd_end {a : Int} {f : Nat → Bool} {s s' : Rat} (hwK : ∀ k, k < n → 0 ≤ w k ∧ 0 ≤ K k) (h : Rnd w K n a f s) (h0 : outW w f n ≠ 0) (hs : s' * outW w f n = ((a : Int) : Rat) - inK K f n) (hj : ¬ Joined w K f s' n) : Lv (prs w K (List.range n)) ((totZ a w K n : Int) : Rat) s' := by
 have hle := rnd_share hwK h h0 hs
 have hW : 0 < outW w f n := by have := outW_nn (f := f) hwK; grind
 have hl := share_lv hwK (Rat.le_trans h.1 hle) (h.2.1.mono hwK hle) hW hs (fun k hk hf hw => Rat.not_le.1 fun h1 => hj ⟨k, hk, hf, nxB_true.2 (.inr ⟨hk, hw, h1⟩)⟩)
 have h1 : ((a : Int) : Rat) ≤ ((capS w K n : Int) : Rat) := by
  have h2 := hl.2.1;rw [FF_su] at h2;rw [capS_su, ← h2]
  exact su_le fun k hk => part_cap (hwK k hk).2
 have e : totZ a w K n = a := by have := Rat.intCast_le_intCast.1 h1; unfold totZ; omega
 rw [e];exact hl
theorem rnd_next {a : Int} {f : Nat → Bool} {s s' : Rat} (hwK : ∀ k, k < n → 0 ≤ w k ∧ 0 ≤ K k) (h : Rnd w K n a f s) (h0 : outW w f n ≠ 0) (hs : s' * outW w f n = ((a : Int) : Rat) - inK K f n) : Rnd w K n a (nxB w K f s' n) s' := by
 have hle := rnd_share hwK h h0 hs
 have hf : FullAt w K (nxB w K f s' n) n s' := fun k hk h1 => (nxB_true.1 h1).elim (fun h2 => (h.2.1.mono hwK hle) k hk h2) fun h2 => h2.2
 exact ⟨Rat.le_trans h.1 hle, hf, join_le (fun _ _ h1 => nxB_true.2 (.inl h1)) hf hs⟩
def inZ (K : Nat → Int) (f : Nat → Bool) : Nat → Int
 | 0 => 0
 | k + 1 => inZ K f k + if f k then K k else 0
theorem inZ_su (K : Nat → Int) (f : Nat → Bool) : ∀ k, ((inZ K f k : Int) : Rat) = inK K f k
 | 0 => rfl
 | k + 1 => by
  have h := inZ_su K f k;unfold inK at h ⊢;unfold inZ su;rw [Rat.intCast_add, h]
  congr 1
  split
  · rfl
  · rfl
theorem inZ_b {f : Nat → Bool} {M : Int} (h0 : 0 ≤ M) : ∀ {k : Nat}, (∀ j, j < k → 0 ≤ K j ∧ K j ≤ M) → 0 ≤ inZ K f k ∧ inZ K f k ≤ M * k
 | 0, _ => ⟨Int.le_refl 0, by show (0 : Int) ≤ M * ((0 : Nat) : Int); omega⟩
 | k + 1, h => by
  have h1 := inZ_b (f := f) h0 (k := k) (fun j hj => h j (by omega));have h2 := h k (Nat.lt_succ_self k)
  have e : M * ((k + 1 : Nat) : Int) = M * (k : Int) + M := by rw [Int.natCast_add, Int.mul_add]; omega
  rw [e];unfold inZ
  split <;> omega
theorem fl_zero0 : fl 0 ≤ 1 := by rw [fl_le]; exact ⟨by decide, by decide⟩
theorem fl_out {f : Nat → Bool} (hn : n ≤ 32) (hD : Szd n w) (hw : ∀ k, k < n → 0 ≤ w k ∧ fl (w k) ≤ 4) {k : Nat} (hk : k ≤ n) : fl (outW w f k) ≤ 45 := by
 have hz0 : (0 : Rat) ≤ ((b16 ^ 4 : Nat) : Rat) := Rat.natCast_nonneg
 obtain ⟨h1, h2⟩ := su_b (g := fun k => if f k then 0 else w k) (i := k) (M := ((b16 ^ 4 : Nat) : Rat)) (fun j hj => by
  have h3 := hw j (by omega)
  split
  · exact ⟨Rat.le_refl, hz0⟩
  · exact ⟨h3.1, q_le h3.1 h3.2⟩)
 have h3 : ((k : Nat) : Rat) ≤ ((32 : Nat) : Rat) := by exact_mod_cast (show k ≤ 32 by omega)
 have h4 := Rat.mul_le_mul_of_nonneg_right h3 hz0;have e : (((32 * b16 ^ 4 : Nat)) : Rat) = ((32 : Nat) : Rat) * ((b16 ^ 4 : Nat) : Rat) := Rat.natCast_mul _ _;have hz : (0 : Rat) ≤ ((32 * b16 ^ 4 : Nat) : Rat) := Rat.natCast_nonneg;refine fl_bound (D := DW w n) (M := 32 * b16 ^ 4) (DW_pos w n) (su_dv fun j hj => ?_) (by unfold outW; grind) (by unfold outW; rw [e]; grind) (by decide) ?_
 ·
  split
  · exact (Dv.int 0).more (Nat.one_dvd _)
  · exact DW_dv w n j (by omega)
 ·
  refine (ln_le b16_two).2 (Nat.lt_of_le_of_lt (Nat.mul_le_mul_left _ hD) ?_)
  decide
theorem fl_mxq {f : Nat → Bool} (hw : ∀ k, k < n → 0 ≤ w k ∧ fl (w k) ≤ 4) (hK : ∀ k, k < n → 0 ≤ K k ∧ K k ≤ 1099511627776) (hf : ∀ k, k < n → f k = true → w k ≠ 0) : ∀ {k : Nat}, k ≤ n → fl (mxq w K f k) ≤ 7
 | 0, _ => Nat.le_trans fl_zero0 (by decide)
 | k + 1, h => by
  have h1 := fl_mxq (f := f) hw hK hf (k := k) (by omega);unfold mxq
  split
  ·
   rename_i h2;have h3 := hf k (by omega) h2.1;have h4 := hK k (by omega);exact fl_over (fl_int3 (by omega) (by omega)) (hw k (by omega)).2 (fun h5 => h3 (Rat.num_eq_zero.1 h5))
  · exact h1
end
end
section

def Pk (lost : Nat → Rat) (n : Nat) (g : Nat → Bool) : Prop := ∀ i k, i < n → k < n → g i = true → g k = false → Ord lost i k
def rsq (lost : Nat → Rat) (g : Nat → Bool) (k : Nat) : Rat := if g k = true then ((-1 : Int) : Rat) else lost k
def Best (q : Nat → Rat) (k b : Nat) : Prop := b < k ∧ ∀ j, j < k → q j ≤ q b ∧ (j < b → q j < q b)
section
variable {lost : Nat → Rat} {n : Nat} {g : Nat → Bool}
theorem Best.one {q : Nat → Rat} : Best q 1 0 := ⟨Nat.one_pos, fun j hj => ⟨by rw [show j = 0 by omega]; exact Rat.le_refl, fun h => by omega⟩⟩
theorem Best.take {q : Nat → Rat} {k b : Nat} (h : Best q k b) (hlt : q b < q k) : Best q (k + 1) k := ⟨Nat.lt_succ_self k, fun j hj => by
 by_cases e : j = k
 · subst e; exact ⟨Rat.le_refl, fun h => absurd h (Nat.lt_irrefl _)⟩
 ·
  have h1 := (h.2 j (by omega)).1
  exact ⟨by grind, fun _ => by grind⟩⟩
theorem Best.keep {q : Nat → Rat} {k b : Nat} (h : Best q k b) (hle : ¬ q b < q k) : Best q (k + 1) b := ⟨Nat.lt_succ_of_lt h.1, fun j hj => by
 by_cases e : j = k
 ·
  subst e;exact ⟨Rat.not_lt.1 hle, fun h2 => absurd h2 (Nat.lt_asymm h.1)⟩
 · exact h.2 j (by omega)⟩
theorem cntB_none {f : Nat → Bool} : ∀ {n : Nat}, (∀ k, k < n → f k = false) → cntB f n = 0
 | 0, _ => rfl
 | n + 1, h => by
  unfold cntB;rw [cntB_none (n := n) (fun k hk => h k (by omega)), h n (Nat.lt_succ_self n)];rfl
theorem cntB_all {f : Nat → Bool} : ∀ {n : Nat}, (∀ k, k < n → f k = true) → cntB f n = n
 | 0, _ => rfl
 | n + 1, h => by
  unfold cntB;rw [cntB_all (n := n) (fun k hk => h k (by omega)), h n (Nat.lt_succ_self n)];rfl
theorem cntB_put {f : Nat → Bool} {b : Nat} (h0 : f b = false) : ∀ {n : Nat}, cntB (fun j => if j = b then true else f j) n = cntB f n + if b < n then 1 else 0
 | 0 => rfl
 | n + 1 => by
  have h1 := cntB_put (f := f) h0 (n := n);unfold cntB;rw [h1];show _ + (if (if n = b then true else f n) = true then 1 else 0) = _
  by_cases e : n = b
  ·
   subst e;rw [if_pos rfl, if_pos rfl, if_neg (Nat.lt_irrefl n), if_pos (Nat.lt_succ_self n), h0];rfl
  ·
   rw [if_neg e]
   by_cases e2 : b < n
   · rw [if_pos e2, if_pos (show b < n + 1 by omega)]; omega
   · rw [if_neg e2, if_neg (show ¬ b < n + 1 by omega), Nat.add_zero, Nat.add_zero]
theorem pk_none : Pk lost n (fun _ => false) := fun _ _ _ _ h _ => by cases h
theorem pk_next (h0 : ∀ k, k < n → 0 ≤ lost k) (h : Pk lost n g) (hc : cntB g n < n) {b : Nat} (hb : Best (rsq lost g) n b) : g b = false ∧ Pk lost n (fun j => if j = b then true else g j) := by
 have hm : ((-1 : Int) : Rat) < 0 := by decide
 have hu : ∃ u, u < n ∧ g u = false := Classical.byContradiction fun hn => by
  have := cntB_all (f := g) (n := n) (fun k hk => by
   cases h1 : g k with
   | true => rfl
   | false => exact absurd ⟨k, hk, h1⟩ hn)
  omega
 obtain ⟨u, hu1, hu2⟩ := hu
 have hgb : g b = false := by
  have h1 := (hb.2 u hu1).1;have h2 := h0 u hu1
  cases h3 : g b with
  | false => rfl
  | true =>
   unfold rsq at h1;rw [h3, hu2, if_neg Bool.false_ne_true, if_pos rfl] at h1
   grind
 refine ⟨hgb, fun i k hi hk h1 h2 => ?_⟩;replace h1 : (if i = b then true else g i) = true := h1;replace h2 : (if k = b then true else g k) = false := h2
 by_cases ek : k = b
 · rw [if_pos ek] at h2; cases h2
 ·
  rw [if_neg ek] at h2
  by_cases ei : i = b
  ·
   subst ei;have h3 := hb.2 k hk;unfold rsq at h3;rw [hgb, h2, if_neg Bool.false_ne_true, if_neg Bool.false_ne_true] at h3;unfold Ord
   by_cases e : lost k < lost i
   · exact .inl e
   ·
    refine .inr ⟨by grind, ?_⟩
    refine Classical.byContradiction fun h4 => ?_
    have := h3.2 (by omega);exact e this
  ·
   rw [if_neg ei] at h1;exact h i k hi hk h1 h2
theorem rsq_put {b : Nat} (j : Nat) : rsq lost (fun j => if j = b then true else g j) j = if j = b then ((-1 : Int) : Rat) else rsq lost g j := by
 show (if (if j = b then true else g j) = true then ((-1 : Int) : Rat) else lost j) = if j = b then ((-1 : Int) : Rat) else if g j = true then ((-1 : Int) : Rat) else lost j
 by_cases e : j = b
 · rw [if_pos e, if_pos e, if_pos rfl]
 · rw [if_neg e, if_neg e]
theorem suZ_cnt (q : Nat → Int) : ∀ n, suZ (fun k => q k + if g k = true then 1 else 0) n = suZ q n + (cntB g n : Int)
 | 0 => rfl
 | n + 1 => by
  unfold suZ cntB;rw [suZ_cnt q n]
  split <;> simp <;> omega
theorem suZ_pos {d : Nat → Int} : ∀ {n : Nat}, (∀ k, k < n → 0 ≤ d k) → ∀ k, k < n → 0 < d k → 0 < suZ d n
 | 0, _, k, hk, _ => absurd hk (Nat.not_lt_zero k)
 | n + 1, h, k, hk, hd => by
  have h0 : ∀ {n : Nat}, (∀ k, k < n → 0 ≤ d k) → 0 ≤ suZ d n := fun {n} => by
   induction n with
   | zero => exact fun _ => Int.le_refl 0
   | succ n ih => intro h; unfold suZ; have := ih (fun k hk => h k (by omega)); have := h n (Nat.lt_succ_self n); omega
  unfold suZ
  by_cases e : k = n
  ·
   subst e;have := h0 (n := k) (fun j hj => h j (by omega));omega
  ·
   have h1 := suZ_pos (n := n) (fun j hj => h j (by omega)) k (by omega) hd;have h2 := h n (Nat.lt_succ_self n);omega
theorem suZ_diff (p q : Nat → Int) : ∀ n, suZ (fun k => p k - q k) n = suZ p n - suZ q n
 | 0 => rfl
 | n + 1 => by unfold suZ; rw [suZ_diff p q n]; omega
theorem sum_apart {p q : Nat → Int} (h : suZ p n = suZ q n) {k : Nat} (hk : k < n) (hd : q k < p k) : ∃ i, i < n ∧ p i < q i := Classical.byContradiction fun hn => by
 have h1 := suZ_pos (d := fun k => p k - q k) (n := n) (fun j hj => by
  have h2 : ¬ p j < q j := fun h3 => hn ⟨j, hj, h3⟩
  show 0 ≤ p j - q j
  omega) k hk (show 0 < p k - q k by omega)
 rw [suZ_diff] at h1;omega
theorem Ord.anti {a b : Nat} (h1 : Ord lost a b) (h2 : Ord lost b a) : False := by
 unfold Ord at h1 h2
 rcases h1 with h1 | ⟨h1, h3⟩ <;> rcases h2 with h2 | ⟨h2, h4⟩
 · grind
 · grind
 · grind
 · omega
theorem Ord.tot {a b : Nat} (h : a ≠ b) : Ord lost a b ∨ Ord lost b a := by
 unfold Ord
 by_cases h1 : lost b < lost a
 · exact .inl (.inl h1)
 ·
  by_cases h2 : lost a < lost b
  · exact .inr (.inl h2)
  ·
   have e : lost a = lost b := by grind
   by_cases h3 : a < b
   · exact .inl (.inr ⟨e, h3⟩)
   · exact .inr (.inr ⟨e.symm, by omega⟩)
theorem Ord.trans {a b c : Nat} (h1 : Ord lost a b) (h2 : Ord lost b c) : Ord lost a c := by
 unfold Ord at h1 h2 ⊢
 rcases h1 with h1 | ⟨h1, h3⟩ <;> rcases h2 with h2 | ⟨h2, h4⟩
 · exact .inl (by grind)
 · exact .inl (by grind)
 · exact .inl (by grind)
 · exact .inr ⟨h1.trans h2, by omega⟩
theorem ord_ins (x : Nat) : ∀ s : List Nat, s.Pairwise (Ord lost) → x ∉ s → ∃ s' : List Nat, s'.Perm (x :: s) ∧ s'.Pairwise (Ord lost)
 | [], _, _ => ⟨[x], List.Perm.refl _, List.pairwise_singleton ..⟩
 | y :: s, h, hx => by
  have hc := List.pairwise_cons.1 h
  rcases Ord.tot (lost := lost) (a := x) (b := y) (fun e => hx (e ▸ List.mem_cons_self ..)) with h1 | h1
  ·
   exact ⟨x :: y :: s, List.Perm.refl _, List.pairwise_cons.2 ⟨fun z hz => by
    rcases List.mem_cons.1 hz with rfl | hz
    · exact h1
    · exact h1.trans (hc.1 z hz), h⟩⟩
  ·
   obtain ⟨s', hp, hs⟩ := ord_ins x s hc.2 (fun e => hx (List.mem_cons_of_mem _ e))
   exact ⟨y :: s', (hp.cons y).trans (List.Perm.swap x y s), List.pairwise_cons.2 ⟨fun z hz => by
    rcases List.mem_cons.1 (hp.mem_iff.1 hz) with rfl | hz
    · exact h1
    · exact hc.1 z hz, hs⟩⟩
theorem ord_sort : ∀ l : List Nat, l.Nodup → ∃ s : List Nat, s.Perm l ∧ s.Pairwise (Ord lost)
 | [], _ => ⟨[], List.Perm.refl _, List.Pairwise.nil⟩
 | x :: l, h => by
  have hc := List.nodup_cons.1 h;obtain ⟨s, hp, hs⟩ := ord_sort l hc.2;obtain ⟨s', hp2, hs2⟩ := ord_ins x s hs (fun e => hc.1 (hp.mem_iff.1 e));exact ⟨s', hp2.trans (hp.cons x), hs2⟩
end
theorem left_le {t : Rat} {w : Nat → Rat} {K : Nat → Int} {n : Nat} {T : Int} (h : Lv (prs w K (List.range n)) ((T : Int) : Rat) t) : leftZ t w K T n ≤ (n : Int) := by
 have h1 := left_lost h;have h2 := (su_b (g := lq t w K) (i := n) (M := 1) (fun k _ => ⟨(lq_b t w K k).1, Rat.le_of_lt (lq_b t w K k).2⟩)).2;rw [h1, Rat.mul_one] at h2
 exact_mod_cast h2
theorem parts_ex (t : Rat) (w : Nat → Rat) (K : Nat → Int) (n : Nat) (T : Int) : ∃ p, PartsQ t w K n T p := by
 obtain ⟨s, hp, hs⟩ := ord_sort (lost := lq t w K) (List.range n) List.nodup_range;exact ⟨fun k => pz t w K s (leftZ t w K T n).toNat k, ⟨s, hp, hs, fun _ _ => rfl⟩⟩
theorem rparts_eq {t : Rat} {w : Nat → Rat} {K : Nat → Int} {n : Nat} {T : Int} {p : Nat → Int} {g : Nat → Bool} (h : Lv (prs w K (List.range n)) ((T : Int) : Rat) t) (hq : PartsQ t w K n T p) (hg : Pk (lq t w K) n g) (hc : (cntB g n : Int) = leftZ t w K T n) :
  ∀ k, k < n → p k = floorQ (xq t w K k) + if g k = true then 1 else 0 := by
 have hs : suZ p n = suZ (fun k => floorQ (xq t w K k) + if g k = true then 1 else 0) n := by
  rw [parts_sum h hq, suZ_cnt, hc];unfold leftZ;omega
 have key : ∀ i k, i < n → k < n → p i < floorQ (xq t w K i) + (if g i = true then 1 else 0) → floorQ (xq t w K k) + (if g k = true then 1 else 0) < p k → False := fun i k hi hk h1 h2 => by
  have hgi : g i = true := Classical.byContradiction fun e => by
   rw [if_neg e] at h1
   rcases parts_one h hq hi with h3 | ⟨h3, _⟩ <;> omega
  rw [if_pos hgi] at h1
  have hgk : g k = false := by
   cases e : g k with
   | false => rfl
   | true =>
    rw [e, if_pos rfl] at h2
    rcases parts_one h hq hk with h3 | ⟨h3, _⟩ <;> omega
  rw [hgk, if_neg Bool.false_ne_true] at h2;refine Ord.anti (hg i k hi hk hgi hgk) (parts_fair hq hk hi (by omega) ?_)
  rcases parts_one h hq hi with h3 | ⟨h3, _⟩ <;> omega
 intro k hk
 refine Classical.byContradiction fun hne => ?_
 rcases Int.lt_or_gt_of_ne hne with h1 | h1
 ·
  obtain ⟨i, hi, h2⟩ := sum_apart hs.symm hk h1;exact key k i hk hi h1 h2
 ·
  obtain ⟨i, hi, h2⟩ := sum_apart hs hk h1;exact key i k hi hk h2 h1
end
end Go.Proofs.YtjgihmmeimfheaaGreat
