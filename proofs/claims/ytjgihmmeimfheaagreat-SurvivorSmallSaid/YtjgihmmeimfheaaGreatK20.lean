/-
  Several texts in one: The walk of survivor.Parts.
-/
import Derived.Test.YtjgihmmeimfheaaGreatK3
import Derived.Test.YtjgihmmeimfheaaGreatK8
import Derived.Test.YtjgihmmeimfheaaGreatK19
import Derived.Test.YtjgihmmeimfheaaGreatK13
import Derived.Test.YtjgihmmeimfheaaGreatK17
import Derived.Test.YtjgihmmeimfheaaGreatK12
set_option linter.unusedSimpArgs false
set_option maxRecDepth 100000
set_option maxHeartbeats 16000000
namespace Go.Proofs.YtjgihmmeimfheaaGreat
open Go.RowKit
open Go.Shelf
attribute [local go_sem] Oper.semAt_some

theorem round_one (a : Rat) : Rat.divInt (roundZ 3 a 1 * (1 : Rat).num) (((1 : Rat).den : Nat) : Int) = ((floorQ a : Int) : Rat) := by
 rw [round_floor, Rat.num_ofNat, Rat.den_ofNat];show Rat.divInt (floorQ a * 1) 1 = _;rw [Int.mul_one, int_low]
theorem fint_int {z : Int} {sa ta : Bool} {Aa Ba : Option Addr} {na ca ma da : Nat} {w : World} (ha : FV w ((z : Int) : Rat) sa Aa na ta Ba ma) (h1 : -281474976710655 ≤ z) (h2 : z ≤ 281474976710655) :
  Calls Tryz.prog 44 #[.agg #[.bool sa, .slice Aa na ca, .bool ta, .slice Ba ma da]] w fun e w' => e = .returned (.tuple #[.int .i64 z, .int .i64 0]) ∧ Below w.heap.size w w' := by
 refine (fint_v (ca := ca) (da := da) ha (fl_le2 (fl_int3 h1 h2) (by decide))).mono ?_
 rintro e w' ⟨r, k, rfl, hF, hb⟩
 refine ⟨?_, hb⟩
 have hd : ((((z : Int) : Rat).den : Nat) : Int) = 1 := by rw [(int_num z).2]; rfl
 have hf : fits z = true := by
  unfold fits;rw [decide_eq_true (show -9223372036854775808 ≤ z by omega), decide_eq_true (show z ≤ 9223372036854775807 by omega)];rfl
 rcases hF with ⟨-, h⟩ | ⟨h, -⟩
 ·
  rw [(int_num z).1] at h
  rcases h with ⟨-, rfl, rfl⟩ | ⟨h, -⟩
  · rfl
  · rw [hf] at h; cases h
 · exact absurd hd h
def intElem : Elem 36 3 1 := ⟨Tryz.underlying36, .int .i64 0, 8, by kernel_rfl, rfl, by decide, fun v hv => by
 simp only [Value.cells, List.mem_toArray, List.mem_cons, List.not_mem_nil, or_false] at hv
 subst hv; rfl, by decide⟩
theorem suZ_b {g : Nat → Int} {M : Int} : ∀ {k : Nat}, (∀ j, j < k → 0 ≤ g j ∧ g j ≤ M) → 0 ≤ suZ g k ∧ suZ g k ≤ (k : Int) * M
 | 0, _ => by unfold suZ; simp
 | k + 1, h => by
  obtain ⟨h1, h2⟩ := suZ_b (k := k) (fun j hj => h j (by omega));obtain ⟨h3, h4⟩ := h k (by omega)
  have e : ((k + 1 : Nat) : Int) * M = (k : Int) * M + M := by rw [Int.natCast_add, Int.natCast_one, Int.add_mul, Int.one_mul]
  rw [e];unfold suZ;omega
theorem updX_row (r : Nat → Cl) (lo : Nat → FH) (k : Nat) (x : FH) (j : Nat) : updE (ixL r lo) k (ixC (r k) (k : Int) x) j = ixL r (updF lo k x) j := by
 unfold updE updF ixL
 by_cases h : j = k
 · subst h; simp
 · simp [h]
theorem lex_ord {q : Nat → Rat} {a b : Nat} (h : Lex (lkey q) a b) : Ord q a b := by
 unfold Lex lkey at h;unfold Ord
 grind
def PartsP (a : Int) (r : Nat → Cl) (n : Nat) (w : World) (e : Ending) (w' : World) : Prop := ∃ g cap p t, e = .returned (.tuple #[.slice (some ⟨g, 0, none⟩) n cap, .int .i64 0]) ∧ (Lv (prs (wq r) (Kz r) (List.range n)) ((totZ a (wq r) (Kz r) n : Int) : Rat) t ∧ fl t ≤ 48 ∧ PartsQ t (wq r) (Kz r) n (totZ a (wq r) (Kz r) n) p) ∧ w.heap.size ≤ g ∧ Rw 3 1 g n cap (fun j => [.int .i64 (p j)]) w' ∧ Below w.heap.size w w'
theorem wp_norm {P : Program} {c : Code} {K : Act → World → Prop} {Q : Exit → Act → World → Prop} {a : Act} {w : World} (h : c.wp P (Exit.then K (fun _ _ _ => False)) a w) : c.wp P (Exit.then K Q) a w :=
 Code.wp_mono (fun e _ _ h => by cases e <;> first | exact h | exact h.elim) h
theorem wp_norm2 {P : Program} {c : Code} {l : Nat} {K : Act → World → Prop} {Q : Exit → Act → World → Prop} {a : Act} {w : World} (h : c.wp P (Exit.inBlock l (Exit.then K (fun _ _ _ => False))) a w) : c.wp P (Exit.inBlock l (Exit.then K Q)) a w :=
 Code.wp_mono (fun e _ _ h => by
  cases e <;> simp only [Exit.inBlock, Exit.then] at h ⊢ <;> first | exact h | exact h.elim | (split <;> rename_i h2 <;> simp only [h2] at h <;> first | exact h | exact h.elim)) h
theorem keeps_set {B : Nat} {W : World} {g i : Nat} {v : Value} (hg : g < B) : KeepsFrom B W (W.setCell ⟨g, i, none⟩ v) := KeepsFrom.of_grownBy (grownBy_setCellI W g i v) (fun q e => by cases e; exact hg)
theorem kpc_set {W : World} {g i : Nat} {v : Value} : KpC g W (W.setCell ⟨g, i, none⟩ v) := fun k o hk ho _ => by
 have := (grownBy_setCellI W g i v).block k (Array.getElem?_eq_some_iff.1 ho).1 (fun e => hk (by simpa using e));rw [this]; exact ho
theorem count_app (l : List Nat) (x j : Nat) : (((l ++ [x]).count j : Nat) : Int) = ((l.count j : Nat) : Int) + if j = x then 1 else 0 := by
 rw [List.count_append]
 by_cases h : j = x
 · subst h; simp
 · rw [if_neg h, List.count_singleton, if_neg (by simpa using fun e : x = j => h e.symm)]; simp
theorem sparts_v {A : Option Addr} {n c : Nat} {r : Nat → Cl} {w : World} (a : Int) (ha : 0 ≤ a ∧ a ≤ 1099511627776) (hM : ClM A n r w) (hok : ClOK n r) (hn : n ≤ 32) (hD : SzR n r) :
  Calls Tryz.prog 15 #[.int .i64 a, .slice A n c] w (PartsP a r n w) := by
 have hw4 := hok.w hM;have hK := hok.K;have htz := totZ_b (a := a) (w := wq r) (K := Kz r) (n := n) ha.1 (fun k hk => (hK k hk).1);have Hhok := Lib.hid hok;clear hok;have HhM := Lib.hid hM;clear hM;have Hhw4 := Lib.hid hw4;clear hw4;have HhK := Lib.hid hK;clear hK;have hE := Env.start w;refine (callsIn_wide (n := 5)).1 ?_;have hro : Fence.wide.round = none := rfl;refine callsIn_of_wp_marks Tryz.func15 rfl trivial ?_ hro;simp only [Tryz.ntmps15, List.size_toArray, List.length_cons, List.length_nil, Nat.reduceAdd, Nat.reduceSub, Array.replicate_succ, Array.replicate_zero, List.push_toArray, List.append_toArray, List.nil_append, List.cons_append];refine wpIn_wide.2 ?_;go_wp2_with fail
 refine (svalid_any A n c r w HhM.out).mono ?_
 rintro e w1 ⟨v, rfl, hv, hb⟩
 replace hE := hE.step hb;obtain rfl : v = true := hv.2 Hhok.out;clear hv hb;have t1 : decide (a < 0) = false := decide_eq_false (by omega);have t2 : decide ((1099511627776 : Int) < a) = false := decide_eq_false (by omega);go_wp2_with fail
 clear t1 t2;refine hE.br (stotal_v a (HhM.out.below hE.bel) Hhok.out hn) ?_;clear hE;intro w2 hE
 obtain ⟨T, hT⟩ : ∃ T, T = totZ a (wq r) (Kz r) n := ⟨_, rfl⟩
 rw [← hT] at htz ⊢;have HhT := Lib.hid hT;clear hT;have hmk := make_row intElem n (by omega)
 go_upto_region 5 with (fail)
 clear hmk;have hb2 := belAlloc w2 (.cells (mkC intElem n) 3);have hb3 := belAlloc (w2.alloc (.cells (mkC intElem n) 3)) (.cells #[.slice (some ⟨w2.heap.size, 0, none⟩) 0 n] 36);have hws := hE.bel.size
 obtain ⟨gI0, hgI⟩ : ∃ g, g = w2.heap.size := ⟨_, rfl⟩
 have hB7 := Blk.new (w2.alloc (.cells (mkC intElem n) 3)) 36 #[.slice (some ⟨w2.heap.size, 0, none⟩) 0 n];rw [World.size_alloc] at hB7
 have hri : ∀ e0, Rw 3 1 gI0 0 n e0 ((w2.alloc (.cells (mkC intElem n) 3)).alloc (.cells #[.slice (some ⟨w2.heap.size, 0, none⟩) 0 n] 36)) := fun e0 => by rw [hgI]; exact (row_made intElem n (by omega) e0 w2).below hb3
 replace hE := (hE.step hb2).step hb3;clear hb2 hb3;rw [← hgI] at hws hB7 hri hE ⊢;generalize (w2.alloc (.cells (mkC intElem n) 3)).alloc (.cells #[.slice (some ⟨gI0, 0, none⟩) 0 n] 36) = W3 at hE hB7 hri ⊢
 obtain ⟨g7, hg7⟩ : ∃ g, g = gI0 + 1 := ⟨_, rfl⟩
 rw [← hg7] at hB7 ⊢
 have hwg7 : w.heap.size ≤ g7 := by omega
 clear hgI hg7;replace hE := hE.blkI hB7;clear hB7;have hmk := make_row ixElem n (by omega)
 go_upto_region 6 with (fail)
 clear hmk;have hb4 := belAlloc W3 (.cells (mkC ixElem n) 76);have hrx := row_made ixElem n (by omega) (ixL r (fun _ => zFH)) W3
 obtain ⟨gX0, hgX⟩ : ∃ g, g = W3.heap.size := ⟨_, rfl⟩
 have hri2 : ∀ e0, Rw 3 1 gI0 0 n e0 (W3.alloc (.cells (mkC ixElem n) 76)) := fun e0 => (hri e0).below hb4
 rw [← hgX] at hrx ⊢
 have hwX : w.heap.size ≤ gX0 := by rw [hgX]; exact hE.bel.size
 replace hE := (hE.step hb4).rwr hrx;clear hb4 hrx hri;generalize W3.alloc (.cells (mkC ixElem n) 76) = W4 at hE hri2 ⊢;clear hgX;go_wp2_with fail
 refine (sexact_v a ha (HhM.out.below hE.bel) Hhok.out hn hD).mono ?_
 rintro e w5 ⟨t, gF, capF, hx, rfl, hlv, hft, -, hrf, hqx, hb⟩
 have hri5 := fun e0 => (hri2 e0).below hb
 replace hE := (((((hE.step hb).rwr (hri5 (fun j => [.int .i64 ((fun j => floorQ (xq t (wq r) (Kz r) j)) j)]))).fqs (h := fun _ => zFH) (n := 0) (q := lq t (wq r) (Kz r)) (fun j hj => absurd hj (Nat.not_lt_zero j)))).rwr hrf).fqs hqx;clear hb hrf hqx hri2 hri5
 have hfb : ∀ j, j < n → 0 ≤ floorQ (xq t (wq r) (Kz r) j) ∧ floorQ (xq t (wq r) (Kz r) j) ≤ 1099511627776 := fun j hj => by
  have h1 := floor_b (t := t) (w := wq r) (K := Kz r) (k := j) hlv.1 (Hhw4.out j hj).1 (HhK.out j hj).1; have h2 := HhK.out j hj; omega
 have hxl : ∀ j, j < n → fl (xq t (wq r) (Kz r) j) ≤ 52 := fun j hj => by
  unfold xq part mn; split
  · exact fl_times hft (Hhw4.out j hj).2
  · have h2 := HhK.out j hj; exact fl_le2 (fl_int3 (by omega) (by omega)) (by decide)
 have hll : ∀ j, j < n → fl (lq t (wq r) (Kz r) j) ≤ 56 := fun j hj => fl_minus (hxl j hj) (fl_int3 (by have := hfb j hj; omega) (by have := hfb j hj; omega))
 have hsb : ∀ k, k ≤ n → 0 ≤ suZ (fun j => floorQ (xq t (wq r) (Kz r) j)) k ∧ suZ (fun j => floorQ (xq t (wq r) (Kz r) j)) k ≤ (k : Int) * 1099511627776 := fun k hk => suZ_b (fun j hj => hfb j (by omega))
 have hqe : n ≤ 19 ∨ ∀ j, j < n → lq t (wq r) (Kz r) j = lq t (wq r) (Kz r) 0 := hD.q.imp id (fun h j hj => by obtain ⟨h1, h2⟩ := h j hj; unfold lq xq; rw [h1, h2])
 have Hhlv := Lib.hid hlv;clear hlv;have Hhfb := Lib.hid hfb;clear hfb;have Hhxl := Lib.hid hxl;clear hxl;have Hhll := Lib.hid hll;clear hll;have Hhsb := Lib.hid hsb;clear hsb;have Hhtz := Lib.hid htz;clear htz;have Hhqe := Lib.hid hqe;clear hqe;go_wp2_with fail
 go_loopw [6, 8, 42] (fun lf v x wr => ∃ (k gI capI gX capX : Nat) (lo : Nat → FH), k ≤ n ∧ lf = .int .i64 (T - suZ (fun j => floorQ (xq t (wq r) (Kz r) j)) k) ∧ v = .slice (some ⟨gX, 0, none⟩) k capX ∧ x = .int .i64 (k : Int) ∧ (w.heap.size ≤ gI ∧ w.heap.size ≤ gX) ∧ Env w (fun V => ((((((True ∧ Blk 36 (g7) #[.slice (some ⟨gI, 0, none⟩) k capI] V) ∧ Rw 76 11 gX k capX (ixL r lo) V) ∧ Rw 3 1 gI k capI (fun j => [.int .i64 ((fun j => floorQ (xq t (wq r) (Kz r) j)) j)]) V) ∧ FqS lo k (lq t (wq r) (Kz r)) V) ∧ Rw 29 4 gF n capF (fun j => zqL (hx j)) V) ∧ FqS hx n (xq t (wq r) (Kz r)) V)) wr) (fun _ _ x _ => n - (intOf x).toNat)
 case atStart => exact ⟨0, gI0, n, gX0, n, fun _ => zFH, Nat.zero_le _, by unfold suZ; simp, rfl, rfl, ⟨by omega, hwX⟩, hE⟩
 case round =>
  clear hE hwX hws;obtain ⟨k, gI, capI, gX, capX, lo, hk, rfl, rfl, rfl, ⟨hgI, hgX⟩, hE⟩ := hrel
  by_cases hlt : k < n
  ·
   obtain ⟨b, o, rfl, hb, hc⟩ := (HhM.out.below hE.bel) (by omega);clear hb hc
   obtain ⟨y, hy⟩ : ∃ y, y = hx k := ⟨_, rfl⟩
   have hrf := hE.here.1.2;have hyv := hE.here.2 k hlt;rw [← hy] at hyv;have d0 : wr.cell? _ = some (.bool y.s) := hrf.cell (k := k) (i := 0) (o := k * 4) hlt (by decide) rfl (by rw [hy]; rfl);have d1 : wr.cell? _ = some (.slice y.A y.n y.c) := hrf.cell (k := k) (i := 1) (o := k * 4 + 1) hlt (by decide) rfl (by rw [hy]; rfl);have d2 : wr.cell? _ = some (.bool y.t) := hrf.cell (k := k) (i := 2) (o := k * 4 + 2) hlt (by decide) rfl (by rw [hy]; rfl);have d3 : wr.cell? _ = some (.slice y.B y.m y.d) := hrf.cell (k := k) (i := 3) (o := k * 4 + 3) hlt (by decide) rfl (by rw [hy]; rfl);have t1 : decide ((k : Int) < (n : Int)) = true := decide_eq_true (by omega)
   have t2 : (k : Int) < (n : Int) := by omega
   have hxk := Hhxl.out k hlt;have hfk := Hhfb.out k hlt;have hlk := Hhll.out k hlt
   obtain ⟨X, hX⟩ : ∃ X, X = xq t (wq r) (Kz r) k := ⟨_, rfl⟩
   obtain ⟨z, hz⟩ : ∃ z, z = floorQ X := ⟨_, rfl⟩
   have hlX : lq t (wq r) (Kz r) k = X - ((z : Int) : Rat) := by rw [hz, hX]; rfl
   have hzk : floorQ (xq t (wq r) (Kz r) k) = z := by rw [hz, hX]
   rw [← hX] at hyv hxk;rw [hzk] at hfk;rw [hlX] at hlk;have hE := hE.fv hyv;clear hyv hrf;have Hhy := Lib.hid hy;clear hy;have HhX := Lib.hid hX;clear hX;have Hhz := Lib.hid hz;clear hz;have HhlX := Lib.hid hlX;clear hlX;have Hhzk := Lib.hid hzk;clear hzk
   go_upto_region 9 with (fail)
   clear d0 d1 d2 d3 t1
   obtain ⟨g1, hg1⟩ : ∃ g1, g1 = wr.heap.size := ⟨_, rfl⟩
   have hl1_0 : g7 < g1 := by rw [hg1]; exact (hE.h6).lt
   have hl1_1 : gX < g1 := by rw [hg1]; exact Rw.lt (hE.h5)
   have hl1_2 : gI < g1 := by rw [hg1]; exact Rw.lt (hE.h4)
   have hl1_4 : gF < g1 := by rw [hg1]; exact Rw.lt (hE.h2)
   replace hE := hE.blk 29 #[.bool y.s, .slice y.A y.n y.c, .bool y.t, .slice y.B y.m y.d] (g := g1) hg1.symm;generalize wr.alloc (.cells #[.bool y.s, .slice y.A y.n y.c, .bool y.t, .slice y.B y.m y.d] 29) = W1 at hE ⊢;rw [← hg1];clear hg1;refine wp_norm ?_
   go_cut [11, 12] from 47 to 53 (fun p0 p1 wx => ∃ G9 sd Ad nd cd td Bd md dd, p0 = .pointer (some ⟨G9, 0, none⟩) ∧ p1 = .int .i64 0 ∧ (g7 < G9 ∧ g1 < G9) ∧ Env w (fun V => ((((((((((True ∧ Blk 36 (g7) #[.slice (some ⟨gI, 0, none⟩) k capI] V) ∧ Rw 76 11 gX k capX (ixL r lo) V) ∧ Rw 3 1 gI k capI (fun j => [.int .i64 ((fun j => floorQ (xq t (wq r) (Kz r) j)) j)]) V) ∧ FqS lo k (lq t (wq r) (Kz r)) V) ∧ Rw 29 4 gF n capF (fun j => zqL (hx j)) V) ∧ FqS hx n (xq t (wq r) (Kz r)) V) ∧ FV V X y.s y.A y.n y.t y.B y.m) ∧ Blk 29 (g1) #[.bool y.s, .slice y.A y.n y.c, .bool y.t, .slice y.B y.m y.d] V) ∧ FV V ((z : Int) : Rat) sd Ad nd td Bd md) ∧ Blk 29 (G9) #[.bool sd, .slice Ad nd cd, .bool td, .slice Bd md dd] V)) wx)
   case first =>
    replace hE := hE.drew;refine wp_region_held_drew (S := fun V => Blk 29 (g1) #[.bool y.s, .slice y.A y.n y.c, .bool y.t, .slice y.B y.m y.d] V) (by kernel_rfl) (hE.here.2) (fun hHeld => ?_)
    generalize W1.drew = wd at *
    refine tk 0 ?_ (hy := by
     intro w hSw;have kc0 := (hSw).cell 0;have kc1 := (hSw).cell 1;have kc2 := (hSw).cell 2;have kc3 := (hSw).cell 3;clear hSw
     first | (go_simp; done) | (go_simp; with_reducible rfl))
    try simp only [PL]
    refine wpAnyH_ready (rs := [1, 6]) (by kernel_rfl) (by simp) (AllReadyH.cons rfl (fun K hK => ?_) (AllReadyH.cons rfl (fun K hK => ?_) (AllReadyH.nil)))
    ·
     go_simp;refine hE.fr (ffromInt_v 1 _ (by decide) (by decide)) ?_;clear hE;intro s1 A1 n1 c1 t1 B1 m1 d1 w2 hE;go_wp2_with fail
     refine hK.out _ _ (hE.here.1.2) (fun hHeld => ?_);clear hK K;try simp only [PL]
     refine wpAnyH_ready (rs := [2, 6]) (by kernel_rfl) (by simp) (AllReadyH.cons rfl (fun K hK => ?_) (AllReadyH.cons rfl (fun K hK => ?_) (AllReadyH.nil)))
     ·
      go_simp;have hc := fround_v (a := X) (b := 1) (ca := y.c) (da := y.d) (cb := c1) (db := d1) (hE.h2) (hE.here.2) (by omega) (by decide) (by decide) 3 (by decide) (by decide) (by rw [round_one, ← Hhz.out]; exact fl_le2 (fl_int3 (by omega) (by omega)) (by decide));rw [round_one, ← Hhz.out] at hc;refine hE.fr (hc) ?_;clear hE;intro sd Ad nd cd td Bd md dd w3 hE;clear hc;go_wp2_with fail
      refine hK.out _ _ (hE.h2) (fun hHeld => ?_);clear hK K;try simp only [PL]
      refine tk 3 ?_;refine tk 4 ?_;refine tk 5 ?_;refine r1 6 (fun K hK => ?_);go_simp
      obtain ⟨g4, hg4⟩ : ∃ g4, g4 = w3.heap.size := ⟨_, rfl⟩
      have hl4_0 : g7 < g4 := by rw [hg4]; exact (hE.h9).lt
      have hl4_1 : gX < g4 := by rw [hg4]; exact Rw.lt (hE.h8)
      have hl4_2 : gI < g4 := by rw [hg4]; exact Rw.lt (hE.h7)
      have hl4_4 : gF < g4 := by rw [hg4]; exact Rw.lt (hE.h5)
      have hl4_7 : g1 < g4 := by rw [hg4]; exact (hE.h2).lt
      replace hE := hE.blk 29 #[.bool false, .slice none 0 0, .bool false, .slice none 0 0] (g := g4) hg4.symm;generalize w3.alloc (.cells #[.bool false, .slice none 0 0, .bool false, .slice none 0 0] 29) = W4 at hE ⊢;rw [← hg4];clear hg4;refine hK.out _ _ (hE.h3) (fun hHeld => ?_);clear hK K;try simp only [PL]
      refine r1 7 (fun K hK => ?_)
      have hgl5 : w.heap.size ≤ g4 := by omega
      obtain ⟨x5_0, x5_1, x5_2, x5_3⟩ := (hE.here.2).c4;obtain ⟨f5_0, f5_1, f5_2, f5_3⟩ := hE.here.2.f4;replace hE := ((((((((((((Env.again (bel4 hE.bel hgl5 (.bool sd) (.slice Ad nd cd) (.bool td) (.slice Bd md dd))).blkI ((hE.h10).far4 (by omega) _ _ _ _)).rwr ((hE.h9).grownB (st4_grown (hE.here.2) _ _ _ _) ((hE.h9).ne (hE.here.2) (by decide)))).rwr ((hE.h8).grownB (st4_grown (hE.here.2) _ _ _ _) ((hE.h8).ne (hE.here.2) (by decide)))).fqs (FqS.grownB (hE.h7) (hE.here.2) rfl (st4_grown (hE.here.2) _ _ _ _))).rwr ((hE.h6).grownB (st4_grown (hE.here.2) _ _ _ _) (by omega))).fqs (FqS.grownB (hE.h5) (hE.here.2) rfl (st4_grown (hE.here.2) _ _ _ _))).fv ((hE.h4).sep4 hE.here.2 rfl _ _ _ _ rfl rfl rfl)).blkI ((hE.h3).far4 (by omega) _ _ _ _)).fv ((hE.h2).sep4 hE.here.2 rfl _ _ _ _ rfl rfl rfl)).fv ((hE.here.1.2).sep4 hE.here.2 rfl _ _ _ _ rfl rfl rfl)).blkI ((hE.here.2).s4 _ _ _ _));go_simp;clear x5_0 x5_1 x5_2 x5_3 f5_0 f5_1 f5_2 f5_3 hgl5;generalize ((((W4.setCell ⟨g4, 0, none⟩ (.bool sd)).setCell ⟨g4, 1, none⟩ (.slice Ad nd cd)).setCell ⟨g4, 2, none⟩ (.bool td)).setCell ⟨g4, 3, none⟩ (.slice Bd md dd)) = W5 at hE ⊢;refine hK.out _ _ (hE.h3) (fun hHeld => ?_);clear hK K;try simp only [PL]
      refine tk 8 ?_;refine wpAnyH_done (by kernel_rfl) ?_ _;go_wp2_with fail
      go_meet
      exact ⟨g4, sd, Ad, nd, cd, td, Bd, md, dd, rfl, rfl, ⟨by omega, by omega⟩, (((((((((((Env.again hE.bel).blkI (hE.h10)).rwr (hE.h9)).rwr (hE.h8)).fqs (hE.h7)).rwr (hE.h6)).fqs (hE.h5)).fv (hE.h4)).blkI (hE.h3)).fv (hE.here.1.2)).blkI (hE.here.2))⟩
     ·
      go_simp
      obtain ⟨g6, hg6⟩ : ∃ g6, g6 = w2.heap.size := ⟨_, rfl⟩
      have hl6_0 : g7 < g6 := by rw [hg6]; exact (hE.h8).lt
      have hl6_1 : gX < g6 := by rw [hg6]; exact Rw.lt (hE.h7)
      have hl6_2 : gI < g6 := by rw [hg6]; exact Rw.lt (hE.h6)
      have hl6_4 : gF < g6 := by rw [hg6]; exact Rw.lt (hE.h4)
      have hl6_7 : g1 < g6 := by rw [hg6]; exact (hE.here.1.2).lt
      replace hE := hE.blk 29 #[.bool false, .slice none 0 0, .bool false, .slice none 0 0] (g := g6) hg6.symm;generalize w2.alloc (.cells #[.bool false, .slice none 0 0, .bool false, .slice none 0 0] 29) = W6 at hE ⊢;rw [← hg6];clear hg6;refine hK.out _ _ (hE.h2) (fun hHeld => ?_);clear hK K;try simp only [PL]
      refine r1 2 (fun K hK => ?_);go_simp;have hc := fround_v (a := X) (b := 1) (ca := y.c) (da := y.d) (cb := c1) (db := d1) (hE.h3) (hE.here.1.2) (by omega) (by decide) (by decide) 3 (by decide) (by decide) (by rw [round_one, ← Hhz.out]; exact fl_le2 (fl_int3 (by omega) (by omega)) (by decide));rw [round_one, ← Hhz.out] at hc;refine hE.fr (hc) ?_;clear hE;intro sd Ad nd cd td Bd md dd w7 hE;clear hc;go_wp2_with fail
      refine hK.out _ _ (hE.h3) (fun hHeld => ?_);clear hK K;try simp only [PL]
      refine tk 3 ?_;refine tk 4 ?_;refine tk 5 ?_;refine r1 7 (fun K hK => ?_)
      have hgl8 : w.heap.size ≤ g6 := by omega
      obtain ⟨x8_0, x8_1, x8_2, x8_3⟩ := (hE.here.1.2).c4;obtain ⟨f8_0, f8_1, f8_2, f8_3⟩ := hE.here.1.2.f4;replace hE := ((((((((((((Env.again (bel4 hE.bel hgl8 (.bool sd) (.slice Ad nd cd) (.bool td) (.slice Bd md dd))).blkI ((hE.h10).far4 (by omega) _ _ _ _)).rwr ((hE.h9).grownB (st4_grown (hE.here.1.2) _ _ _ _) ((hE.h9).ne (hE.here.1.2) (by decide)))).rwr ((hE.h8).grownB (st4_grown (hE.here.1.2) _ _ _ _) ((hE.h8).ne (hE.here.1.2) (by decide)))).fqs (FqS.grownB (hE.h7) (hE.here.1.2) rfl (st4_grown (hE.here.1.2) _ _ _ _))).rwr ((hE.h6).grownB (st4_grown (hE.here.1.2) _ _ _ _) (by omega))).fqs (FqS.grownB (hE.h5) (hE.here.1.2) rfl (st4_grown (hE.here.1.2) _ _ _ _))).fv ((hE.h4).sep4 hE.here.1.2 rfl _ _ _ _ rfl rfl rfl)).blkI ((hE.h3).far4 (by omega) _ _ _ _)).fv ((hE.h2).sep4 hE.here.1.2 rfl _ _ _ _ rfl rfl rfl)).blkI ((hE.here.1.2).s4 _ _ _ _)).fv ((hE.here.2).sep4 hE.here.1.2 rfl _ _ _ _ rfl rfl rfl));go_simp;clear x8_0 x8_1 x8_2 x8_3 f8_0 f8_1 f8_2 f8_3 hgl8;generalize ((((w7.setCell ⟨g6, 0, none⟩ (.bool sd)).setCell ⟨g6, 1, none⟩ (.slice Ad nd cd)).setCell ⟨g6, 2, none⟩ (.bool td)).setCell ⟨g6, 3, none⟩ (.slice Bd md dd)) = W8 at hE ⊢;refine hK.out _ _ (hE.h3) (fun hHeld => ?_);clear hK K;try simp only [PL]
      refine tk 8 ?_;refine wpAnyH_done (by kernel_rfl) ?_ _;go_wp2_with fail
      go_meet
      exact ⟨g6, sd, Ad, nd, cd, td, Bd, md, dd, rfl, rfl, ⟨by omega, by omega⟩, (((((((((((Env.again hE.bel).blkI (hE.h10)).rwr (hE.h9)).rwr (hE.h8)).fqs (hE.h7)).rwr (hE.h6)).fqs (hE.h5)).fv (hE.h4)).blkI (hE.h3)).fv (hE.here.2)).blkI (hE.here.1.2))⟩
    ·
     go_simp
     obtain ⟨g9, hg9⟩ : ∃ g9, g9 = wd.heap.size := ⟨_, rfl⟩
     have hl9_0 : g7 < g9 := by rw [hg9]; exact (hE.h7).lt
     have hl9_1 : gX < g9 := by rw [hg9]; exact Rw.lt (hE.h6)
     have hl9_2 : gI < g9 := by rw [hg9]; exact Rw.lt (hE.h5)
     have hl9_4 : gF < g9 := by rw [hg9]; exact Rw.lt (hE.h3)
     have hl9_7 : g1 < g9 := by rw [hg9]; exact (hE.here.2).lt
     replace hE := hE.blk 29 #[.bool false, .slice none 0 0, .bool false, .slice none 0 0] (g := g9) hg9.symm;generalize wd.alloc (.cells #[.bool false, .slice none 0 0, .bool false, .slice none 0 0] 29) = W9 at hE ⊢;rw [← hg9];clear hg9;refine hK.out _ _ (hE.here.1.2) (fun hHeld => ?_);clear hK K;try simp only [PL]
     refine r1 1 (fun K hK => ?_);go_simp;refine hE.fr (ffromInt_v 1 _ (by decide) (by decide)) ?_;clear hE;intro s1 A1 n1 c1 t1 B1 m1 d1 w10 hE;go_wp2_with fail
     refine hK.out _ _ (hE.h2) (fun hHeld => ?_);clear hK K;try simp only [PL]
     refine r1 2 (fun K hK => ?_);go_simp;have hc := fround_v (a := X) (b := 1) (ca := y.c) (da := y.d) (cb := c1) (db := d1) (hE.h3) (hE.here.2) (by omega) (by decide) (by decide) 3 (by decide) (by decide) (by rw [round_one, ← Hhz.out]; exact fl_le2 (fl_int3 (by omega) (by omega)) (by decide));rw [round_one, ← Hhz.out] at hc;refine hE.fr (hc) ?_;clear hE;intro sd Ad nd cd td Bd md dd w11 hE;clear hc;go_wp2_with fail
     refine hK.out _ _ (hE.h3) (fun hHeld => ?_);clear hK K;try simp only [PL]
     refine tk 3 ?_;refine tk 4 ?_;refine tk 5 ?_;refine r1 7 (fun K hK => ?_)
     have hgl12 : w.heap.size ≤ g9 := by omega
     obtain ⟨x12_0, x12_1, x12_2, x12_3⟩ := (hE.h2).c4;obtain ⟨f12_0, f12_1, f12_2, f12_3⟩ := hE.h2.f4;replace hE := ((((((((((((Env.again (bel4 hE.bel hgl12 (.bool sd) (.slice Ad nd cd) (.bool td) (.slice Bd md dd))).blkI ((hE.h10).far4 (by omega) _ _ _ _)).rwr ((hE.h9).grownB (st4_grown (hE.h2) _ _ _ _) ((hE.h9).ne (hE.h2) (by decide)))).rwr ((hE.h8).grownB (st4_grown (hE.h2) _ _ _ _) ((hE.h8).ne (hE.h2) (by decide)))).fqs (FqS.grownB (hE.h7) (hE.h2) rfl (st4_grown (hE.h2) _ _ _ _))).rwr ((hE.h6).grownB (st4_grown (hE.h2) _ _ _ _) (by omega))).fqs (FqS.grownB (hE.h5) (hE.h2) rfl (st4_grown (hE.h2) _ _ _ _))).fv ((hE.h4).sep4 hE.h2 rfl _ _ _ _ rfl rfl rfl)).blkI ((hE.h3).far4 (by omega) _ _ _ _)).blkI ((hE.h2).s4 _ _ _ _)).fv ((hE.here.1.2).sep4 hE.h2 rfl _ _ _ _ rfl rfl rfl)).fv ((hE.here.2).sep4 hE.h2 rfl _ _ _ _ rfl rfl rfl));go_simp;clear x12_0 x12_1 x12_2 x12_3 f12_0 f12_1 f12_2 f12_3 hgl12;generalize ((((w11.setCell ⟨g9, 0, none⟩ (.bool sd)).setCell ⟨g9, 1, none⟩ (.slice Ad nd cd)).setCell ⟨g9, 2, none⟩ (.bool td)).setCell ⟨g9, 3, none⟩ (.slice Bd md dd)) = W12 at hE ⊢;refine hK.out _ _ (hE.h3) (fun hHeld => ?_);clear hK K;try simp only [PL]
     refine tk 8 ?_;refine wpAnyH_done (by kernel_rfl) ?_ _;go_wp2_with fail
     go_meet
     exact ⟨g9, sd, Ad, nd, cd, td, Bd, md, dd, rfl, rfl, ⟨by omega, by omega⟩, (((((((((((Env.again hE.bel).blkI (hE.h10)).rwr (hE.h9)).rwr (hE.h8)).fqs (hE.h7)).rwr (hE.h6)).fqs (hE.h5)).fv (hE.h4)).blkI (hE.h3)).fv (hE.here.2)).blkI (hE.h2))⟩
   case rest =>
   clear hE;obtain ⟨G9, sd, Ad, nd, cd, td, Bd, md, dd, rfl, rfl, ⟨hG9_0, hG9_1⟩, hE⟩ := hcut;generalize wc = wk9 at hE ⊢
   go_upto_region 10 with (fail)
   obtain ⟨k13, k14, k15, k16⟩ := (hE.h2).c4;obtain ⟨k17, k18, k19, k20⟩ := (hE.here.2).c4;go_wp2_with fail
   refine hE.fr (fsub_v (ca := y.c) (da := y.d) (cb := cd) (db := dd) (hE.h3) (hE.here.1.2) (by omega) (fl_le2 (fl_int3 (by omega) (by omega)) (by decide)) (by omega)) ?_;clear hE k13 k14 k15 k16 k17 k18 k19 k20;intro sl Al nl cl tl Bl ml dl w21 hE
   go_upto_region 11 with (fail)
   obtain ⟨g22, hg22⟩ : ∃ g22, g22 = w21.heap.size := ⟨_, rfl⟩
   have hl22_0 : g7 < g22 := by rw [hg22]; exact (hE.h10).lt
   have hl22_1 : gX < g22 := by rw [hg22]; exact Rw.lt (hE.h9)
   have hl22_2 : gI < g22 := by rw [hg22]; exact Rw.lt (hE.h8)
   have hl22_4 : gF < g22 := by rw [hg22]; exact Rw.lt (hE.h6)
   have hl22_7 : g1 < g22 := by rw [hg22]; exact (hE.h3).lt
   have hl22_9 : G9 < g22 := by rw [hg22]; exact (hE.here.1.2).lt
   replace hE := hE.blk 29 #[.bool sl, .slice Al nl cl, .bool tl, .slice Bl ml dl] (g := g22) hg22.symm;generalize w21.alloc (.cells #[.bool sl, .slice Al nl cl, .bool tl, .slice Bl ml dl] 29) = W22 at hE ⊢;rw [← hg22];clear hg22;obtain ⟨k23, k24, k25, k26⟩ := (hE.h2).c4;go_wp2_with fail
   refine hE.br (fint_int (ca := cd) (da := dd) (hE.h3) (by omega) (by omega)) ?_;clear hE k23 k24 k25 k26;intro w27 hE;have hsk := Hhsb.out k hk;have htt := Hhtz.out
   have o1 : IntKind.i64.wrap (T - suZ (fun j => floorQ (xq t (wq r) (Kz r) j)) k - z) = T - suZ (fun j => floorQ (xq t (wq r) (Kz r) j)) k - z := by rw [IntKind.wrap_i64]; omega
   have k28 := (hE.h11).c1
   go_upto_region 13 with (fail)
   clear o1 hsk htt;have hbA := belAlloc w27 (.cells #[.int .i64 z] 3);have hBn := Blk.new w27 3 #[.int .i64 z];have hE2 := hE.step hbA;obtain ⟨gI2, capI2, w8, hr, hgI2, hR, hgw⟩ := push_row intElem 36 (hE2.here.1.1.1.1.1.1.1.1.1.2) hgI [.int .i64 z] ⟨rfl, fun v hv => by simp only [List.mem_cons, List.not_mem_nil, or_false] at hv; subst hv; exact ⟨rfl, rfl⟩⟩ hBn (by omega);have hR2 := hR.congr (fun j _ => push_same (by show [Value.int .i64 (floorQ (xq t (wq r) (Kz r) k))] = _; rw [Hhzk.out]) j);replace hE := (((((((((((((Env.again (Go.Proofs.YtjgihmmeimfheaaGreat.Below.grownB hE2.bel hgw hE2.bel.size (by omega))).blkI (Blk.grownB (hE2.here.1.1.1.1.1.1.1.1.1.1.1.2) hgw (Ne.symm ((hE2.here.1.1.1.1.1.1.1.1.1.2).ne (hE2.here.1.1.1.1.1.1.1.1.1.1.1.2) (by decide))))).rwr ((hE2.here.1.1.1.1.1.1.1.1.1.1.2).grownB hgw ((hE2.here.1.1.1.1.1.1.1.1.1.1.2).ne2 (hE2.here.1.1.1.1.1.1.1.1.1.2) (by decide)))).rwr hR2).fqs ((hE2.here.1.1.1.1.1.1.1.1.2).row (hE2.here.1.1.1.1.1.1.1.1.1.2) hgw)).rwr ((hE2.here.1.1.1.1.1.1.1.2).grownB hgw ((hE2.here.1.1.1.1.1.1.1.2).ne2 (hE2.here.1.1.1.1.1.1.1.1.1.2) (by decide)))).fqs ((hE2.here.1.1.1.1.1.1.2).row (hE2.here.1.1.1.1.1.1.1.1.1.2) hgw)).fv (Rw.fv (hE2.here.1.1.1.1.1.1.1.1.1.2) (hE2.here.1.1.1.1.1.2) hgw)).blkI (Blk.grownB (hE2.here.1.1.1.1.2) hgw (Ne.symm ((hE2.here.1.1.1.1.1.1.1.1.1.2).ne (hE2.here.1.1.1.1.2) (by decide))))).fv (Rw.fv (hE2.here.1.1.1.1.1.1.1.1.1.2) (hE2.here.1.1.1.2) hgw)).blkI (Blk.grownB (hE2.here.1.1.2) hgw (Ne.symm ((hE2.here.1.1.1.1.1.1.1.1.1.2).ne (hE2.here.1.1.2) (by decide))))).fv (Rw.fv (hE2.here.1.1.1.1.1.1.1.1.1.2) (hE2.here.1.2) hgw)).blkI (Blk.grownB (hE2.here.2) hgw (Ne.symm ((hE2.here.1.1.1.1.1.1.1.1.1.2).ne (hE2.here.2) (by decide)))));clear hbA hBn hE2 hR hgw hR2;have x29 := (hE.h11).c1;have f29 := (hE.h11).frozen 0
   replace hE := (((((((((((((Env.again (hE.bel.setCell (p := ⟨g7, 0, none⟩) (by show w.heap.size ≤ g7; omega) (.slice (some ⟨gI2, 0, none⟩) (k + 1) capI2))).blkI (show Blk 36 g7 #[.slice (some ⟨gI2, 0, none⟩) (k + 1) capI2] _ by simpa using (hE.h11).set_ 0 (.slice (some ⟨gI2, 0, none⟩) (k + 1) capI2))).rwr ((hE.h10).grownB (grownBy_setCellI _ _ 0 (.slice (some ⟨gI2, 0, none⟩) (k + 1) capI2)) ((hE.h10).ne (hE.h11) (by decide)))).rwr ((hE.h9).grownB (grownBy_setCellI _ _ 0 (.slice (some ⟨gI2, 0, none⟩) (k + 1) capI2)) ((hE.h9).ne (hE.h11) (by decide)))).fqs (FqS.grownB (hE.h8) (hE.h11) rfl (grownBy_setCellI _ _ 0 (.slice (some ⟨gI2, 0, none⟩) (k + 1) capI2)))).rwr ((hE.h7).grownB (grownBy_setCellI _ _ 0 (.slice (some ⟨gI2, 0, none⟩) (k + 1) capI2)) ((hE.h7).ne (hE.h11) (by decide)))).fqs (FqS.grownB (hE.h6) (hE.h11) rfl (grownBy_setCellI _ _ 0 (.slice (some ⟨gI2, 0, none⟩) (k + 1) capI2)))).fv ((hE.h5).sep (i := 0) (hE.h11) rfl (.slice (some ⟨gI2, 0, none⟩) (k + 1) capI2))).blkI ((hE.h4).far (p := ⟨g7, 0, none⟩) (by first | omega | (simp; omega)) (.slice (some ⟨gI2, 0, none⟩) (k + 1) capI2))).fv ((hE.h3).sep (i := 0) (hE.h11) rfl (.slice (some ⟨gI2, 0, none⟩) (k + 1) capI2))).blkI ((hE.h2).far (p := ⟨g7, 0, none⟩) (by first | omega | (simp; omega)) (.slice (some ⟨gI2, 0, none⟩) (k + 1) capI2))).fv ((hE.here.1.2).sep (i := 0) (hE.h11) rfl (.slice (some ⟨gI2, 0, none⟩) (k + 1) capI2))).blkI ((hE.here.2).far (p := ⟨g7, 0, none⟩) (by first | omega | (simp; omega)) (.slice (some ⟨gI2, 0, none⟩) (k + 1) capI2)))
   go_upto_region 14 with (first | refine wpList_appP hr rfl rfl rfl rfl ?_)
   clear x29 f29;generalize w8.setCell ⟨g7, 0, none⟩ (.slice (some ⟨gI2, 0, none⟩) (k + 1) capI2) = W29 at hE ⊢;clear k28;clear hr
   obtain ⟨x, hx2⟩ : ∃ x, x = r k := ⟨_, rfl⟩
   have Hhx2 := Lib.hid hx2;clear hx2;replace hE := hE.clm (HhM.out.below hE.bel);have hlx2 : X - ((z : Int) : Rat) = lq t (wq r) (Kz r) k := HhlX.out.symm;have Hhlx2 := Lib.hid hlx2;clear hlx2;refine wp_norm2 ?_;replace hE := hE.drew;refine wp_region_held_drew (S := fun V => Blk 29 (g22) #[.bool sl, .slice Al nl cl, .bool tl, .slice Bl ml dl] V ∧ ClM (some ⟨b, o, none⟩) n r V) (by kernel_rfl) (⟨hE.here.1.2, hE.here.2⟩) (fun hHeld => ?_)
   generalize W29.drew = wd at *
   refine tk 0 ?_;refine tk 1 ?_;refine tk 2 ?_;refine tk 3 ?_
   refine tk 4 ?_ (hy := by
    intro w hSw;obtain ⟨b2, o2, e2, -, hc2⟩ := hSw.2 (by omega)
    cases e2
    obtain ⟨⟨d0, d1, d2, d3, d4, d5⟩, -⟩ := hc2 k hlt;rw [← Hhx2.out] at d0 d1 d2 d3 d4 d5;clear hc2;clear hSw
    first | (go_simp; done) | (go_simp; with_reducible rfl))
   try simp only [PL]
   refine tk 5 ?_
   refine tk 6 ?_ (hy := by
    intro w hSw;have kc0 := (hSw.1).cell 0;have kc1 := (hSw.1).cell 1;have kc2 := (hSw.1).cell 2;have kc3 := (hSw.1).cell 3;clear hSw
    first | (go_simp; done) | (go_simp; with_reducible rfl))
   try simp only [PL]
   refine tk 7 ?_;refine r1 8 (fun K hK => ?_);go_simp
   obtain ⟨g30, hg30⟩ : ∃ g30, g30 = wd.heap.size := ⟨_, rfl⟩
   have hl30_0 : g7 < g30 := by rw [hg30]; exact (hE.h12).lt
   have hl30_1 : gX < g30 := by rw [hg30]; exact Rw.lt (hE.h11)
   have hl30_2 : gI2 < g30 := by rw [hg30]; exact Rw.lt (hE.h10)
   have hl30_4 : gF < g30 := by rw [hg30]; exact Rw.lt (hE.h8)
   have hl30_7 : g1 < g30 := by rw [hg30]; exact (hE.h5).lt
   have hl30_9 : G9 < g30 := by rw [hg30]; exact (hE.h3).lt
   have hl30_11 : g22 < g30 := by rw [hg30]; exact (hE.here.1.2).lt
   replace hE := hE.blk 76 #[.int .i64 x.I, .bool x.w.s, .slice x.w.A x.w.n x.w.c, .bool x.w.t, .slice x.w.B x.w.m x.w.d, .int .i64 x.K, .int .i64 (k : Int), .bool sl, .slice Al nl cl, .bool tl, .slice Bl ml dl] (g := g30) hg30.symm;generalize wd.alloc (.cells #[.int .i64 x.I, .bool x.w.s, .slice x.w.A x.w.n x.w.c, .bool x.w.t, .slice x.w.B x.w.m x.w.d, .int .i64 x.K, .int .i64 (k : Int), .bool sl, .slice Al nl cl, .bool tl, .slice Bl ml dl] 76) = W30 at hE ⊢;rw [← hg30];clear hg30;refine hK.out _ _ (⟨hE.h2, hE.here.1.2⟩) (fun hHeld => ?_);clear hK K;try simp only [PL]
   refine r1 9 (fun K hK => ?_);obtain ⟨gX2, capX2, wz, hr, hgX2, hR, hgw⟩ := push_row ixElem 71 (hE.h12) hgX (ixC x (k : Int) (⟨sl, Al, nl, cl, fun _ => 0, tl, Bl, ml, dl, fun _ => 0⟩ : FH)) ⟨rfl, ixC_ok _ _ _⟩ (hE.here.2) (by omega);refine Eq.mpr (if_pos (by rfl)) ?_;refine app_step rfl rfl rfl hr ?_;clear hr;have hR2 := hR.congr (e' := ixL r (updF lo k (⟨sl, Al, nl, cl, fun _ => 0, tl, Bl, ml, dl, fun _ => 0⟩ : FH))) (fun j _ => by rw [Hhx2.out]; exact updX_row r lo k _ j);replace hE := ((((((((((((((Env.again (Go.Proofs.YtjgihmmeimfheaaGreat.Below.grownB hE.bel hgw hE.bel.size (by omega))).blkI (Blk.grownB (hE.h13) hgw (Ne.symm ((hE.h12).ne (hE.h13) (by decide))))).rwr hR2).rwr ((hE.h11).grownB hgw ((hE.h11).ne2 (hE.h12) (by decide)))).fqs ((hE.h10).row (hE.h12) hgw)).rwr ((hE.h9).grownB hgw ((hE.h9).ne2 (hE.h12) (by decide)))).fqs ((hE.h8).row (hE.h12) hgw)).fv (Rw.fv (hE.h12) (hE.h7) hgw)).blkI (Blk.grownB (hE.h6) hgw (Ne.symm ((hE.h12).ne (hE.h6) (by decide))))).fv (Rw.fv (hE.h12) (hE.h5) hgw)).blkI (Blk.grownB (hE.h4) hgw (Ne.symm ((hE.h12).ne (hE.h4) (by decide))))).fv (Rw.fv (hE.h12) (hE.h3) hgw)).blkI (Blk.grownB (hE.h2) hgw (Ne.symm ((hE.h12).ne (hE.h2) (by decide))))).clm (HhM.out.below (Go.Proofs.YtjgihmmeimfheaaGreat.Below.grownB hE.bel hgw hE.bel.size (by omega))));clear hR hgw hR2;refine hK.out _ _ (⟨hE.here.1.2, hE.here.2⟩) (fun hHeld => ?_);clear hK K;try simp only [PL]
   refine tk 10 ?_;refine wpAnyH_done (by kernel_rfl) ?_ _;have hq2 := (hE.h9).push (x := (⟨sl, Al, nl, cl, fun _ => 0, tl, Bl, ml, dl, fun _ => 0⟩ : FH)) ((hE.h2).to Hhlx2.out);have hE3 := ((((((Env.again hE.bel).blkI hE.h12).rwr hE.h11).rwr hE.h10).fqs hq2).rwr hE.h8).fqs hE.h7;have HE := Lib.hid hE3;clear hE3 hq2;go_wp2_with fail
   go_roundw
   case rel => exact ⟨k + 1, gI2, capI2, gX2, capX2, _, by omega, by rw [← Hhzk.out]; show _ = Value.int .i64 (T - (suZ (fun j => floorQ (xq t (wq r) (Kz r) j)) k + floorQ (xq t (wq r) (Kz r) k))); congr 1; omega, rfl, by go_num, ⟨hgI2, hgX2⟩, HE.out⟩
   case measure => simp [intOf]; omega
  obtain rfl : k = n := by omega
  have t1 : decide ((k : Int) < (k : Int)) = false := decide_eq_false (by omega);have hlv0 := Hhlv.out;rw [← HhT.out] at hlv0;have hnn := left_nn hlv0;have hll0 := left_lost hlv0
  obtain ⟨L, hL⟩ : ∃ L : Nat, (L : Int) = leftZ t (wq r) (Kz r) T k := ⟨_, Int.toNat_of_nonneg hnn⟩
  have hLk : L ≤ k := units_le (List.Perm.refl _) (fun i _ => lq_b t (wq r) (Kz r) i) (by rw [hll0, ← hL]; rfl)
  have hTs : T - suZ (fun j => floorQ (xq t (wq r) (Kz r) j)) k = (L : Int) := by rw [hL]; rfl
  rw [hTs];clear hnn hll0 hTs;have HhL := Lib.hid hL;clear hL;have Hhlv0 := Lib.hid hlv0;clear hlv0;go_wp2_with fail
  clear t1;refine (sunits_v _ _ ⟨_, _, _, rfl⟩ _).mono ?_
  rintro e _ ⟨rfl, rfl⟩
  go_wp2_with fail
  have hlI0 : gI < wr.heap.size := (hE.h3).lt;have hE := (hE.blk 71 #[.slice (some ⟨gX, 0, none⟩) k capX] (g := wr.heap.size) rfl).blk 3 #[.int .i64 (L : Int)] (g := wr.heap.size + 1) (by simp);have hlI : gI < ((wr.alloc (.cells #[.slice (some ⟨gX, 0, none⟩) k capX] 71)).alloc (.cells #[.int .i64 (L : Int)] 3)).heap.size := (hE.h5).lt
  have hsz : ((wr.alloc (.cells #[.slice (some ⟨gX, 0, none⟩) k capX] 71)).alloc (.cells #[.int .i64 (L : Int)] 3)).heap.size = wr.heap.size + 2 := by simp
  generalize (wr.alloc (.cells #[.slice (some ⟨gX, 0, none⟩) k capX] 71)).alloc (.cells #[.int .i64 (L : Int)] 3) = Wr at hE hlI hsz ⊢;have hws2 : w.heap.size ≤ Wr.heap.size := hE.bel.size;refine (wpIn_wide (n := 5)).1 ?_
  refine rangeV (n := 5) hro (by decide) (gf := 79) (lb := #[.pointer (some ⟨wr.heap.size, 0, none⟩), .pointer (some ⟨wr.heap.size + 1, 0, none⟩)]) rfl trivial (enters_of Tryz.func79 (by kernel_rfl) rfl)
   (units_seq (m := 5 - 1) (by decide) (gP := gI) (r := r) (lo := lo) (q := lq t (wq r) (Kz r)) (hE.here.1.2) (hE.here.2) (hE.h6) (hE.h4) (fun j hj => fl_le2 (Hhll.out j hj) (by decide)) hLk hn Hhqe.out hlI (by omega))
   (fun h1 h2 => KpC.t h1 h2) (fun W l o o' _ b c _ => KpC.b W l o o' b c) (Below.refl _ _) (fun _ => rfl)
   (fun pre W => Env w (fun V => (True ∧ Blk 36 g7 #[.slice (some ⟨gI, 0, none⟩) k capI] V) ∧ Rw 3 1 gI k capI (fun j => [.int .i64 (floorQ (xq t (wq r) (Kz r) j) + ((pre.count j : Nat) : Int))]) V) W) (fun _ _ _ => False)
   (fun pre W W' row h hg hr => Grown.env hws2 (((Grown.tt _).and (Grown.blk _ _ _ _)).and (Grown.rw_ _ _ _ _ _ _ _)) W W' row h hg hr) (fun _ _ _ _ _ h _ _ => h)
   (((Env.again hE.bel).blkI hE.h7).rwr ((hE.h5).congr (fun j _ => by simp)))
   (fun pre x a' _ => x < k ∧ a' = (fun x : Nat => { tmps := #[.int .i64 a, .slice A k c, undef, undef, .slice none 0 0, .int .i64 0, .int .i64 (L : Int), .pointer (some ⟨g7, 0, none⟩), .slice (some ⟨gX, 0, none⟩) k capX, u9, u10, u11, u12, u13, u14, u15, u16, .int .i64 (x : Int), .slice A k c, .bool true, .bool false, .bool false, .int .i64 a, .bool false, .bool false, .bool false, .int .i64 a, .bool false, .bool false, .int .i64 a, .slice A k c, .int .i64 T, .slice A k c, .int .i64 (k : Int), .slice (some ⟨gI0, 0, none⟩) 0 k, .slice A k c, .int .i64 (k : Int), .slice (some ⟨gX0, 0, none⟩) 0 k, .int .i64 a, .slice A k c, .slice (some ⟨gF, 0, none⟩) k capF, .int .i64 (k : Int), .int .i64 (k : Int), .bool false, u44, u45, u46, u47, u48, u49, u50, u51, u52, u53, u54, u55, u56, u57, u58, u59, u60, u61, u62, u63, u64, u65, u66, u67, u68, u69, u70, u71, u72, u73, u74, u75, u76, u77, u78, u79, u80, u81, .slice (some ⟨gX, 0, none⟩) k capX, .int .i64 (L : Int), .func (.func 79) #[] #[.pointer (some ⟨wr.heap.size, 0, none⟩), .pointer (some ⟨wr.heap.size + 1, 0, none⟩)], .int .i64 (x : Int), undef, undef, undef, undef, undef, undef, undef], defers := [] }) x) (fun pre x a' => fun _ W W' row h _ _ => h) ?assign ?body ?done ?stop
  case assign =>
   rintro l pre x W K hI hxk hK
   have hfin := fun a ha => hK a W (KeepsFrom.refl _ _) (fun _ _ _ h _ => h) hI ⟨hxk, ha⟩
   have HF := Lib.hid hfin;clear hfin hK hI
   gi_wp2
   exact HF.out _ rfl
  case body =>
   rintro l pre x a' W hI ⟨hxk, rfl⟩ hlen
   have h7 := hI.here.1.2; have hRr := hI.here.2;have k7 := h7.c1
   obtain ⟨vx, hvx⟩ : ∃ v, v = floorQ (xq t (wq r) (Kz r) x) + ((pre.count x : Nat) : Int) := ⟨_, rfl⟩
   have kx := hRr.cell (k := x) (i := 0) (o := x) (v := .int .i64 vx) hxk (by decide) (by omega) (by rw [hvx]; rfl);have fx := hRr.frozen x
   have i1 : (x : Int) < (k : Int) := by omega
   have hcx : pre.count x ≤ pre.length := List.count_le_length;have hfx := Hhfb.out x hxk
   have o1 : IntKind.i64.wrap (vx + 1) = vx + 1 := by rw [IntKind.wrap_i64, hvx]; omega
   obtain ⟨hR2, hgr⟩ := hRr.put (j := x) hxk (x := [.int .i64 (vx + 1)]) rfl (fun v hv => by simp only [List.mem_cons, List.not_mem_nil, or_false] at hv; subst hv; rfl)
   replace hR2 := hR2.congr (e' := fun j => [.int .i64 (floorQ (xq t (wq r) (Kz r) j) + (((pre ++ [x]).count j : Nat) : Int))]) (fun j _ => by
    unfold updE; rw [count_app]; split
    · rename_i h; subst h; rw [hvx, Int.add_assoc]
    · rw [Int.add_zero])
   rw [Nat.mul_one] at hR2 hgr;have h72 := Blk.grownB h7 hgr (Ne.symm (hRr.ne h7 (by decide)));have hI2 := ((Env.again (Go.Proofs.YtjgihmmeimfheaaGreat.Below.grownB hI.bel hgr hI.bel.size hgI)).blkI h72).rwr hR2;have HF := Lib.hid hI2;clear hI2 h72 hR2 hgr h7 hRr hI;have HVX := Lib.hid hvx;clear hvx
   gi_wp2
   exact ⟨keeps_set hlI, kpc_set, HF.out⟩
  case done =>
   rintro D xs W hD ⟨p, hp, rfl⟩ hI hK
   have hcell := hI.here.1.2.c1;go_wp2_with fail
   refine ⟨by simp, .inl ⟨_, _, rfl, run_takeDeferred hK, ?_⟩⟩;have hnd : ((List.range k).map p).Nodup := (hp.1.list.nodup_iff).2 List.nodup_range;refine ⟨.tuple #[.slice (some ⟨gI, 0, none⟩) k capI, .int .i64 0], by simp [results, Tryz.results15, go_sem], gI, capI, fun j => floorQ (xq t (wq r) (Kz r) j) + (((((List.range k).map p).take L).count j : Nat) : Int), t, rfl, ⟨Hhlv.out, hft, ⟨(List.range k).map p, hp.1.list, (hp.list (Nat.le_refl _)).2.imp (fun h => lex_ord h), fun j hj => ?_⟩⟩, hgI, hI.here.2.putObj hK _, Go.Proofs.YtjgihmmeimfheaaGreat.Below.putObjD hI.bel (by omega) _⟩
   have hLn : (leftZ t (wq r) (Kz r) (totZ a (wq r) (Kz r) k) k).toNat = L := by rw [← HhT.out, ← HhL.out]; exact Int.toNat_natCast L
   rw [hLn];unfold pz;rw [(hnd.sublist (List.take_sublist L _)).count]
   split <;> rfl
  case stop => exact fun D c pre W hD _ h hK => h.elim
end Go.Proofs.YtjgihmmeimfheaaGreat
