/-
  Several texts in one: The walk of the law's copied claims. The law's same of claims with the same digits. The kit's comparisons of equal fractions.
-/
import Derived.Test.YtjgihmmeimfheaaGreatK3
import Derived.Test.YtjgihmmeimfheaaGreatK8
import Derived.Test.YtjgihmmeimfheaaGreatK21
set_option linter.unusedSimpArgs false
set_option maxRecDepth 100000
set_option maxHeartbeats 8000000
namespace Go.Proofs.YtjgihmmeimfheaaGreat
section
open Go.RowKit

def CpW (x y : FH) : Prop := y.s = x.s ∧ y.n = x.n ∧ y.f = x.f ∧ y.t = x.t ∧ y.m = x.m ∧ y.g = x.g
def Rds (h : Nat → FH) (k : Nat) (V : World) : Prop := ∀ j, j < k → (h j).rd V
theorem Rds.stable (h : Nat → FH) (k : Nat) : Stable (Rds h k) := fun _ _ hb hq j hj => FRd.below (hq j hj) hb
theorem Env.rds {w W : World} {P : World → Prop} {h : Nat → FH} {k : Nat} (hE : Env w P W) (hq : Rds h k W) : Env w (fun V => P V ∧ Rds h k V) W := hE.and (Rds.stable h k) hq
theorem FRd.grownR {T : TypeId} {m0 b0 k : Nat} {v : Value} {e : Nat → List Value} {w w' : World} {A B : Option Addr} {n m : Nat} {f g : Nat → Nat} (h : FRd w A n f B m g) (hv : RwV T m0 b0 v k e w) (hg : w.grownBy w' v.ownBlock) : FRd w' A n f B m g := by
 rcases hv with ⟨rfl, _⟩ | ⟨q, cap, rfl, _, hB⟩
 · exact h.below ⟨hg.os, hg.tape, hg.output, hg.size, fun k hk => hg.block k hk (by simp [Value.ownBlock])⟩
 ·
  obtain ⟨cs, hb, hn, _⟩ := hB.blk;exact ⟨Rd.grownB h.1 hb hn hg, Rd.grownB h.2.1 hb hn hg, h.2.2⟩
theorem Rds.push {h : Nat → FH} {k : Nat} {x : FH} {V : World} (hq : Rds h k V) (hx : x.rd V) : Rds (updF h k x) (k + 1) V := fun j hj => by
 unfold updF
 split
 · exact hx
 · exact hq j (by omega)
theorem cpw_push {r : Nat → Cl} {h : Nat → FH} {k : Nat} {x : FH} (hq : ∀ j, j < k → CpW (r j).w (h j)) (hx : CpW (r k).w x) : ∀ j, j < k + 1 → CpW (r j).w (updF h k x j) := fun j hj => by
 unfold updF
 split
 · rename_i e; subst e; exact hx
 · exact hq j (by omega)
def CopyP (n : Nat) (r : Nat → Cl) (w : World) (e : Ending) (w' : World) : Prop := ∃ (A : Option Addr) (c : Nat) (h : Nat → FH), e = .returned (.slice A n c) ∧ ClM A n (fun j => ⟨(r j).I, h j, (r j).K⟩) w' ∧ (∀ j, j < n → CpW (r j).w (h j)) ∧ Below w.heap.size w w'
theorem lcopied_v {A : Option Addr} {n c : Nat} {r : Nat → Cl} {w : World} (hM : ClM A n r w) (hn : n ≤ 100) (hl : ∀ k, k < n → (r k).w.n ≤ 300 ∧ (r k).w.m ≤ 300) :
  Calls Tryz.prog 58 #[.slice A n c] w (CopyP n r w) := by
 have HhM := Lib.hid hM;clear hM;have Hhl := Lib.hid hl;clear hl;have hE := Env.start w
 go_enter Tryz.func58, Tryz.ntmps58
 go_wp2_with fail
 go_loopw [3, 4] (fun mv x wr => ∃ (k : Nat) (h : Nat → FH) (v : Value), k ≤ n ∧ v = mv ∧ x = .int .i64 (k : Int) ∧ (∀ j, j < k → CpW (r j).w (h j)) ∧ Env w (fun V => ((True ∧ RwV 46 6 w.heap.size v k (clR (fun j => (r j).I) (Kz r) h) V) ∧ Rds h k V)) wr) (fun _ x _ => n - (intOf x).toNat)
 case atStart => exact ⟨0, fun _ => zFH, .slice none 0 0, Nat.zero_le _, rfl, rfl, fun j hj => absurd hj (Nat.not_lt_zero j), (hE.rwv (.inl ⟨rfl, rfl⟩)).rds (fun j hj => absurd hj (Nat.not_lt_zero j))⟩
 case round =>
  clear hE;obtain ⟨k, h, v, hk, rfl, rfl, hcp, hE⟩ := hrel;have Hhcp := Lib.hid hcp;clear hcp
  by_cases hlt : k < n
  rotate_left
  ·
   obtain rfl : n = k := by omega
   have t1 : decide ((n : Int) < (n : Int)) = false := decide_eq_false (by omega);obtain ⟨A2, c2, rfl, hM2⟩ := clm_shared (r := fun j => ⟨(r j).I, h j, (r j).K⟩) (hE.here.1.2) hE.here.2;replace hE := (Env.again hE.bel).clm hM2;clear hM2;go_wp2_with fail
   go_ret
   exact ⟨A2, c2, h, rfl, hE.here.2, Hhcp.out, hE.bel⟩
  have t1 : decide ((k : Int) < (n : Int)) = true := decide_eq_true (by omega)
  have t2 : (k : Int) < (n : Int) := by omega
  obtain ⟨b, o, rfl, hb, hc⟩ := (HhM.out.below hE.bel) (by omega);clear hb hc
  obtain ⟨x, hx2⟩ : ∃ x, x = r k := ⟨_, rfl⟩
  have hxl : x.w.n ≤ 300 ∧ x.w.m ≤ 300 := by rw [hx2]; exact Hhl.out k hlt
  have Hhx2 := Lib.hid hx2;clear hx2;replace hE := hE.clm (HhM.out.below hE.bel)
  go_upto_region 5 with (fail)
  clear t1;replace hE := hE.drew;refine wp_region_held_drew (S := fun V => ClM (some ⟨b, o, none⟩) n r V) (by kernel_rfl) (hE.here.2) (fun hHeld => ?_)
  generalize wr.drew = wd at *
  refine tk 0 ?_;refine tk 1 ?_;refine tk 2 ?_;refine tk 3 ?_;refine tk 4 ?_
  refine tk 5 ?_ (hy := by
   intro w hSw;obtain ⟨b2, o2, e2, -, hc2⟩ := hSw (by omega)
   cases e2
   obtain ⟨⟨d0, d1, d2, d3, d4, d5⟩, -⟩ := hc2 k hlt;rw [← Hhx2.out] at d0 d1 d2 d3 d4 d5;clear hc2;clear hSw
   first | (go_simp; done) | (go_simp; with_reducible rfl))
  try simp only [PL]
  refine tk 6 ?_;refine tk 7 ?_;refine tk 8 ?_;refine tk 9 ?_
  refine tk 10 ?_ (hy := by
   intro w hSw;obtain ⟨b2, o2, e2, -, hc2⟩ := hSw (by omega)
   cases e2
   obtain ⟨⟨d0, d1, d2, d3, d4, d5⟩, -⟩ := hc2 k hlt;rw [← Hhx2.out] at d0 d1 d2 d3 d4 d5;clear hc2;clear hSw
   first | (go_simp; done) | (go_simp; with_reducible rfl))
  try simp only [PL]
  refine tk 12 ?_;refine tk 13 ?_;refine tk 14 ?_;refine tk 15 ?_
  refine tk 16 ?_ (hy := by
   intro w hSw;obtain ⟨b2, o2, e2, -, hc2⟩ := hSw (by omega)
   cases e2
   obtain ⟨⟨d0, d1, d2, d3, d4, d5⟩, -⟩ := hc2 k hlt;rw [← Hhx2.out] at d0 d1 d2 d3 d4 d5;clear hc2;clear hSw
   first | (go_simp; done) | (go_simp; with_reducible rfl))
  try simp only [PL]
  refine r1 11 (fun K hK => ?_);go_simp;have hrd := (hE.here.2).rds k hlt;rw [← Hhx2.out] at hrd;refine (copyFrac_rd (s := x.w.s) (t := x.w.t) (c := x.w.c) (d := x.w.d) hrd (by omega) (by omega)).mono ?_;clear hrd
  rintro e w1 ⟨A1, c1, B1, d1, rfl, hf, hb⟩
  replace hE := (hE.step hb).frd hf;clear hf hb;go_wp2_with fail
  refine hK.out _ _ (hE.here.1.2) (fun hHeld => ?_);clear hK K;try simp only [PL]
  refine tk 17 ?_;refine r1 18 (fun K hK => ?_);go_simp
  obtain ⟨g2, hg2⟩ : ∃ g2, g2 = w1.heap.size := ⟨_, rfl⟩
  have hlw_g2 : w.heap.size ≤ g2 := by rw [hg2]; exact hE.bel.size
  replace hE := hE.blk 46 #[.int .i64 x.I, .bool x.w.s, .slice A1 x.w.n c1, .bool x.w.t, .slice B1 x.w.m d1, .int .i64 x.K] (g := g2) hg2.symm;generalize w1.alloc (.cells #[.int .i64 x.I, .bool x.w.s, .slice A1 x.w.n c1, .bool x.w.t, .slice B1 x.w.m d1, .int .i64 x.K] 46) = W2 at hE ⊢;rw [← hg2];clear hg2;refine hK.out _ _ (hE.h2) (fun hHeld => ?_);clear hK K;try simp only [PL]
  refine r1 19 (fun K hK => ?_);obtain ⟨v2, wz, hr, hR2, hgw⟩ := push_claim 22 (hE.h4) hE.bel.size (⟨x.w.s, A1, x.w.n, c1, x.w.f, x.w.t, B1, x.w.m, d1, x.w.g⟩ : FH) (show Blk 46 g2 (clL (r k).I (r k).K (⟨x.w.s, A1, x.w.n, c1, x.w.f, x.w.t, B1, x.w.m, d1, x.w.g⟩ : FH)).toArray _ from by rw [← Hhx2.out]; exact hE.here.2) (by omega);have hq2 := Rds.push (x := (⟨x.w.s, A1, x.w.n, c1, x.w.f, x.w.t, B1, x.w.m, d1, x.w.g⟩ : FH)) (fun j hj => FRd.grownR ((hE.h3) j hj) (hE.h4) hgw) (FRd.grownR (hE.here.1.2) (hE.h4) hgw);refine Eq.mpr (if_pos (by rfl)) ?_;refine app_step rfl rfl rfl hr ?_;clear hr;replace hE := (((Env.again (Go.Proofs.YtjgihmmeimfheaaGreat.Below.grownR hE.bel (hE.h4) hgw (Nat.le_refl _) hE.bel.size)).rwv hR2).rds hq2).clm (HhM.out.below (Go.Proofs.YtjgihmmeimfheaaGreat.Below.grownR hE.bel (hE.h4) hgw (Nat.le_refl _) hE.bel.size));clear hR2 hgw hq2;refine hK.out _ _ (hE.here.2) (fun hHeld => ?_);clear hK K;try simp only [PL]
  refine tk 20 ?_;refine wpAnyH_done (by kernel_rfl) ?_ _;have hcp2 := cpw_push Hhcp.out (x := (⟨x.w.s, A1, x.w.n, c1, x.w.f, x.w.t, B1, x.w.m, d1, x.w.g⟩ : FH)) (by rw [← Hhx2.out]; exact ⟨rfl, rfl, rfl, rfl, rfl, rfl⟩);have Hhcp2 := Lib.hid hcp2;clear hcp2;go_wp2_with fail
  go_roundw
  case rel => exact ⟨k + 1, _, v2, by omega, rfl, by go_num, Hhcp2.out, (((Env.again hE.bel).rwv (hE.h2)).rds (hE.here.1.2))⟩
  case measure => simp [intOf]; omega
end
section
open Go.RowKit

theorem eqU_self (f : Nat → Nat) : ∀ n, eqU f f n = true
 | 0 => rfl
 | n + 1 => by unfold eqU; simp [eqU_self f n]
theorem sameW_self (s : Bool) (n : Nat) (f : Nat → Nat) : sameW s s n n f f = true := by
 unfold sameW
 simp [eqL, eqU_self]
theorem frsame_t {s t : Bool} {A B A2 B2 : Option Addr} {n m c d c2 d2 : Nat} {fa ga : Nat → Nat} {w : World} (h : FRd w A n fa B m ga) (k : FRd w A2 n fa B2 m ga) (hn : n ≤ 1000000) (hm : m ≤ 1000000) :
  Calls Tryz.prog 37 #[.agg #[.bool s, .slice A n c, .bool t, .slice B m d], .agg #[.bool s, .slice A2 n c2, .bool t, .slice B2 m d2]] w (fun e w' => e = .returned (.bool true) ∧ Below w.heap.size w w') := by
 obtain ⟨h1, h2, h3, h4⟩ := h;obtain ⟨k1, k2, -, -⟩ := k;have Hh1 := Lib.hid h1;clear h1;have Hh2 := Lib.hid h2;clear h2;have Hh3 := Lib.hid h3;clear h3;have Hh4 := Lib.hid h4;clear h4;have Hk1 := Lib.hid k1;clear k1;have Hk2 := Lib.hid k2;clear k2;have hE := ((Env.start w).blk 29 #[.bool s, .slice A n c, .bool t, .slice B m d] (g := w.heap.size) rfl).blk 29 #[.bool s, .slice A2 n c2, .bool t, .slice B2 m d2] (g := w.heap.size + 1) (by simp)
 obtain ⟨W0, hW0⟩ : ∃ W0, W0 = ((w.alloc (.cells #[.bool s, .slice A n c, .bool t, .slice B m d] 29)).alloc (.cells #[.bool s, .slice A2 n c2, .bool t, .slice B2 m d2] 29)) := ⟨_, rfl⟩
 rw [← hW0] at hE;have HW0 := Lib.hid hW0;clear hW0
 go_enter Tryz.func37, Tryz.ntmps37
 go_upto_region 1 with (fail)
 rw [← HW0.out];obtain ⟨k1, k2, k3, k4⟩ := (hE.here.1.2).c4;obtain ⟨k5, k6, k7, k8⟩ := (hE.here.2).c4;go_wp2_with fail
 have hcon := refSame_any s s A A2 n n c c2 fa fa _ ((Hh1.out.below hE.bel).more hE.bel.size) ((Hk1.out.below hE.bel).more hE.bel.size) hn hn;rw [sameW_self] at hcon;refine hE.br (hcon) ?_;clear hE k1 k2 k3 k4 k5 k6 k7 k8;intro w9 hE;clear hcon;obtain ⟨k10, k11, k12, k13⟩ := (hE.here.1.2).c4;obtain ⟨k14, k15, k16, k17⟩ := (hE.here.2).c4;go_wp2_with fail
 have hcon := refSame_any t t B B2 m m d d2 ga ga _ ((Hh2.out.below hE.bel).more hE.bel.size) ((Hk2.out.below hE.bel).more hE.bel.size) hm hm;rw [sameW_self] at hcon;refine hE.br (hcon) ?_;clear hE k10 k11 k12 k13 k14 k15 k16 k17;intro w18 hE;clear hcon;go_wp2_with fail
 go_ret
 exact ⟨rfl, hE.bel⟩
theorem lsame_t {A A2 : Option Addr} {n c c2 : Nat} {r r2 : Nat → Cl} {w : World} (hM : ClM A n r w) (hN : ClM A2 n r2 w) (hn : n ≤ 100) (hl : ∀ k, k < n → (r k).w.n ≤ 300 ∧ (r k).w.m ≤ 300) (he : ∀ k, k < n → (r2 k).I = (r k).I ∧ (r2 k).K = (r k).K ∧ CpW (r k).w (r2 k).w) :
  Calls Tryz.prog 64 #[.slice A n c, .slice A2 n c2] w (fun e w' => e = .returned (.bool true) ∧ Below w.heap.size w w') := by
 have HhM := Lib.hid hM;clear hM;have HhN := Lib.hid hN;clear hN;have Hhl := Lib.hid hl;clear hl;have Hhe := Lib.hid he;clear he;have hE := Env.start w
 go_enter Tryz.func64, Tryz.ntmps64
 go_wp2_with fail
 go_loopw [5] (fun x wr => ∃ k : Nat, k ≤ n ∧ x = .int .i64 (k : Int) ∧ Env w (fun V => True) wr) (fun x _ => n - (intOf x).toNat)
 case atStart => exact ⟨0, Nat.zero_le _, rfl, hE⟩
 case round =>
  clear hE;obtain ⟨k, hk, rfl, hE⟩ := hrel
  by_cases hlt : k < n
  rotate_left
  ·
   have t1 : decide ((k : Int) < (n : Int)) = false := decide_eq_false (by omega);go_wp2_with fail
   go_ret
   exact ⟨rfl, hE.bel⟩
  have t1 : decide ((k : Int) < (n : Int)) = true := decide_eq_true (by omega)
  have t2 : (k : Int) < (n : Int) := by omega
  obtain ⟨b, o, rfl, hb, hc⟩ := (HhM.out.below hE.bel) (by omega);clear hb hc;obtain ⟨bb, oo, rfl, hb, hc⟩ := (HhN.out.below hE.bel) (by omega);clear hb hc
  obtain ⟨x, hx0⟩ : ∃ x, x = r k := ⟨_, rfl⟩
  obtain ⟨y, hy0⟩ : ∃ x, x = r2 k := ⟨_, rfl⟩
  obtain ⟨e1, e2, e3, e4, e5, e6, e7, e8⟩ := Hhe.out k hlt;rw [← hx0, ← hy0] at e1 e2 e3 e4 e5 e6 e7 e8;have hxl := Hhl.out k hlt;rw [← hx0] at hxl;have hrx := (HhM.out.below hE.bel).rds k hlt;rw [← hx0] at hrx;have hry := (HhN.out.below hE.bel).rds k hlt;rw [← hy0] at hry
  have hry2 : FRd wr y.w.A x.w.n x.w.f y.w.B x.w.m x.w.g := by rw [← e4, ← e5, ← e7, ← e8]; exact hry
  clear hry
  have t4 : (x.I != y.I) = false := by rw [bne_eq_false_iff_eq]; exact e1.symm
  have t5 : (x.K != y.K) = false := by rw [bne_eq_false_iff_eq]; exact e2.symm
  have t6 : (x.I == y.I) = true := beq_iff_eq.2 e1.symm;have t7 : (x.K == y.K) = true := beq_iff_eq.2 e2.symm;have he3 := e3;have he4 := e4;have he6 := e6;have he7 := e7;clear e1 e2 e3 e4 e5 e6 e7 e8;have Hhx0 := Lib.hid hx0;clear hx0;have Hhy0 := Lib.hid hy0;clear hy0;have Hhe3 := Lib.hid he3;clear he3;have Hhe4 := Lib.hid he4;clear he4;have Hhe6 := Lib.hid he6;clear he6;have Hhe7 := Lib.hid he7;clear he7;replace hE := ((((Env.again hE.bel).frd hrx).frd hry2).clm (HhM.out.below hE.bel)).clm (HhN.out.below hE.bel);clear hrx hry2
  go_upto_region 6 with (fail)
  clear t1;replace hE := hE.drew;refine wp_region_held_drew (S := fun V => ClM (some ⟨b, o, none⟩) n r V ∧ ClM (some ⟨bb, oo, none⟩) n r2 V) (by kernel_rfl) (⟨hE.here.1.2, hE.here.2⟩) (fun hHeld => ?_)
  generalize wr.drew = wd at *
  refine tk 0 ?_;refine tk 1 ?_;refine tk 2 ?_;refine tk 3 ?_
  refine tk 4 ?_ (hy := by
   intro w hSw;obtain ⟨b2, o2, e2, -, hc2⟩ := hSw.1 (by omega)
   cases e2
   obtain ⟨⟨d0, d1, d2, d3, d4, d5⟩, -⟩ := hc2 k hlt;rw [← Hhx0.out] at d0 d1 d2 d3 d4 d5;clear hc2;clear hSw
   first | (go_simp; done) | (go_simp; with_reducible rfl))
  try simp only [PL]
  refine tk 5 ?_;refine tk 6 ?_;refine tk 7 ?_;refine tk 8 ?_
  refine tk 9 ?_ (hy := by
   intro w hSw;obtain ⟨b2, o2, e2, -, hc2⟩ := hSw.2 (by omega)
   cases e2
   obtain ⟨⟨d0, d1, d2, d3, d4, d5⟩, -⟩ := hc2 k hlt;rw [← Hhy0.out] at d0 d1 d2 d3 d4 d5;rw [Hhe3.out] at d1;rw [Hhe4.out] at d2;rw [Hhe6.out] at d3;rw [Hhe7.out] at d4;clear hc2;clear hSw
   first | (go_simp; done) | (go_simp; with_reducible rfl))
  try simp only [PL]
  refine tk 10 ?_;refine tk 11 ?_;refine tk 12 ?_;refine tk 13 ?_;refine tk 14 ?_;refine tk 15 ?_
  refine tk 16 ?_ (hy := by
   intro w hSw;obtain ⟨b2, o2, e2, -, hc2⟩ := hSw.1 (by omega)
   cases e2
   obtain ⟨⟨d0, d1, d2, d3, d4, d5⟩, -⟩ := hc2 k hlt;rw [← Hhx0.out] at d0 d1 d2 d3 d4 d5;clear hc2;clear hSw
   first | (go_simp; done) | (go_simp; with_reducible rfl))
  try simp only [PL]
  refine tk 17 ?_;refine tk 18 ?_;refine tk 19 ?_;refine tk 20 ?_
  refine tk 21 ?_ (hy := by
   intro w hSw;obtain ⟨b2, o2, e2, -, hc2⟩ := hSw.2 (by omega)
   cases e2
   obtain ⟨⟨d0, d1, d2, d3, d4, d5⟩, -⟩ := hc2 k hlt;rw [← Hhy0.out] at d0 d1 d2 d3 d4 d5;rw [Hhe3.out] at d1;rw [Hhe4.out] at d2;rw [Hhe6.out] at d3;rw [Hhe7.out] at d4;clear hc2;clear hSw
   first | (go_simp; done) | (go_simp; with_reducible rfl))
  try simp only [PL]
  refine tk 22 ?_;refine tk 23 ?_;refine tk 24 ?_;refine tk 25 ?_;refine tk 26 ?_;refine tk 27 ?_;refine tk 28 ?_
  refine tk 29 ?_ (hy := by
   intro w hSw;obtain ⟨b2, o2, e2, -, hc2⟩ := hSw.1 (by omega)
   cases e2
   obtain ⟨⟨d0, d1, d2, d3, d4, d5⟩, -⟩ := hc2 k hlt;rw [← Hhx0.out] at d0 d1 d2 d3 d4 d5;clear hc2;clear hSw
   first | (go_simp; done) | (go_simp; with_reducible rfl))
  try simp only [PL]
  refine tk 30 ?_;refine tk 31 ?_;refine tk 32 ?_;refine tk 33 ?_
  refine tk 34 ?_ (hy := by
   intro w hSw;obtain ⟨b2, o2, e2, -, hc2⟩ := hSw.2 (by omega)
   cases e2
   obtain ⟨⟨d0, d1, d2, d3, d4, d5⟩, -⟩ := hc2 k hlt;rw [← Hhy0.out] at d0 d1 d2 d3 d4 d5;rw [Hhe3.out] at d1;rw [Hhe4.out] at d2;rw [Hhe6.out] at d3;rw [Hhe7.out] at d4;clear hc2;clear hSw
   first | (go_simp; done) | (go_simp; with_reducible rfl))
  try simp only [PL]
  refine r1 35 (fun K hK => ?_);go_simp;refine hE.br (frsame_t (s := x.w.s) (t := x.w.t) (c := x.w.c) (d := x.w.d) (c2 := y.w.c) (d2 := y.w.d) (hE.h3) (hE.h2) (by omega) (by omega)) ?_;clear hE;intro w1 hE;go_wp2_with fail
  refine hK.out _ _ (⟨hE.here.1.2, hE.here.2⟩) (fun hHeld => ?_);clear hK K;try simp only [PL]
  refine tk 36 ?_;refine tk 37 ?_;refine wpAnyH_done (by kernel_rfl) ?_ _;go_wp2_with fail
  go_roundw
  case rel => exact ⟨k + 1, by omega, by go_num, Env.again hE.bel⟩
  case measure => simp [intOf]; omega
end
section
open Go.RowKit

theorem sameLimbs_t {A B : Option Addr} {n c d : Nat} {f : Nat → Nat} {w : World} (hA : Rd w.heap.size .u16 w A n f) (hB : Rd w.heap.size .u16 w B n f) (hn : n ≤ 1000000) :
  Calls Tryz.prog 158 #[.slice A n c, .slice B n d] w (fun e w' => e = .returned (.bool true) ∧ Below w.heap.size w w') := by
 have HhA := Lib.hid hA;clear hA;have HhB := Lib.hid hB;clear hB;have hE := Env.start w
 go_enter Tryz.func158, Tryz.ntmps158
 go_wp2_with fail
 go_loopw [5] (fun x wr => ∃ k : Nat, k ≤ n ∧ x = .int .i64 (k : Int) ∧ Env w (fun V => True) wr) (fun x _ => n - (intOf x).toNat)
 case atStart => exact ⟨0, Nat.zero_le _, rfl, hE⟩
 case round =>
  clear hE;obtain ⟨k, hk, rfl, hE⟩ := hrel
  by_cases hlt : k < n
  rotate_left
  ·
   have t1 : decide ((k : Int) < (n : Int)) = false := decide_eq_false (by omega);go_wp2_with fail
   go_ret
   exact ⟨rfl, hE.bel⟩
  have t1 : decide ((k : Int) < (n : Int)) = true := decide_eq_true (by omega)
  have t2 : (k : Int) < (n : Int) := by omega
  obtain ⟨b, o, rfl, -, -⟩ := HhA.out (by omega);obtain ⟨bb, oo, rfl, -, -⟩ := HhB.out (by omega);replace hE := ((Env.again hE.bel).rd16 ((HhA.out.below hE.bel).more hE.bel.size)).rd16 ((HhB.out.below hE.bel).more hE.bel.size)
  go_upto_region 6 with (fail)
  clear t1;replace hE := hE.drew;refine wp_region_held_drew (S := fun V => Rd (World.heap V).size .u16 V (some ⟨b, o, none⟩) n f ∧ Rd (World.heap V).size .u16 V (some ⟨bb, oo, none⟩) n f) (by kernel_rfl) (⟨hE.here.1.2, hE.here.2⟩) (fun hHeld => ?_)
  generalize wr.drew = wd at *
  refine tk 0 ?_;refine tk 1 ?_;refine tk 2 ?_
  refine tk 3 ?_ (hy := by
   intro w hSw;obtain ⟨b2, o2, e2, -, hc2⟩ := hSw.1 (by omega)
   cases e2
   have d0 := hc2 k hlt;clear hc2;clear hSw
   first | (go_simp; done) | (go_simp; with_reducible rfl))
  try simp only [PL]
  refine tk 4 ?_;refine tk 5 ?_;refine tk 6 ?_
  refine tk 7 ?_ (hy := by
   intro w hSw;obtain ⟨b2, o2, e2, -, hc2⟩ := hSw.2 (by omega)
   cases e2
   have d0 := hc2 k hlt;clear hc2;clear hSw
   first | (go_simp; done) | (go_simp; with_reducible rfl))
  try simp only [PL]
  refine tk 8 ?_;refine wpAnyH_done (by kernel_rfl) ?_ _;go_wp2_with fail
  go_roundw
  case rel => exact ⟨k + 1, by omega, by go_num, Env.again hE.bel⟩
  case measure => simp [intOf]; omega
theorem sameWhole_t {s : Bool} {A B : Option Addr} {n c d : Nat} {f : Nat → Nat} {w : World} (hA : Rd w.heap.size .u16 w A n f) (hB : Rd w.heap.size .u16 w B n f) (hn : n ≤ 1000000) :
  Calls Tryz.prog 138 #[.agg #[.bool s, .slice A n c], .agg #[.bool s, .slice B n d]] w (fun e w' => e = .returned (.bool true) ∧ Below w.heap.size w w') := by
 have HhA := Lib.hid hA;clear hA;have HhB := Lib.hid hB;clear hB;have hE := ((Env.start w).blk 27 #[.bool s, .slice A n c] (g := w.heap.size) rfl).blk 27 #[.bool s, .slice B n d] (g := w.heap.size + 1) (by simp)
 obtain ⟨W0, hW0⟩ : ∃ W0, W0 = ((w.alloc (.cells #[.bool s, .slice A n c] 27)).alloc (.cells #[.bool s, .slice B n d] 27)) := ⟨_, rfl⟩
 rw [← hW0] at hE;have HW0 := Lib.hid hW0;clear hW0
 go_enter Tryz.func138, Tryz.ntmps138
 go_upto_region 1 with (fail)
 rw [← HW0.out];obtain ⟨k1, k2⟩ := (hE.here.1.2).c2;obtain ⟨k3, k4⟩ := (hE.here.2).c2;go_wp2_with fail
 refine hE.br (sameLimbs_t (c := c) (d := d) ((HhA.out.below hE.bel).more hE.bel.size) ((HhB.out.below hE.bel).more hE.bel.size) hn) ?_;clear hE k1 k2 k3 k4;intro w5 hE;go_wp2_with fail
 go_ret
 exact ⟨rfl, hE.bel⟩
theorem sameFrac_t {s t : Bool} {A B A2 B2 : Option Addr} {n m c d c2 d2 : Nat} {fa ga : Nat → Nat} {w : World} (h : FRd w A n fa B m ga) (k : FRd w A2 n fa B2 m ga) (hn : n ≤ 1000000) (hm : m ≤ 1000000) :
  Calls Tryz.prog 107 #[.agg #[.bool s, .slice A n c, .bool t, .slice B m d], .agg #[.bool s, .slice A2 n c2, .bool t, .slice B2 m d2]] w (fun e w' => e = .returned (.bool true) ∧ Below w.heap.size w w') := by
 obtain ⟨h1, h2, -, -⟩ := h;obtain ⟨k1, k2, -, -⟩ := k;have Hh1 := Lib.hid h1;clear h1;have Hh2 := Lib.hid h2;clear h2;have Hk1 := Lib.hid k1;clear k1;have Hk2 := Lib.hid k2;clear k2;have hE := ((Env.start w).blk 29 #[.bool s, .slice A n c, .bool t, .slice B m d] (g := w.heap.size) rfl).blk 29 #[.bool s, .slice A2 n c2, .bool t, .slice B2 m d2] (g := w.heap.size + 1) (by simp)
 obtain ⟨W0, hW0⟩ : ∃ W0, W0 = ((w.alloc (.cells #[.bool s, .slice A n c, .bool t, .slice B m d] 29)).alloc (.cells #[.bool s, .slice A2 n c2, .bool t, .slice B2 m d2] 29)) := ⟨_, rfl⟩
 rw [← hW0] at hE;have HW0 := Lib.hid hW0;clear hW0
 go_enter Tryz.func107, Tryz.ntmps107
 go_upto_region 1 with (fail)
 rw [← HW0.out];obtain ⟨k1, k2, k3, k4⟩ := (hE.here.1.2).c4;obtain ⟨k5, k6, k7, k8⟩ := (hE.here.2).c4;go_wp2_with fail
 refine hE.br (sameWhole_t (s := s) (c := c) (d := c2) ((Hh1.out.below hE.bel).more hE.bel.size) ((Hk1.out.below hE.bel).more hE.bel.size) hn) ?_;clear hE k1 k2 k3 k4 k5 k6 k7 k8;intro w9 hE;obtain ⟨k10, k11, k12, k13⟩ := (hE.here.1.2).c4;obtain ⟨k14, k15, k16, k17⟩ := (hE.here.2).c4;go_wp2_with fail
 refine hE.br (sameWhole_t (s := t) (c := d) (d := d2) ((Hh2.out.below hE.bel).more hE.bel.size) ((Hk2.out.below hE.bel).more hE.bel.size) hm) ?_;clear hE k10 k11 k12 k13 k14 k15 k16 k17;intro w18 hE;go_wp2_with fail
 go_ret
 exact ⟨rfl, hE.bel⟩
theorem sameFrac_v {a : Rat} {sa ta sb tb : Bool} {Aa Ba Ab Bb : Option Addr} {na ca ma da nb cb mb db : Nat} {w : World} (ha : FV w a sa Aa na ta Ba ma) (hb : FV w a sb Ab nb tb Bb mb) (l : fl a ≤ 256) :
  Calls Tryz.prog 107 #[.agg #[.bool sa, .slice Aa na ca, .bool ta, .slice Ba ma da], .agg #[.bool sb, .slice Ab nb cb, .bool tb, .slice Bb mb db]] w (fun e w' => e = .returned (.bool true) ∧ Below w.heap.size w w') := by
 obtain ⟨h1, h2⟩ := ha.ln l
 obtain rfl : sa = sb := by rw [ha.1.sgn, hb.1.sgn]
 obtain rfl : na = nb := by rw [ha.1.len, hb.1.len]
 obtain rfl : ta = tb := by rw [ha.2.sgn, hb.2.sgn]
 obtain rfl : ma = mb := by rw [ha.2.len, hb.2.len]
 exact sameFrac_t ha.rd hb.rd (by omega) (by omega)
theorem sameFracs_t {g g2 n cap cap2 : Nat} {hx hy : Nat → FH} {q : Nat → Rat} {w : World} (hA : Rw 29 4 g n cap (fun j => zqL (hx j)) w) (hB : Rw 29 4 g2 n cap2 (fun j => zqL (hy j)) w) (hqa : FqS hx n q w) (hqb : FqS hy n q w) (hn : n ≤ 1000) (hl : ∀ k, k < n → fl (q k) ≤ 256) :
  Calls Tryz.prog 63 #[.slice (some ⟨g, 0, none⟩) n cap, .slice (some ⟨g2, 0, none⟩) n cap2] w (fun e w' => e = .returned (.bool true) ∧ Below w.heap.size w w') := by
 have hE := (((((Env.start w).rwr hA).rwr hB).fqs hqa).fqs hqb);clear hA hB hqa hqb;have Hhl := Lib.hid hl;clear hl
 go_enter Tryz.func63, Tryz.ntmps63
 go_wp2_with fail
 go_loopw [5] (fun x wr => ∃ k : Nat, k ≤ n ∧ x = .int .i64 (k : Int) ∧ Env w (fun V => ((((True ∧ Rw 29 4 g n cap (fun j => zqL (hx j)) V) ∧ Rw 29 4 g2 n cap2 (fun j => zqL (hy j)) V) ∧ FqS hx n q V) ∧ FqS hy n q V)) wr) (fun x _ => n - (intOf x).toNat)
 case atStart => exact ⟨0, Nat.zero_le _, rfl, hE⟩
 case round =>
  clear hE;obtain ⟨k, hk, rfl, hE⟩ := hrel
  by_cases hlt : k < n
  rotate_left
  ·
   have t1 : decide ((k : Int) < (n : Int)) = false := decide_eq_false (by omega);go_wp2_with fail
   go_ret
   exact ⟨rfl, hE.bel⟩
  have t1 : decide ((k : Int) < (n : Int)) = true := decide_eq_true (by omega)
  have t2 : (k : Int) < (n : Int) := by omega
  obtain ⟨x, hx2⟩ : ∃ y, y = hx k := ⟨_, rfl⟩
  obtain ⟨y, hy2⟩ : ∃ y, y = hy k := ⟨_, rfl⟩
  obtain ⟨X, hX⟩ : ∃ X, X = q k := ⟨_, rfl⟩
  have hxv := hE.here.1.2 k hlt;rw [← hx2, ← hX] at hxv;have hyv := hE.here.2 k hlt;rw [← hy2, ← hX] at hyv;have hlk := Hhl.out k hlt;rw [← hX] at hlk;have Hhx2 := Lib.hid hx2;clear hx2;have Hhy2 := Lib.hid hy2;clear hy2;have HhX := Lib.hid hX;clear hX;replace hE := (hE.fv hxv).fv hyv;clear hxv hyv
  go_upto_region 6 with (fail)
  clear t1;replace hE := hE.drew;refine wp_region_held_drew (S := fun V => Rw 29 4 g n cap (fun j => zqL (hx j)) V ∧ Rw 29 4 g2 n cap2 (fun j => zqL (hy j)) V) (by kernel_rfl) (⟨hE.h5, hE.h4⟩) (fun hHeld => ?_)
  generalize wr.drew = wd at *
  refine tk 0 ?_;refine tk 1 ?_;refine tk 2 ?_
  refine tk 3 ?_ (hy := by
   intro w hSw;have kc0 := Rw.cell hSw.1 (k := k) (i := 0) (o := k * 4) (v := .bool x.s) hlt (by decide) rfl (by rw [← Hhx2.out]; rfl);have kc1 := Rw.cell hSw.1 (k := k) (i := 1) (o := k * 4 + 1) (v := .slice x.A x.n x.c) hlt (by decide) rfl (by rw [← Hhx2.out]; rfl);have kc2 := Rw.cell hSw.1 (k := k) (i := 2) (o := k * 4 + 2) (v := .bool x.t) hlt (by decide) rfl (by rw [← Hhx2.out]; rfl);have kc3 := Rw.cell hSw.1 (k := k) (i := 3) (o := k * 4 + 3) (v := .slice x.B x.m x.d) hlt (by decide) rfl (by rw [← Hhx2.out]; rfl);clear hSw
   first | (go_simp; done) | (go_simp; with_reducible rfl))
  try simp only [PL]
  refine tk 4 ?_;refine tk 5 ?_;refine tk 6 ?_
  refine tk 7 ?_ (hy := by
   intro w hSw;have kc0 := Rw.cell hSw.2 (k := k) (i := 0) (o := k * 4) (v := .bool y.s) hlt (by decide) rfl (by rw [← Hhy2.out]; rfl);have kc1 := Rw.cell hSw.2 (k := k) (i := 1) (o := k * 4 + 1) (v := .slice y.A y.n y.c) hlt (by decide) rfl (by rw [← Hhy2.out]; rfl);have kc2 := Rw.cell hSw.2 (k := k) (i := 2) (o := k * 4 + 2) (v := .bool y.t) hlt (by decide) rfl (by rw [← Hhy2.out]; rfl);have kc3 := Rw.cell hSw.2 (k := k) (i := 3) (o := k * 4 + 3) (v := .slice y.B y.m y.d) hlt (by decide) rfl (by rw [← Hhy2.out]; rfl);clear hSw
   first | (go_simp; done) | (go_simp; with_reducible rfl))
  try simp only [PL]
  refine r1 8 (fun K hK => ?_);go_simp;refine hE.br (sameFrac_v (ca := x.c) (da := x.d) (cb := y.c) (db := y.d) (hE.here.1.2) (hE.here.2) hlk) ?_;clear hE;intro w1 hE;go_wp2_with fail
  refine hK.out _ _ (⟨hE.h5, hE.h4⟩) (fun hHeld => ?_);clear hK K;try simp only [PL]
  refine tk 9 ?_;refine wpAnyH_done (by kernel_rfl) ?_ _;go_wp2_with fail
  go_roundw
  case rel => exact ⟨k + 1, by omega, by go_num, (((((Env.again hE.bel).rwr (hE.h5)).rwr (hE.h4)).fqs (hE.h3)).fqs (hE.h2))⟩
  case measure => simp [intOf]; omega
end
end Go.Proofs.YtjgihmmeimfheaaGreat
