/-
  Several texts in one: The reference's Parts, over its level. Survivor's functions and the reference's, side by side. The walk of the law's tells. SurvivorSmall returns true (the walk).
-/
import Derived.Test.YtjgihmmeimfheaaGreatK3
import Derived.Test.YtjgihmmeimfheaaGreatK8
import Derived.Test.YtjgihmmeimfheaaGreatK24
import Derived.Test.YtjgihmmeimfheaaGreatK14
import Derived.Test.YtjgihmmeimfheaaGreatK25
import Derived.Test.YtjgihmmeimfheaaGreatK23
import Derived.Test.YtjgihmmeimfheaaGreatK13
set_option linter.unusedSimpArgs false
set_option maxRecDepth 100000
set_option maxHeartbeats 8000000
namespace Go.Proofs.YtjgihmmeimfheaaGreat
section
open Go.RowKit

def RwU (T : TypeId) (m B : Nat) (A : Option Addr) (n : Nat) (e : Nat → List Value) (W : World) : Prop := 0 < n → ∃ g cap, A = some ⟨g, 0, none⟩ ∧ g < B ∧ Rw T m g n cap e W
theorem RwU.stable (T : TypeId) (m B : Nat) (A : Option Addr) (n : Nat) (e : Nat → List Value) : Stable (RwU T m B A n e) := fun _ _ hb h h0 => by
 obtain ⟨g, cap, e1, hg, hR⟩ := h h0;exact ⟨g, cap, e1, hg, Rw.stable _ _ _ _ _ _ _ _ hb hR⟩
theorem Env.rwu {w W : World} {P : World → Prop} {T : TypeId} {m B n : Nat} {A : Option Addr} {e : Nat → List Value} (hE : Env w P W) (h : RwU T m B A n e W) : Env w (fun V => P V ∧ RwU T m B A n e V) W := hE.and (RwU.stable _ _ _ _ _ _) h
theorem RwV.toU {T : TypeId} {m b0 n : Nat} {v : Value} {e : Nat → List Value} {W : World} (h : RwV T m b0 v n e W) : ∃ A c, v = .slice A n c ∧ RwU T m W.heap.size A n e W := by
 rcases h with ⟨rfl, rfl⟩ | ⟨g, cap, rfl, hg, hR⟩
 · exact ⟨none, 0, rfl, fun h0 => absurd h0 (Nat.lt_irrefl 0)⟩
 · exact ⟨_, _, rfl, fun _ => ⟨g, cap, rfl, hR.lt, hR⟩⟩
section
variable {w w' : World} {t T : TypeId} {m m2 b0 B n n2 : Nat} {A : Option Addr} {u v : Value} {e e2 : Nat → List Value}
theorem RwU.grownR (h : RwU t m2 B A n2 e2 w) (hv : RwV T m b0 v n e w) (hg : w.grownBy w' v.ownBlock) (hB : B ≤ b0) : RwU t m2 B A n2 e2 w' := fun h0 => by
 obtain ⟨g, cap, e1, hgB, hR⟩ := h h0;exact ⟨g, cap, e1, hgB, hR.grownR hv hg (.inl (by omega))⟩
theorem RwU.grownB {k : Nat} (h : RwU t m2 B A n2 e2 w) (hg : w.grownBy w' (some k)) (hk : B ≤ k) : RwU t m2 B A n2 e2 w' := fun h0 => by
 obtain ⟨g, cap, e1, hgB, hR⟩ := h h0;exact ⟨g, cap, e1, hgB, hR.grownB hg (by omega)⟩
theorem RwV.grownV (h : RwV t m2 B u n2 e2 w) (hv : RwV T m b0 v n e w) (hg : w.grownBy w' v.ownBlock) (ht : t ≠ T) : RwV t m2 B u n2 e2 w' := by
 rcases h with h | ⟨g, cap, e1, hb, hR⟩
 · exact .inl h
 · exact .inr ⟨g, cap, e1, hb, hR.grownR hv hg (.inr ht)⟩
end
theorem st2_grown {w : World} {t : TypeId} {g : Nat} {cs : Array Value} (hB : Blk t g cs w) (a b : Value) : w.grownBy ((w.setCell ⟨g, 0, none⟩ a).setCell ⟨g, 1, none⟩ b) (some g) := (sets_grown [a, b] 0 w ⟨cs, hB, rfl⟩).1
theorem Env.szb {w W : World} {P : World → Prop} {B : Nat} (hE : Env w P W) (h : B ≤ W.heap.size) : Env w (fun V => P V ∧ B ≤ V.heap.size) W := hE.and (fun _ _ hb h => Nat.le_trans h hb.size) h
theorem FqS.set {h : Nat → FH} {n b : Nat} {q q2 : Nat → Rat} {V : World} (hq : FqS h n q V) {x : FH} (hx : FV V (q2 b) x.s x.A x.n x.t x.B x.m) (he : ∀ j, j ≠ b → q2 j = q j) : FqS (updF h b x) n q2 V := fun j hj => by
 unfold updF
 by_cases e : j = b
 ·
  subst e;rw [if_pos rfl];exact hx
 ·
  rw [if_neg e, he j e];exact hq j hj
def RPaP (a : Int) (r : Nat → Cl) (n : Nat) (w : World) (e : Ending) (w' : World) : Prop := ∃ v t g, e = .returned (.tuple #[v, .int .i64 0]) ∧ Lv (prs (wq r) (Kz r) (List.range n)) ((totZ a (wq r) (Kz r) n : Int) : Rat) t ∧ Pk (lq t (wq r) (Kz r)) n g ∧ (cntB g n : Int) = leftZ t (wq r) (Kz r) (totZ a (wq r) (Kz r) n) n ∧ RwV 3 1 w.heap.size v n (fun j => [.int .i64 (floorQ (xq t (wq r) (Kz r) j) + if g j = true then 1 else 0)]) w' ∧ Below w.heap.size w w'
theorem cmpQ_gtR {a b : Rat} : 0 < cmpQ a b ↔ b < a := by
 by_cases h : b < a
 · rw [cmpQ_gt h]; exact ⟨fun _ => h, fun _ => by decide⟩
 ·
  by_cases h2 : a = b
  · rw [cmpQ_eq h2]; exact ⟨fun h3 => absurd h3 (by decide), fun h3 => absurd h3 h⟩
  · rw [cmpQ_lt2 (by grind)]; exact ⟨fun h3 => absurd h3 (by decide), fun h3 => absurd h3 h⟩
theorem rsParts_v {A : Option Addr} {n c : Nat} {r : Nat → Cl} {w : World} (a : Int) (hM : ClM A n r w) (hal : Al a n r) (hn : n ≤ 32) (hlev : RLev a A n c r w) :
  Calls Tryz.prog 61 #[.int .i64 a, .slice A n c] w (RPaP a r n w) := by
 have hok := hal.2;have hw4 := hok.w hM;have hK := hok.K;have htz := totZ_b (a := a) (w := wq r) (K := Kz r) (n := n) hal.1.1 (fun k hk => (hK k hk).1)
 have hwK : ∀ k, k < n → 0 ≤ wq r k ∧ 0 ≤ Kz r k := fun k hk => ⟨(hw4 k hk).1, (hK k hk).1⟩
 have ha2 := hal.1.2;have HhM := Lib.hid hM;clear hM;have Hhal := Lib.hid hal;clear hal;have Hhlev := Lib.hid hlev;clear hlev;have Hhok := Lib.hid hok;clear hok;have Hhw4 := Lib.hid hw4;clear hw4;have HhK := Lib.hid hK;clear hK;have HhwK := Lib.hid hwK;clear hwK;have hE := Env.start w
 go_enter Tryz.func61, Tryz.ntmps61
 go_wp2_with fail
 refine (rsExact_v (c := c) a (HhM.out.below hE.bel) Hhal.out hn (fun W hW => Hhlev.out W (hE.bel.trans (hW.mono hE.bel.size)))).mono ?_
 rintro e w1 ⟨t, v0, hx, rfl, hlv, hft, hrv, hfq, hb⟩
 replace hE := (hE.step hb).fqs hfq;clear hb hfq;obtain ⟨A1, c1, rfl, hU⟩ := hrv.toU;clear hrv;replace hE := hE.rwu hU;clear hU
 obtain ⟨B, hB⟩ : ∃ B, B = w1.heap.size := ⟨_, rfl⟩
 have hwB : w.heap.size ≤ B := by rw [hB]; exact hE.bel.size
 have hBw := hE.bel.size;rw [← hB] at hE
 have hxl : ∀ j, j < n → fl (xq t (wq r) (Kz r) j) ≤ 52 := fun j hj => by
  have h1 := HhK.out j hj;unfold xq part mn
  split
  · exact fl_times hft (Hhw4.out j hj).2
  · exact fl_le2 (fl_int3 (by omega) (by omega)) (by decide)
 have hfb : ∀ j, j < n → 0 ≤ floorQ (xq t (wq r) (Kz r) j) ∧ floorQ (xq t (wq r) (Kz r) j) ≤ 1099511627776 := fun j hj => by have h1 := floor_b (t := t) hlv.1 (HhwK.out j hj).1 (HhwK.out j hj).2; have h2 := HhK.out j hj; omega
 have hll : ∀ j, j < n → fl (lq t (wq r) (Kz r) j) ≤ 56 := fun j hj => by have h1 := hfb j hj; exact fl_minus (hxl j hj) (fl_int3 (by omega) (by omega))
 have hsb : ∀ k, k ≤ n → 0 ≤ suZ (fun j => floorQ (xq t (wq r) (Kz r) j)) k ∧ suZ (fun j => floorQ (xq t (wq r) (Kz r) j)) k ≤ 35184372088832 := fun k hk => by have h1 := suZ_b (g := fun j => floorQ (xq t (wq r) (Kz r) j)) (M := 1099511627776) (k := k) (fun j hj => hfb j (by omega)); omega
 have Hhlv := Lib.hid hlv;clear hlv;have Hhxl := Lib.hid hxl;clear hxl;have Hhfb := Lib.hid hfb;clear hfb;have Hhll := Lib.hid hll;clear hll;have Hhsb := Lib.hid hsb;clear hsb;have Hhft := Lib.hid hft;clear hft;have HhB := Lib.hid hB;clear hB;go_wp2_with fail
 refine (rstotal_v (c := c) a (HhM.out.below hE.bel) Hhok.out hn).mono ?_
 rintro e w2 ⟨rfl, hb⟩
 have hBw2 : B ≤ w2.heap.size := Nat.le_trans (by rw [HhB.out]; exact Nat.le_refl _) hb.size;replace hE := hE.step hb;clear hb
 obtain ⟨T, hT⟩ : ∃ T, T = totZ a (wq r) (Kz r) n := ⟨_, rfl⟩
 rw [← hT] at htz ⊢;have hlvT := Hhlv.out;rw [← hT] at hlvT
 have hTb : 0 ≤ T ∧ T ≤ 1099511627776 := by omega
 have HhT := Lib.hid hT;clear hT;have HhlvT := Lib.hid hlvT;clear hlvT;clear htz;go_wp2_with fail
 go_loopw [8, 9, 10, 11] (fun so sr sl x wr => ∃ (k : Nat) (vo vr : Value) (h2 : Nat → FH), k ≤ n ∧ vo = so ∧ vr = sr ∧ sl = .int .i64 (T - suZ (fun j => floorQ (xq t (wq r) (Kz r) j)) k) ∧ x = .int .i64 (k : Int) ∧ B ≤ wr.heap.size ∧ Env w (fun V => (((((True ∧ FqS hx n (xq t (wq r) (Kz r)) V) ∧ RwU 29 4 B A1 n (fun j => zqL (hx j)) V) ∧ RwV 3 1 B vo k (fun j => [.int .i64 (floorQ (xq t (wq r) (Kz r) j))]) V) ∧ RwV 29 4 B vr k (fun j => zqL (h2 j)) V) ∧ FqS h2 k (lq t (wq r) (Kz r)) V)) wr) (fun _ _ _ x _ => n - (intOf x).toNat)
 case atStart => exact ⟨0, .slice none 0 0, .slice none 0 0, fun _ => zFH, Nat.zero_le _, rfl, rfl, by show _ = Value.int .i64 (T - 0); rw [Int.sub_zero], rfl, hBw2, ((hE.rwv (.inl ⟨rfl, rfl⟩)).rwv (.inl ⟨rfl, rfl⟩)).fqs (fun j hj => absurd hj (Nat.not_lt_zero j))⟩
 case round =>
  clear hE hBw2;obtain ⟨k, vo, vr, h2, hk, rfl, rfl, rfl, rfl, hBr, hE⟩ := hrel
  by_cases hlt : k < n
  rotate_left
  ·
   obtain rfl : k = n := by omega
   have t1 : decide ((k : Int) < (k : Int)) = false := decide_eq_false (by omega);go_wp2_with fail
   clear t1
   obtain ⟨L, hL⟩ : ∃ L, L = leftZ t (wq r) (Kz r) T k := ⟨_, rfl⟩
   have hLn : 0 ≤ L ∧ L ≤ (k : Int) := by rw [hL]; exact ⟨left_nn HhlvT.out, left_le HhlvT.out⟩
   have hL0 : T - suZ (fun j => floorQ (xq t (wq r) (Kz r) j)) k = L := hL.symm;have HhL := Lib.hid hL;clear hL
   go_loopw [10] (fun sl wr => ∃ (g : Nat → Bool) (h3 : Nat → FH), sl = .int .i64 (L - (cntB g k : Int)) ∧ (cntB g k : Int) ≤ L ∧ Pk (lq t (wq r) (Kz r)) k g ∧ B ≤ wr.heap.size ∧ Env w (fun V => (((True ∧ RwV 3 1 B vo k (fun j => [.int .i64 (floorQ (xq t (wq r) (Kz r) j) + if g j = true then 1 else 0)]) V) ∧ RwV 29 4 B vr k (fun j => zqL (h3 j)) V) ∧ FqS h3 k (rsq (lq t (wq r) (Kz r)) g) V)) wr) (fun sl _ => (intOf sl).toNat)
   case atStart => exact ⟨fun _ => false, h2, by rw [hL0, cntB_none (fun _ _ => rfl)]; show _ = Value.int .i64 (L - 0); rw [Int.sub_zero], by rw [cntB_none (fun _ _ => rfl)]; exact hLn.1, pk_none, hBr, (((Env.again hE.bel).rwv ((hE.h2).congr (fun j _ => by show _ = [Value.int .i64 (floorQ (xq t (wq r) (Kz r) j) + 0)]; rw [Int.add_zero]))).rwv (hE.here.1.2)).fqs (fun j hj => by show FV _ (if false = true then _ else _) _ _ _ _ _ _; rw [if_neg Bool.false_ne_true]; exact (hE.here.2) j hj)⟩
   case round =>
    clear hE hBr hL0;obtain ⟨g, h3, rfl, hgL, hpk, hBr, hE⟩ := hrel;have Hhpk := Lib.hid hpk;clear hpk
    obtain ⟨C, hC⟩ : ∃ C, C = cntB g k := ⟨_, rfl⟩
    rw [← hC] at hgL ⊢
    by_cases hpos : 0 < L - (C : Int)
    rotate_left
    ·
     have t1 : decide (0 < L - (C : Int)) = false := decide_eq_false hpos
     have hCL : (C : Int) = L := by omega
     have HhC := Lib.hid hC;clear hC;have HhCL := Lib.hid hCL;clear hCL;go_wp2_with fail
     refine bodyPost_ret (v := .tuple #[vo, .int .i64 0]) (by simp [results, Tryz.results61, go_sem]) rfl ?_
     have hro : RwV 3 1 w.heap.size vo k (fun j => [.int .i64 (floorQ (xq t (wq r) (Kz r) j) + if g j = true then 1 else 0)]) wr := by
      rcases hE.h2 with hv | ⟨g9, cap, e1, hg, hR⟩
      · exact .inl hv
      · exact .inr ⟨g9, cap, e1, by omega, hR⟩
     exact ⟨vo, t, g, rfl, Hhlv.out, Hhpk.out, by rw [← HhC.out, HhCL.out, HhL.out, HhT.out], hro, hE.bel⟩
    have t1 : decide (0 < L - (C : Int)) = true := decide_eq_true hpos
    have hk0 : 0 < k := by omega
    have hCk : cntB g k < k := by rw [← hC]; omega
    have hRo := hE.h2;have hRr := hE.here.1.2;have hQ := hE.here.2
    rcases hRo with ⟨_, h0⟩ | ⟨gO, capO, rfl, hgO, hRo⟩
    · omega
    rcases hRr with ⟨_, h0⟩ | ⟨gR, capR, rfl, hgR, hRr⟩
    · omega
    replace hE := (((Env.again hE.bel).rwr hRo).rwr hRr).fqs hQ;clear hRo hRr hQ;have HhC := Lib.hid hC;clear hC;have HhCk := Lib.hid hCk;clear hCk;go_wp2_with fail
    rw [show decide ((C : Int) < L) = true from decide_eq_true (by omega)]
    go_loopw [16, 17] (fun sb x wr => ∃ (i b : Nat), 1 ≤ i ∧ i ≤ k ∧ Best (rsq (lq t (wq r) (Kz r)) g) i b ∧ sb = .int .i64 (b : Int) ∧ x = .int .i64 (i : Int) ∧ Env w (fun V => (((True ∧ Rw 3 1 gO k capO (fun j => [.int .i64 (floorQ (xq t (wq r) (Kz r) j) + if g j = true then 1 else 0)]) V) ∧ Rw 29 4 gR k capR (fun j => zqL (h3 j)) V) ∧ FqS h3 k (rsq (lq t (wq r) (Kz r)) g) V)) wr) (fun _ x _ => k - (intOf x).toNat)
    case atStart => exact ⟨1, 0, Nat.le_refl 1, hk0, Best.one, rfl, rfl, hE⟩
    case round =>
     clear hE hBr;obtain ⟨i, b, hi1, hik, hbst, rfl, rfl, hE⟩ := hrel;have hbi := hbst.1;have Hhbst := Lib.hid hbst;clear hbst
     have hnl : ∀ j, j < k → fl ((rsq (lq t (wq r) (Kz r)) g) j) ≤ 56 := fun j hj => by unfold rsq; split; exact fl_le2 (fl_int3 (by decide) (by decide)) (by decide); exact Hhll.out j hj
     by_cases hil : i < k
     rotate_left
     ·
      obtain rfl : i = k := by omega
      have t1 : decide ((i : Int) < (i : Int)) = false := decide_eq_false (by omega)
      have t2 : (b : Int) < (i : Int) := by omega
      obtain ⟨hgb, hpk2⟩ := pk_next (fun j _ => (lq_b t (wq r) (Kz r) j).1) Hhpk.out HhCk.out Hhbst.out
      obtain ⟨z, hz⟩ : ∃ z, z = floorQ (xq t (wq r) (Kz r) b) := ⟨_, rfl⟩
      have hzb := Hhfb.out b hbi;rw [← hz] at hzb;have kc := Rw.cell (hE.h2) (k := b) (i := 0) (o := b) (v := .int .i64 z) hbi (by decide) (by omega) (by rw [hz]; show some (Value.int .i64 (floorQ (xq t (wq r) (Kz r) b) + if g b = true then 1 else 0)) = _; rw [hgb, if_neg Bool.false_ne_true, Int.add_zero]);have kf := Rw.frozen (hE.h2) b
      have o1 : IntKind.i64.wrap (z + 1) = z + 1 := by rw [IntKind.wrap_i64]; omega
      have hcp := cntB_put hgb (n := i);rw [if_pos hbi] at hcp;have Hhgb := Lib.hid hgb;clear hgb;have Hhpk2 := Lib.hid hpk2;clear hpk2;have Hhz := Lib.hid hz;clear hz;have Hhcp := Lib.hid hcp;clear hcp
      go_upto_region 23 with (fail)
      clear kc kf t1;obtain ⟨hR2, hgr⟩ := Rw.put (hE.h2) hbi (x := [.int .i64 (z + 1)]) rfl (fun u hu => by simp only [List.mem_cons, List.not_mem_nil, or_false] at hu; subst hu; rfl)
      have es : wr.setCells gO (b * 1) [.int .i64 (z + 1)] = wr.setCell ⟨gO, b, none⟩ (.int .i64 (z + 1)) := by rw [Nat.mul_one]; rfl
      rw [es] at hR2 hgr
      replace hR2 := Rw.congr (e' := fun j => [.int .i64 (floorQ (xq t (wq r) (Kz r) j) + if (fun j => if j = b then true else g j) j = true then 1 else 0)]) hR2 (fun j _ => by
       show updE _ b [Value.int .i64 (z + 1)] j = [Value.int .i64 (floorQ (xq t (wq r) (Kz r) j) + if (if j = b then true else g j) = true then 1 else 0)];unfold updE
       by_cases ej : j = b
       · subst ej; rw [if_pos rfl, if_pos rfl, if_pos rfl, Hhz.out]
       · rw [if_neg ej, if_neg ej])
      replace hE := ((((Env.again (Go.Proofs.YtjgihmmeimfheaaGreat.Below.grownB hE.bel hgr hE.bel.size (by omega))).rwr hR2).rwr ((hE.here.1.2).grownB hgr ((hE.here.1.2).ne2 (hE.h2) (by decide)))).fqs ((hE.here.2).row (hE.h2) hgr));clear hR2 hgr es;generalize wr.setCell ⟨gO, b, none⟩ (.int .i64 (z + 1)) = VR at hE ⊢;go_wp2_with fail
      refine hE.fr (rffromInt_v (-1) _ (by decide) (by decide)) ?_;clear hE;intro s4 A4 n4 c4 t4 B4 m4 d4 w1 hE;have hst := fr_store (hE.h2) hbi (zqL (⟨s4, A4, n4, c4, fun _ => 0, t4, B4, m4, d4, fun _ => 0⟩ : FH)) rfl (fun v hv => (zqL_ok _ v hv).2) (o := b * 4) rfl;obtain ⟨hR2, hgr⟩ := Rw.put (hE.h2) hbi (x := zqL (⟨s4, A4, n4, c4, fun _ => 0, t4, B4, m4, d4, fun _ => 0⟩ : FH)) rfl (fun v hv => (zqL_ok _ v hv).1);replace hR2 := Rw.congr (e' := fun j => zqL (updF h3 b (⟨s4, A4, n4, c4, fun _ => 0, t4, B4, m4, d4, fun _ => 0⟩ : FH) j)) hR2 (fun j _ => updF_row h3 b _ j);have hq2 := FqS.set (b := b) (q2 := rsq (lq t (wq r) (Kz r)) (fun j => if j = b then true else g j)) (x := (⟨s4, A4, n4, c4, fun _ => 0, t4, B4, m4, d4, fun _ => 0⟩ : FH)) (FqS.row (hE.here.1.2) (hE.h2) hgr) (by rw [rsq_put, if_pos rfl]; exact Rw.fv (hE.h2) (hE.here.2) hgr) (fun j hj => by rw [rsq_put, if_neg hj]);have hE3 := (((Env.again (Go.Proofs.YtjgihmmeimfheaaGreat.Below.grownB hE.bel hgr hE.bel.size (by omega))).rwr ((hE.h3).grownB hgr ((hE.h3).ne2 (hE.h2) (by decide)))).rwr hR2).fqs hq2
      have hBs : B ≤ (w1.setCells gR (b * 4) (zqL (⟨s4, A4, n4, c4, fun _ => 0, t4, B4, m4, d4, fun _ => 0⟩ : FH))).heap.size := by have h1 := hR2.lt; omega
      have HF := Lib.hid (And.intro hE3 hBs);clear hR2 hgr hq2 hE3 hBs
      have o2 : IntKind.i64.wrap (L - (C : Int) - 1) = L - (C : Int) - 1 := by rw [IntKind.wrap_i64]; omega
      go_wp2_with (first | refine wpList_stP hst rfl rfl rfl rfl ?_)
      obtain ⟨hE3, hBs⟩ := HF.out
      go_roundw
      case rel => refine ⟨(fun j => if j = b then true else g j), updF h3 b (⟨s4, A4, n4, c4, fun _ => 0, t4, B4, m4, d4, fun _ => 0⟩ : FH), by rw [Hhcp.out, ← HhC.out]; congr 1; omega, by rw [Hhcp.out, ← HhC.out]; omega, Hhpk2.out, hBs, (((Env.again hE3.bel).rwv (.inr ⟨gO, capO, rfl, hgO, hE3.here.1.1.2⟩)).rwv (.inr ⟨gR, capR, rfl, hgR, hE3.here.1.2⟩)).fqs (hE3.here.2)⟩
      case measure => simp [intOf]; omega
     have t1 : decide ((i : Int) < (k : Int)) = true := decide_eq_true (by omega)
     have t2 : (i : Int) < (k : Int) := by omega
     have t3 : (b : Int) < (k : Int) := by omega
     have hbk : b < k := by omega
     obtain ⟨x, hx2⟩ : ∃ x, x = h3 i := ⟨_, rfl⟩
     obtain ⟨y, hy2⟩ : ∃ y, y = h3 b := ⟨_, rfl⟩
     obtain ⟨X, hX⟩ : ∃ X, X = (rsq (lq t (wq r) (Kz r)) g) i := ⟨_, rfl⟩
     obtain ⟨Y, hY⟩ : ∃ Y, Y = (rsq (lq t (wq r) (Kz r)) g) b := ⟨_, rfl⟩
     have hxv := (hE.here.2) i hil;rw [← hx2, ← hX] at hxv;have hyv := (hE.here.2) b hbk;rw [← hy2, ← hY] at hyv;have hlx := hnl i hil;rw [← hX] at hlx;have hly := hnl b hbk;rw [← hY] at hly;clear hnl
     obtain ⟨v, hv⟩ : ∃ v, decide (0 < cmpQ X Y) = v := ⟨_, rfl⟩
     have hcm : v = true ↔ Y < X := by rw [← hv, decide_eq_true_iff]; exact cmpQ_gtR
     have Hhx2 := Lib.hid hx2;clear hx2;have Hhy2 := Lib.hid hy2;clear hy2;have HhX := Lib.hid hX;clear hX;have HhY := Lib.hid hY;clear hY;have Hhcm := Lib.hid hcm;clear hcm;replace hE := (hE.fv hxv).fv hyv;clear hxv hyv
     go_upto_region 20 with (fail)
     clear t1;replace hE := hE.drew;refine wp_region_held_drew (S := fun V => Rw 29 4 gR k capR (fun j => zqL (h3 j)) V) (by kernel_rfl) (hE.h3) (fun hHeld => ?_)
     generalize wr.drew = wd at *
     refine tk 0 ?_;refine tk 1 ?_;refine tk 2 ?_
     refine tk 3 ?_ (hy := by
      intro w hSw;have kc0 := Rw.cell hSw (k := i) (i := 0) (o := i * 4) (v := .bool x.s) hil (by decide) rfl (by rw [Hhx2.out]; rfl);have kc1 := Rw.cell hSw (k := i) (i := 1) (o := i * 4 + 1) (v := .slice x.A x.n x.c) hil (by decide) rfl (by rw [Hhx2.out]; rfl);have kc2 := Rw.cell hSw (k := i) (i := 2) (o := i * 4 + 2) (v := .bool x.t) hil (by decide) rfl (by rw [Hhx2.out]; rfl);have kc3 := Rw.cell hSw (k := i) (i := 3) (o := i * 4 + 3) (v := .slice x.B x.m x.d) hil (by decide) rfl (by rw [Hhx2.out]; rfl);clear hSw
      first | (go_simp; done) | (go_simp; with_reducible rfl))
     try simp only [PL]
     refine tk 4 ?_;refine tk 5 ?_;refine tk 6 ?_
     refine tk 7 ?_ (hy := by
      intro w hSw;have kc0 := Rw.cell hSw (k := b) (i := 0) (o := b * 4) (v := .bool y.s) hbk (by decide) rfl (by rw [Hhy2.out]; rfl);have kc1 := Rw.cell hSw (k := b) (i := 1) (o := b * 4 + 1) (v := .slice y.A y.n y.c) hbk (by decide) rfl (by rw [Hhy2.out]; rfl);have kc2 := Rw.cell hSw (k := b) (i := 2) (o := b * 4 + 2) (v := .bool y.t) hbk (by decide) rfl (by rw [Hhy2.out]; rfl);have kc3 := Rw.cell hSw (k := b) (i := 3) (o := b * 4 + 3) (v := .slice y.B y.m y.d) hbk (by decide) rfl (by rw [Hhy2.out]; rfl);clear hSw
      first | (go_simp; done) | (go_simp; with_reducible rfl))
     try simp only [PL]
     refine r1 8 (fun K hK => ?_);go_simp;refine hE.br (rorder_v (ca := x.c) (da := x.d) (cb := y.c) (db := y.d) (hE.here.1.2) (hE.here.2) (by omega) (by omega)) ?_;clear hE;intro w2 hE;go_wp2_with fail
     refine hK.out _ _ (hE.h3) (fun hHeld => ?_);clear hK K;try simp only [PL]
     refine tk 9 ?_;refine wpAnyH_done (by kernel_rfl) ?_ _
     cases v with
     | false =>
      have hb2 := Best.keep Hhbst.out (by rw [← HhX.out, ← HhY.out]; exact fun h => by have := Hhcm.out.2 h; cases this);have Hhb2 := Lib.hid hb2;clear hb2;go_wp2_with fail
      go_roundw
      case rel => exact ⟨i + 1, b, by omega, by omega, Hhb2.out, rfl, by go_num, ((((Env.again hE.bel).rwr (hE.h4)).rwr (hE.h3)).fqs (hE.h2))⟩
      case measure => simp [intOf]; omega
     | true =>
      have hb2 := Best.take Hhbst.out (by rw [← HhX.out, ← HhY.out]; exact Hhcm.out.1 rfl);have Hhb2 := Lib.hid hb2;clear hb2;go_wp2_with fail
      go_roundw
      case rel => exact ⟨i + 1, i, by omega, by omega, Hhb2.out, rfl, by go_num, ((((Env.again hE.bel).rwr (hE.h4)).rwr (hE.h3)).fqs (hE.h2))⟩
      case measure => simp [intOf]; omega
  replace hE := hE.szb hBr;have t1 : decide ((k : Int) < (n : Int)) = true := decide_eq_true (by omega)
  have t2 : (k : Int) < (n : Int) := by omega
  obtain ⟨gE, capE, rfl, hgE, hRE⟩ := (hE.h4) (by omega);clear hRE
  obtain ⟨y, hy⟩ : ∃ y, y = hx k := ⟨_, rfl⟩
  obtain ⟨X, hX⟩ : ∃ X, X = xq t (wq r) (Kz r) k := ⟨_, rfl⟩
  obtain ⟨z, hz⟩ : ∃ z, z = floorQ X := ⟨_, rfl⟩
  have hyv := (hE.h5) k hlt;rw [← hy, ← hX] at hyv;have hxk := Hhxl.out k hlt;rw [← hX] at hxk;have hzb := Hhfb.out k hlt;rw [← hX, ← hz] at hzb
  have hX0 : 0 ≤ X := by rw [hX]; exact (xq_b (t := t) Hhlv.out.1 (HhwK.out k hlt).1 (HhwK.out k hlt).2).1
  have hys : y.s = false := by rw [hyv.1.sgn]; exact decide_eq_false (by have := Rat.num_nonneg.2 hX0; omega)
  have hyt : y.t = false := by rw [hyv.2.sgn]; exact decide_eq_false (by omega)
  have hlX : X - ((z : Int) : Rat) = lq t (wq r) (Kz r) k := by rw [hz, hX]; rfl
  have hsz : suZ (fun j => floorQ (xq t (wq r) (Kz r) j)) (k + 1) = suZ (fun j => floorQ (xq t (wq r) (Kz r) j)) k + z := by rw [hz, hX]; rfl
  have hsk := Hhsb.out k hk
  obtain ⟨l, hl⟩ : ∃ l, l = T - suZ (fun j => floorQ (xq t (wq r) (Kz r) j)) k := ⟨_, rfl⟩
  rw [← hl]
  have hlb : -35184372088832 ≤ l ∧ l ≤ 1099511627776 := by omega
  have o1 : IntKind.i64.wrap (l - z) = l - z := by rw [IntKind.wrap_i64]; omega
  clear hsk;have hdp := X.den_pos
  have hdz : (X.den : Int) ≠ 0 := by omega
  clear hdp;have hfz : fl ((z : Int) : Rat) ≤ 3 := fl_int3 (by omega) (by omega);have Hhy := Lib.hid hy;clear hy;have HhX := Lib.hid hX;clear hX;have Hhz := Lib.hid hz;clear hz;have HhX0 := Lib.hid hX0;clear hX0;have Hhys := Lib.hid hys;clear hys;have Hhyt := Lib.hid hyt;clear hyt;have HhlX := Lib.hid hlX;clear hlX;have Hhsz := Lib.hid hsz;clear hsz;have Hhl := Lib.hid hl;clear hl;replace hE := hE.fv hyv;clear hyv
  go_upto_region 10 with (fail)
  clear t1
  go_cut [12, 13] from 37 to 50 (fun p0 p1 wx => ∃ G12 sq Aq nq cq, p0 = .pointer (some ⟨G12, 0, none⟩) ∧ B ≤ G12 ∧ B ≤ wx.heap.size ∧ Env w (fun V => (((((((((True ∧ FqS hx n (xq t (wq r) (Kz r)) V) ∧ RwU 29 4 B (some ⟨gE, 0, none⟩) n (fun j => zqL (hx j)) V) ∧ RwV 3 1 B vo k (fun j => [.int .i64 (floorQ (xq t (wq r) (Kz r) j))]) V) ∧ RwV 29 4 B vr k (fun j => zqL (h2 j)) V) ∧ FqS h2 k (lq t (wq r) (Kz r)) V) ∧ B ≤ (World.heap V).size) ∧ FV V X y.s y.A y.n y.t y.B y.m) ∧ WV V z sq Aq nq) ∧ Blk 27 (G12) #[.bool sq, .slice Aq nq cq] V)) wx)
  case first =>
   replace hE := hE.drew;refine wp_region_held_drew (S := fun V => FqS hx n (xq t (wq r) (Kz r)) V ∧ RwU 29 4 B (some ⟨gE, 0, none⟩) n (fun j => zqL (hx j)) V) (by kernel_rfl) (⟨hE.h6, hE.h5⟩) (fun hHeld => ?_)
   generalize wr.drew = wd at *
   refine tk 0 ?_;refine tk 1 ?_;refine tk 2 ?_;refine tk 3 ?_
   refine tk 4 ?_ (hy := by
    intro w hSw;obtain ⟨gE2, capE2, e2, -, hRE⟩ := hSw.2 (by omega)
    cases e2
    have kc0 := Rw.cell hRE (k := k) (i := 0) (o := k * 4) (v := .bool false) hlt (by decide) rfl (by rw [← Hhy.out]; show some (Value.bool _) = _; rw [Hhys.out]);have kc1 := Rw.cell hRE (k := k) (i := 1) (o := k * 4 + 1) (v := .slice y.A y.n y.c) hlt (by decide) rfl (by rw [← Hhy.out]; rfl);clear hRE;clear hSw
    first | (go_simp; done) | (go_simp; with_reducible rfl))
   try simp only [PL]
   refine tk 5 ?_;refine tk 6 ?_;refine tk 7 ?_;refine tk 8 ?_
   refine tk 9 ?_ (hy := by
    intro w hSw;obtain ⟨gE2, capE2, e2, -, hRE⟩ := hSw.2 (by omega)
    cases e2
    have kc2 := Rw.cell hRE (k := k) (i := 2) (o := k * 4 + 2) (v := .bool false) hlt (by decide) rfl (by rw [← Hhy.out]; show some (Value.bool _) = _; rw [Hhyt.out]);have kc3 := Rw.cell hRE (k := k) (i := 3) (o := k * 4 + 3) (v := .slice y.B y.m y.d) hlt (by decide) rfl (by rw [← Hhy.out]; rfl);clear hRE;clear hSw
    first | (go_simp; done) | (go_simp; with_reducible rfl))
   try simp only [PL]
   refine wpAnyH_ready (rs := [10, 14, 15]) (by kernel_rfl) (by simp) (AllReadyH.cons rfl (fun K hK => ?_) (AllReadyH.cons rfl (fun K hK => ?_) (AllReadyH.cons rfl (fun K hK => ?_) (AllReadyH.nil))))
   ·
    go_simp;have hf := hE.here.2;rw [Hhys.out, Hhyt.out] at hf;have hc := rfloor_nn (ca := y.c) (cb := y.d) hf.1 hf.2 (by have h1 := ((hE.here.2).ln (Nat.le_trans hxk (show 52 ≤ 256 by decide))).1; omega) (by have h1 := ((hE.here.2).ln (Nat.le_trans hxk (show 52 ≤ 256 by decide))).2; omega) hdz;clear hf;rw [show X.num.fdiv (X.den : Int) = z from Hhz.out.symm] at hc;refine hc.mono ?_;clear hc
    rintro e w3 ⟨sq, Aq, nq, cq, sr, Ar, nr, cr, rfl, hq, hr, hb⟩
    replace hE := ((hE.step hb).wv hq).wv hr;clear hb hq hr;go_wp2_with fail
    refine hK.out _ _ (⟨hE.h8, hE.h7⟩) (fun hHeld => ?_);clear hK K;try simp only [PL]
    refine tk 11 ?_;refine tk 12 ?_;refine tk 13 ?_;refine wpAnyH_ready (rs := [14, 15]) (by kernel_rfl) (by simp) (AllReadyH.cons rfl (fun K hK => ?_) (AllReadyH.cons rfl (fun K hK => ?_) (AllReadyH.nil)))
    ·
     go_simp
     obtain ⟨g4, hg4⟩ : ∃ g4, g4 = w3.heap.size := ⟨_, rfl⟩
     have hlw_g4 : w.heap.size ≤ g4 := by rw [hg4]; exact hE.bel.size
     have hBg_g4 : B ≤ g4 := by rw [hg4]; exact hE.h3
     replace hE := hE.blk 27 #[.bool false, .slice none 0 0] (g := g4) hg4.symm;generalize w3.alloc (.cells #[.bool false, .slice none 0 0] 27) = W4 at hE ⊢;rw [← hg4];clear hg4;refine hK.out _ _ (⟨hE.h9, hE.h8⟩) (fun hHeld => ?_);clear hK K;try simp only [PL]
     refine r1 15 (fun K hK => ?_);go_simp
     obtain ⟨g5, hg5⟩ : ∃ g5, g5 = W4.heap.size := ⟨_, rfl⟩
     have hl5_9 : g4 < g5 := by rw [hg5]; exact (hE.here.2).lt
     have hlw_g5 : w.heap.size ≤ g5 := by rw [hg5]; exact hE.bel.size
     have hBg_g5 : B ≤ g5 := by rw [hg5]; exact hE.h4
     replace hE := hE.blk 27 #[.bool false, .slice none 0 0] (g := g5) hg5.symm;generalize W4.alloc (.cells #[.bool false, .slice none 0 0] 27) = W5 at hE ⊢;rw [← hg5];clear hg5;refine hK.out _ _ (⟨hE.h10, hE.h9⟩) (fun hHeld => ?_);clear hK K;try simp only [PL]
     refine r1 16 (fun K hK => ?_)
     have hgl6 : w.heap.size ≤ g4 := by omega
     obtain ⟨x6_0, x6_1⟩ := (hE.here.1.2).c2;obtain ⟨f6_0, f6_1⟩ := hE.here.1.2.f2;replace hE := ((((((((((((Env.again (bel2 hE.bel hgl6 (.bool sq) (.slice Aq nq cq))).fqs (FqS.grownB (hE.h10) (hE.here.1.2) rfl (st2_grown (hE.here.1.2) _ _))).rwu ((hE.h9).grownB (st2_grown (hE.here.1.2) _ _) (by omega))).rwv ((hE.h8).far (hE.here.1.2) (by decide) (st2_grown (hE.here.1.2) _ _))).rwv ((hE.h7).far (hE.here.1.2) (by decide) (st2_grown (hE.here.1.2) _ _))).fqs (FqS.grownB (hE.h6) (hE.here.1.2) rfl (st2_grown (hE.here.1.2) _ _))).szb (Nat.le_trans (hE.h5) (st2_grown (hE.here.1.2) _ _).size)).fv ((hE.h4).sep2 hE.here.1.2 rfl _ _ rfl)).wv ((hE.h3).sep2 hE.here.1.2 rfl _ _ rfl)).wv ((hE.h2).sep2 hE.here.1.2 rfl _ _ rfl)).blkI ((hE.here.1.2).s2 _ _)).blkI ((hE.here.2).far2 (by omega) _ _));go_simp;clear x6_0 x6_1 f6_0 f6_1 hgl6;generalize ((W5.setCell ⟨g4, 0, none⟩ (.bool sq)).setCell ⟨g4, 1, none⟩ (.slice Aq nq cq)) = W6 at hE ⊢;refine hK.out _ _ (⟨hE.h10, hE.h9⟩) (fun hHeld => ?_);clear hK K;try simp only [PL]
     refine r1 17 (fun K hK => ?_)
     have hgl7 : w.heap.size ≤ g5 := by omega
     obtain ⟨x7_0, x7_1⟩ := (hE.here.2).c2;obtain ⟨f7_0, f7_1⟩ := hE.here.2.f2;replace hE := ((((((((((((Env.again (bel2 hE.bel hgl7 (.bool sr) (.slice Ar nr cr))).fqs (FqS.grownB (hE.h10) (hE.here.2) rfl (st2_grown (hE.here.2) _ _))).rwu ((hE.h9).grownB (st2_grown (hE.here.2) _ _) (by omega))).rwv ((hE.h8).far (hE.here.2) (by decide) (st2_grown (hE.here.2) _ _))).rwv ((hE.h7).far (hE.here.2) (by decide) (st2_grown (hE.here.2) _ _))).fqs (FqS.grownB (hE.h6) (hE.here.2) rfl (st2_grown (hE.here.2) _ _))).szb (Nat.le_trans (hE.h5) (st2_grown (hE.here.2) _ _).size)).fv ((hE.h4).sep2 hE.here.2 rfl _ _ rfl)).wv ((hE.h3).sep2 hE.here.2 rfl _ _ rfl)).wv ((hE.h2).sep2 hE.here.2 rfl _ _ rfl)).blkI ((hE.here.1.2).far2 (by omega) _ _)).blkI ((hE.here.2).s2 _ _));go_simp;clear x7_0 x7_1 f7_0 f7_1 hgl7;generalize ((W6.setCell ⟨g5, 0, none⟩ (.bool sr)).setCell ⟨g5, 1, none⟩ (.slice Ar nr cr)) = W7 at hE ⊢;refine hK.out _ _ (⟨hE.h10, hE.h9⟩) (fun hHeld => ?_);clear hK K;try simp only [PL]
     refine wpAnyH_done (by kernel_rfl) ?_ _;go_wp2_with fail
     go_meet
     exact ⟨g4, sq, Aq, nq, cq, rfl, by omega, hE.h5, ((((((((((Env.again hE.bel).fqs (hE.h10)).rwu (hE.h9)).rwv (hE.h8)).rwv (hE.h7)).fqs (hE.h6)).szb (hE.h5)).fv (hE.h4)).wv (hE.h3)).blkI (hE.here.1.2))⟩
    ·
     go_simp
     obtain ⟨g8, hg8⟩ : ∃ g8, g8 = w3.heap.size := ⟨_, rfl⟩
     have hlw_g8 : w.heap.size ≤ g8 := by rw [hg8]; exact hE.bel.size
     have hBg_g8 : B ≤ g8 := by rw [hg8]; exact hE.h3
     replace hE := hE.blk 27 #[.bool false, .slice none 0 0] (g := g8) hg8.symm;generalize w3.alloc (.cells #[.bool false, .slice none 0 0] 27) = W8 at hE ⊢;rw [← hg8];clear hg8;refine hK.out _ _ (⟨hE.h9, hE.h8⟩) (fun hHeld => ?_);clear hK K;try simp only [PL]
     refine r1 14 (fun K hK => ?_);go_simp
     obtain ⟨g9, hg9⟩ : ∃ g9, g9 = W8.heap.size := ⟨_, rfl⟩
     have hl9_9 : g8 < g9 := by rw [hg9]; exact (hE.here.2).lt
     have hlw_g9 : w.heap.size ≤ g9 := by rw [hg9]; exact hE.bel.size
     have hBg_g9 : B ≤ g9 := by rw [hg9]; exact hE.h4
     replace hE := hE.blk 27 #[.bool false, .slice none 0 0] (g := g9) hg9.symm;generalize W8.alloc (.cells #[.bool false, .slice none 0 0] 27) = W9 at hE ⊢;rw [← hg9];clear hg9;refine hK.out _ _ (⟨hE.h10, hE.h9⟩) (fun hHeld => ?_);clear hK K;try simp only [PL]
     refine r1 16 (fun K hK => ?_)
     have hgl10 : w.heap.size ≤ g9 := by omega
     obtain ⟨x10_0, x10_1⟩ := (hE.here.2).c2;obtain ⟨f10_0, f10_1⟩ := hE.here.2.f2;replace hE := ((((((((((((Env.again (bel2 hE.bel hgl10 (.bool sq) (.slice Aq nq cq))).fqs (FqS.grownB (hE.h10) (hE.here.2) rfl (st2_grown (hE.here.2) _ _))).rwu ((hE.h9).grownB (st2_grown (hE.here.2) _ _) (by omega))).rwv ((hE.h8).far (hE.here.2) (by decide) (st2_grown (hE.here.2) _ _))).rwv ((hE.h7).far (hE.here.2) (by decide) (st2_grown (hE.here.2) _ _))).fqs (FqS.grownB (hE.h6) (hE.here.2) rfl (st2_grown (hE.here.2) _ _))).szb (Nat.le_trans (hE.h5) (st2_grown (hE.here.2) _ _).size)).fv ((hE.h4).sep2 hE.here.2 rfl _ _ rfl)).wv ((hE.h3).sep2 hE.here.2 rfl _ _ rfl)).wv ((hE.h2).sep2 hE.here.2 rfl _ _ rfl)).blkI ((hE.here.1.2).far2 (by omega) _ _)).blkI ((hE.here.2).s2 _ _));go_simp;clear x10_0 x10_1 f10_0 f10_1 hgl10;generalize ((W9.setCell ⟨g9, 0, none⟩ (.bool sq)).setCell ⟨g9, 1, none⟩ (.slice Aq nq cq)) = W10 at hE ⊢;refine hK.out _ _ (⟨hE.h10, hE.h9⟩) (fun hHeld => ?_);clear hK K;try simp only [PL]
     refine r1 17 (fun K hK => ?_)
     have hgl11 : w.heap.size ≤ g8 := by omega
     obtain ⟨x11_0, x11_1⟩ := (hE.here.1.2).c2;obtain ⟨f11_0, f11_1⟩ := hE.here.1.2.f2;replace hE := ((((((((((((Env.again (bel2 hE.bel hgl11 (.bool sr) (.slice Ar nr cr))).fqs (FqS.grownB (hE.h10) (hE.here.1.2) rfl (st2_grown (hE.here.1.2) _ _))).rwu ((hE.h9).grownB (st2_grown (hE.here.1.2) _ _) (by omega))).rwv ((hE.h8).far (hE.here.1.2) (by decide) (st2_grown (hE.here.1.2) _ _))).rwv ((hE.h7).far (hE.here.1.2) (by decide) (st2_grown (hE.here.1.2) _ _))).fqs (FqS.grownB (hE.h6) (hE.here.1.2) rfl (st2_grown (hE.here.1.2) _ _))).szb (Nat.le_trans (hE.h5) (st2_grown (hE.here.1.2) _ _).size)).fv ((hE.h4).sep2 hE.here.1.2 rfl _ _ rfl)).wv ((hE.h3).sep2 hE.here.1.2 rfl _ _ rfl)).wv ((hE.h2).sep2 hE.here.1.2 rfl _ _ rfl)).blkI ((hE.here.1.2).s2 _ _)).blkI ((hE.here.2).far2 (by omega) _ _));go_simp;clear x11_0 x11_1 f11_0 f11_1 hgl11;generalize ((W10.setCell ⟨g8, 0, none⟩ (.bool sr)).setCell ⟨g8, 1, none⟩ (.slice Ar nr cr)) = W11 at hE ⊢;refine hK.out _ _ (⟨hE.h10, hE.h9⟩) (fun hHeld => ?_);clear hK K;try simp only [PL]
     refine wpAnyH_done (by kernel_rfl) ?_ _;go_wp2_with fail
     go_meet
     exact ⟨g9, sq, Aq, nq, cq, rfl, by omega, hE.h5, ((((((((((Env.again hE.bel).fqs (hE.h10)).rwu (hE.h9)).rwv (hE.h8)).rwv (hE.h7)).fqs (hE.h6)).szb (hE.h5)).fv (hE.h4)).wv (hE.h3)).blkI (hE.here.2))⟩
   ·
    go_simp
    obtain ⟨g12, hg12⟩ : ∃ g12, g12 = wd.heap.size := ⟨_, rfl⟩
    have hlw_g12 : w.heap.size ≤ g12 := by rw [hg12]; exact hE.bel.size
    have hBg_g12 : B ≤ g12 := by rw [hg12]; exact hE.here.1.2
    replace hE := hE.blk 27 #[.bool false, .slice none 0 0] (g := g12) hg12.symm;generalize wd.alloc (.cells #[.bool false, .slice none 0 0] 27) = W12 at hE ⊢;rw [← hg12];clear hg12;refine hK.out _ _ (⟨hE.h7, hE.h6⟩) (fun hHeld => ?_);clear hK K;try simp only [PL]
    refine wpAnyH_ready (rs := [10, 15]) (by kernel_rfl) (by simp) (AllReadyH.cons rfl (fun K hK => ?_) (AllReadyH.cons rfl (fun K hK => ?_) (AllReadyH.nil)))
    ·
     go_simp;have hf := hE.here.1.2;rw [Hhys.out, Hhyt.out] at hf;have hc := rfloor_nn (ca := y.c) (cb := y.d) hf.1 hf.2 (by have h1 := ((hE.here.1.2).ln (Nat.le_trans hxk (show 52 ≤ 256 by decide))).1; omega) (by have h1 := ((hE.here.1.2).ln (Nat.le_trans hxk (show 52 ≤ 256 by decide))).2; omega) hdz;clear hf;rw [show X.num.fdiv (X.den : Int) = z from Hhz.out.symm] at hc;refine hc.mono ?_;clear hc
     rintro e w13 ⟨sq, Aq, nq, cq, sr, Ar, nr, cr, rfl, hq, hr, hb⟩
     replace hE := ((hE.step hb).wv hq).wv hr;clear hb hq hr;go_wp2_with fail
     refine hK.out _ _ (⟨hE.h9, hE.h8⟩) (fun hHeld => ?_);clear hK K;try simp only [PL]
     refine tk 11 ?_;refine tk 12 ?_;refine tk 13 ?_;refine r1 15 (fun K hK => ?_);go_simp
     obtain ⟨g14, hg14⟩ : ∃ g14, g14 = w13.heap.size := ⟨_, rfl⟩
     have hl14_7 : g12 < g14 := by rw [hg14]; exact (hE.h2).lt
     have hlw_g14 : w.heap.size ≤ g14 := by rw [hg14]; exact hE.bel.size
     have hBg_g14 : B ≤ g14 := by rw [hg14]; exact hE.h4
     replace hE := hE.blk 27 #[.bool false, .slice none 0 0] (g := g14) hg14.symm;generalize w13.alloc (.cells #[.bool false, .slice none 0 0] 27) = W14 at hE ⊢;rw [← hg14];clear hg14;refine hK.out _ _ (⟨hE.h10, hE.h9⟩) (fun hHeld => ?_);clear hK K;try simp only [PL]
     refine r1 16 (fun K hK => ?_)
     have hgl15 : w.heap.size ≤ g12 := by omega
     obtain ⟨x15_0, x15_1⟩ := (hE.h3).c2;obtain ⟨f15_0, f15_1⟩ := hE.h3.f2;replace hE := ((((((((((((Env.again (bel2 hE.bel hgl15 (.bool sq) (.slice Aq nq cq))).fqs (FqS.grownB (hE.h10) (hE.h3) rfl (st2_grown (hE.h3) _ _))).rwu ((hE.h9).grownB (st2_grown (hE.h3) _ _) (by omega))).rwv ((hE.h8).far (hE.h3) (by decide) (st2_grown (hE.h3) _ _))).rwv ((hE.h7).far (hE.h3) (by decide) (st2_grown (hE.h3) _ _))).fqs (FqS.grownB (hE.h6) (hE.h3) rfl (st2_grown (hE.h3) _ _))).szb (Nat.le_trans (hE.h5) (st2_grown (hE.h3) _ _).size)).fv ((hE.h4).sep2 hE.h3 rfl _ _ rfl)).blkI ((hE.h3).s2 _ _)).wv ((hE.h2).sep2 hE.h3 rfl _ _ rfl)).wv ((hE.here.1.2).sep2 hE.h3 rfl _ _ rfl)).blkI ((hE.here.2).far2 (by omega) _ _));go_simp;clear x15_0 x15_1 f15_0 f15_1 hgl15;generalize ((W14.setCell ⟨g12, 0, none⟩ (.bool sq)).setCell ⟨g12, 1, none⟩ (.slice Aq nq cq)) = W15 at hE ⊢;refine hK.out _ _ (⟨hE.h10, hE.h9⟩) (fun hHeld => ?_);clear hK K;try simp only [PL]
     refine r1 17 (fun K hK => ?_)
     have hgl16 : w.heap.size ≤ g14 := by omega
     obtain ⟨x16_0, x16_1⟩ := (hE.here.2).c2;obtain ⟨f16_0, f16_1⟩ := hE.here.2.f2;replace hE := ((((((((((((Env.again (bel2 hE.bel hgl16 (.bool sr) (.slice Ar nr cr))).fqs (FqS.grownB (hE.h10) (hE.here.2) rfl (st2_grown (hE.here.2) _ _))).rwu ((hE.h9).grownB (st2_grown (hE.here.2) _ _) (by omega))).rwv ((hE.h8).far (hE.here.2) (by decide) (st2_grown (hE.here.2) _ _))).rwv ((hE.h7).far (hE.here.2) (by decide) (st2_grown (hE.here.2) _ _))).fqs (FqS.grownB (hE.h6) (hE.here.2) rfl (st2_grown (hE.here.2) _ _))).szb (Nat.le_trans (hE.h5) (st2_grown (hE.here.2) _ _).size)).fv ((hE.h4).sep2 hE.here.2 rfl _ _ rfl)).blkI ((hE.h3).far2 (by omega) _ _)).wv ((hE.h2).sep2 hE.here.2 rfl _ _ rfl)).wv ((hE.here.1.2).sep2 hE.here.2 rfl _ _ rfl)).blkI ((hE.here.2).s2 _ _));go_simp;clear x16_0 x16_1 f16_0 f16_1 hgl16;generalize ((W15.setCell ⟨g14, 0, none⟩ (.bool sr)).setCell ⟨g14, 1, none⟩ (.slice Ar nr cr)) = W16 at hE ⊢;refine hK.out _ _ (⟨hE.h10, hE.h9⟩) (fun hHeld => ?_);clear hK K;try simp only [PL]
     refine wpAnyH_done (by kernel_rfl) ?_ _;go_wp2_with fail
     go_meet
     exact ⟨g12, sq, Aq, nq, cq, rfl, by omega, hE.h5, ((((((((((Env.again hE.bel).fqs (hE.h10)).rwu (hE.h9)).rwv (hE.h8)).rwv (hE.h7)).fqs (hE.h6)).szb (hE.h5)).fv (hE.h4)).wv (hE.h2)).blkI (hE.h3))⟩
    ·
     go_simp
     obtain ⟨g17, hg17⟩ : ∃ g17, g17 = W12.heap.size := ⟨_, rfl⟩
     have hl17_7 : g12 < g17 := by rw [hg17]; exact (hE.here.2).lt
     have hlw_g17 : w.heap.size ≤ g17 := by rw [hg17]; exact hE.bel.size
     have hBg_g17 : B ≤ g17 := by rw [hg17]; exact hE.h2
     replace hE := hE.blk 27 #[.bool false, .slice none 0 0] (g := g17) hg17.symm;generalize W12.alloc (.cells #[.bool false, .slice none 0 0] 27) = W17 at hE ⊢;rw [← hg17];clear hg17;refine hK.out _ _ (⟨hE.h8, hE.h7⟩) (fun hHeld => ?_);clear hK K;try simp only [PL]
     refine r1 10 (fun K hK => ?_);go_simp;have hf := hE.h2;rw [Hhys.out, Hhyt.out] at hf;have hc := rfloor_nn (ca := y.c) (cb := y.d) hf.1 hf.2 (by have h1 := ((hE.h2).ln (Nat.le_trans hxk (show 52 ≤ 256 by decide))).1; omega) (by have h1 := ((hE.h2).ln (Nat.le_trans hxk (show 52 ≤ 256 by decide))).2; omega) hdz;clear hf;rw [show X.num.fdiv (X.den : Int) = z from Hhz.out.symm] at hc;refine hc.mono ?_;clear hc
     rintro e w18 ⟨sq, Aq, nq, cq, sr, Ar, nr, cr, rfl, hq, hr, hb⟩
     replace hE := ((hE.step hb).wv hq).wv hr;clear hb hq hr;go_wp2_with fail
     refine hK.out _ _ (⟨hE.h10, hE.h9⟩) (fun hHeld => ?_);clear hK K;try simp only [PL]
     refine tk 11 ?_;refine tk 12 ?_;refine tk 13 ?_;refine r1 16 (fun K hK => ?_)
     have hgl19 : w.heap.size ≤ g12 := by omega
     obtain ⟨x19_0, x19_1⟩ := (hE.h3).c2;obtain ⟨f19_0, f19_1⟩ := hE.h3.f2;replace hE := ((((((((((((Env.again (bel2 hE.bel hgl19 (.bool sq) (.slice Aq nq cq))).fqs (FqS.grownB (hE.h10) (hE.h3) rfl (st2_grown (hE.h3) _ _))).rwu ((hE.h9).grownB (st2_grown (hE.h3) _ _) (by omega))).rwv ((hE.h8).far (hE.h3) (by decide) (st2_grown (hE.h3) _ _))).rwv ((hE.h7).far (hE.h3) (by decide) (st2_grown (hE.h3) _ _))).fqs (FqS.grownB (hE.h6) (hE.h3) rfl (st2_grown (hE.h3) _ _))).szb (Nat.le_trans (hE.h5) (st2_grown (hE.h3) _ _).size)).fv ((hE.h4).sep2 hE.h3 rfl _ _ rfl)).blkI ((hE.h3).s2 _ _)).blkI ((hE.h2).far2 (by omega) _ _)).wv ((hE.here.1.2).sep2 hE.h3 rfl _ _ rfl)).wv ((hE.here.2).sep2 hE.h3 rfl _ _ rfl));go_simp;clear x19_0 x19_1 f19_0 f19_1 hgl19;generalize ((w18.setCell ⟨g12, 0, none⟩ (.bool sq)).setCell ⟨g12, 1, none⟩ (.slice Aq nq cq)) = W19 at hE ⊢;refine hK.out _ _ (⟨hE.h10, hE.h9⟩) (fun hHeld => ?_);clear hK K;try simp only [PL]
     refine r1 17 (fun K hK => ?_)
     have hgl20 : w.heap.size ≤ g17 := by omega
     obtain ⟨x20_0, x20_1⟩ := (hE.h2).c2;obtain ⟨f20_0, f20_1⟩ := hE.h2.f2;replace hE := ((((((((((((Env.again (bel2 hE.bel hgl20 (.bool sr) (.slice Ar nr cr))).fqs (FqS.grownB (hE.h10) (hE.h2) rfl (st2_grown (hE.h2) _ _))).rwu ((hE.h9).grownB (st2_grown (hE.h2) _ _) (by omega))).rwv ((hE.h8).far (hE.h2) (by decide) (st2_grown (hE.h2) _ _))).rwv ((hE.h7).far (hE.h2) (by decide) (st2_grown (hE.h2) _ _))).fqs (FqS.grownB (hE.h6) (hE.h2) rfl (st2_grown (hE.h2) _ _))).szb (Nat.le_trans (hE.h5) (st2_grown (hE.h2) _ _).size)).fv ((hE.h4).sep2 hE.h2 rfl _ _ rfl)).blkI ((hE.h3).far2 (by omega) _ _)).blkI ((hE.h2).s2 _ _)).wv ((hE.here.1.2).sep2 hE.h2 rfl _ _ rfl)).wv ((hE.here.2).sep2 hE.h2 rfl _ _ rfl));go_simp;clear x20_0 x20_1 f20_0 f20_1 hgl20;generalize ((W19.setCell ⟨g17, 0, none⟩ (.bool sr)).setCell ⟨g17, 1, none⟩ (.slice Ar nr cr)) = W20 at hE ⊢;refine hK.out _ _ (⟨hE.h10, hE.h9⟩) (fun hHeld => ?_);clear hK K;try simp only [PL]
     refine wpAnyH_done (by kernel_rfl) ?_ _;go_wp2_with fail
     go_meet
     exact ⟨g12, sq, Aq, nq, cq, rfl, by omega, hE.h5, ((((((((((Env.again hE.bel).fqs (hE.h10)).rwu (hE.h9)).rwv (hE.h8)).rwv (hE.h7)).fqs (hE.h6)).szb (hE.h5)).fv (hE.h4)).wv (hE.here.1.2)).blkI (hE.h3))⟩
   ·
    go_simp
    obtain ⟨g21, hg21⟩ : ∃ g21, g21 = wd.heap.size := ⟨_, rfl⟩
    have hlw_g21 : w.heap.size ≤ g21 := by rw [hg21]; exact hE.bel.size
    have hBg_g21 : B ≤ g21 := by rw [hg21]; exact hE.here.1.2
    replace hE := hE.blk 27 #[.bool false, .slice none 0 0] (g := g21) hg21.symm;generalize wd.alloc (.cells #[.bool false, .slice none 0 0] 27) = W21 at hE ⊢;rw [← hg21];clear hg21;refine hK.out _ _ (⟨hE.h7, hE.h6⟩) (fun hHeld => ?_);clear hK K;try simp only [PL]
    refine wpAnyH_ready (rs := [10, 14]) (by kernel_rfl) (by simp) (AllReadyH.cons rfl (fun K hK => ?_) (AllReadyH.cons rfl (fun K hK => ?_) (AllReadyH.nil)))
    ·
     go_simp;have hf := hE.here.1.2;rw [Hhys.out, Hhyt.out] at hf;have hc := rfloor_nn (ca := y.c) (cb := y.d) hf.1 hf.2 (by have h1 := ((hE.here.1.2).ln (Nat.le_trans hxk (show 52 ≤ 256 by decide))).1; omega) (by have h1 := ((hE.here.1.2).ln (Nat.le_trans hxk (show 52 ≤ 256 by decide))).2; omega) hdz;clear hf;rw [show X.num.fdiv (X.den : Int) = z from Hhz.out.symm] at hc;refine hc.mono ?_;clear hc
     rintro e w22 ⟨sq, Aq, nq, cq, sr, Ar, nr, cr, rfl, hq, hr, hb⟩
     replace hE := ((hE.step hb).wv hq).wv hr;clear hb hq hr;go_wp2_with fail
     refine hK.out _ _ (⟨hE.h9, hE.h8⟩) (fun hHeld => ?_);clear hK K;try simp only [PL]
     refine tk 11 ?_;refine tk 12 ?_;refine tk 13 ?_;refine r1 14 (fun K hK => ?_);go_simp
     obtain ⟨g23, hg23⟩ : ∃ g23, g23 = w22.heap.size := ⟨_, rfl⟩
     have hl23_7 : g21 < g23 := by rw [hg23]; exact (hE.h2).lt
     have hlw_g23 : w.heap.size ≤ g23 := by rw [hg23]; exact hE.bel.size
     have hBg_g23 : B ≤ g23 := by rw [hg23]; exact hE.h4
     replace hE := hE.blk 27 #[.bool false, .slice none 0 0] (g := g23) hg23.symm;generalize w22.alloc (.cells #[.bool false, .slice none 0 0] 27) = W23 at hE ⊢;rw [← hg23];clear hg23;refine hK.out _ _ (⟨hE.h10, hE.h9⟩) (fun hHeld => ?_);clear hK K;try simp only [PL]
     refine r1 16 (fun K hK => ?_)
     have hgl24 : w.heap.size ≤ g23 := by omega
     obtain ⟨x24_0, x24_1⟩ := (hE.here.2).c2;obtain ⟨f24_0, f24_1⟩ := hE.here.2.f2;replace hE := ((((((((((((Env.again (bel2 hE.bel hgl24 (.bool sq) (.slice Aq nq cq))).fqs (FqS.grownB (hE.h10) (hE.here.2) rfl (st2_grown (hE.here.2) _ _))).rwu ((hE.h9).grownB (st2_grown (hE.here.2) _ _) (by omega))).rwv ((hE.h8).far (hE.here.2) (by decide) (st2_grown (hE.here.2) _ _))).rwv ((hE.h7).far (hE.here.2) (by decide) (st2_grown (hE.here.2) _ _))).fqs (FqS.grownB (hE.h6) (hE.here.2) rfl (st2_grown (hE.here.2) _ _))).szb (Nat.le_trans (hE.h5) (st2_grown (hE.here.2) _ _).size)).fv ((hE.h4).sep2 hE.here.2 rfl _ _ rfl)).blkI ((hE.h3).far2 (by omega) _ _)).wv ((hE.h2).sep2 hE.here.2 rfl _ _ rfl)).wv ((hE.here.1.2).sep2 hE.here.2 rfl _ _ rfl)).blkI ((hE.here.2).s2 _ _));go_simp;clear x24_0 x24_1 f24_0 f24_1 hgl24;generalize ((W23.setCell ⟨g23, 0, none⟩ (.bool sq)).setCell ⟨g23, 1, none⟩ (.slice Aq nq cq)) = W24 at hE ⊢;refine hK.out _ _ (⟨hE.h10, hE.h9⟩) (fun hHeld => ?_);clear hK K;try simp only [PL]
     refine r1 17 (fun K hK => ?_)
     have hgl25 : w.heap.size ≤ g21 := by omega
     obtain ⟨x25_0, x25_1⟩ := (hE.h3).c2;obtain ⟨f25_0, f25_1⟩ := hE.h3.f2;replace hE := ((((((((((((Env.again (bel2 hE.bel hgl25 (.bool sr) (.slice Ar nr cr))).fqs (FqS.grownB (hE.h10) (hE.h3) rfl (st2_grown (hE.h3) _ _))).rwu ((hE.h9).grownB (st2_grown (hE.h3) _ _) (by omega))).rwv ((hE.h8).far (hE.h3) (by decide) (st2_grown (hE.h3) _ _))).rwv ((hE.h7).far (hE.h3) (by decide) (st2_grown (hE.h3) _ _))).fqs (FqS.grownB (hE.h6) (hE.h3) rfl (st2_grown (hE.h3) _ _))).szb (Nat.le_trans (hE.h5) (st2_grown (hE.h3) _ _).size)).fv ((hE.h4).sep2 hE.h3 rfl _ _ rfl)).blkI ((hE.h3).s2 _ _)).wv ((hE.h2).sep2 hE.h3 rfl _ _ rfl)).wv ((hE.here.1.2).sep2 hE.h3 rfl _ _ rfl)).blkI ((hE.here.2).far2 (by omega) _ _));go_simp;clear x25_0 x25_1 f25_0 f25_1 hgl25;generalize ((W24.setCell ⟨g21, 0, none⟩ (.bool sr)).setCell ⟨g21, 1, none⟩ (.slice Ar nr cr)) = W25 at hE ⊢;refine hK.out _ _ (⟨hE.h10, hE.h9⟩) (fun hHeld => ?_);clear hK K;try simp only [PL]
     refine wpAnyH_done (by kernel_rfl) ?_ _;go_wp2_with fail
     go_meet
     exact ⟨g23, sq, Aq, nq, cq, rfl, by omega, hE.h5, ((((((((((Env.again hE.bel).fqs (hE.h10)).rwu (hE.h9)).rwv (hE.h8)).rwv (hE.h7)).fqs (hE.h6)).szb (hE.h5)).fv (hE.h4)).wv (hE.h2)).blkI (hE.here.2))⟩
    ·
     go_simp
     obtain ⟨g26, hg26⟩ : ∃ g26, g26 = W21.heap.size := ⟨_, rfl⟩
     have hl26_7 : g21 < g26 := by rw [hg26]; exact (hE.here.2).lt
     have hlw_g26 : w.heap.size ≤ g26 := by rw [hg26]; exact hE.bel.size
     have hBg_g26 : B ≤ g26 := by rw [hg26]; exact hE.h2
     replace hE := hE.blk 27 #[.bool false, .slice none 0 0] (g := g26) hg26.symm;generalize W21.alloc (.cells #[.bool false, .slice none 0 0] 27) = W26 at hE ⊢;rw [← hg26];clear hg26;refine hK.out _ _ (⟨hE.h8, hE.h7⟩) (fun hHeld => ?_);clear hK K;try simp only [PL]
     refine r1 10 (fun K hK => ?_);go_simp;have hf := hE.h2;rw [Hhys.out, Hhyt.out] at hf;have hc := rfloor_nn (ca := y.c) (cb := y.d) hf.1 hf.2 (by have h1 := ((hE.h2).ln (Nat.le_trans hxk (show 52 ≤ 256 by decide))).1; omega) (by have h1 := ((hE.h2).ln (Nat.le_trans hxk (show 52 ≤ 256 by decide))).2; omega) hdz;clear hf;rw [show X.num.fdiv (X.den : Int) = z from Hhz.out.symm] at hc;refine hc.mono ?_;clear hc
     rintro e w27 ⟨sq, Aq, nq, cq, sr, Ar, nr, cr, rfl, hq, hr, hb⟩
     replace hE := ((hE.step hb).wv hq).wv hr;clear hb hq hr;go_wp2_with fail
     refine hK.out _ _ (⟨hE.h10, hE.h9⟩) (fun hHeld => ?_);clear hK K;try simp only [PL]
     refine tk 11 ?_;refine tk 12 ?_;refine tk 13 ?_;refine r1 16 (fun K hK => ?_)
     have hgl28 : w.heap.size ≤ g26 := by omega
     obtain ⟨x28_0, x28_1⟩ := (hE.h2).c2;obtain ⟨f28_0, f28_1⟩ := hE.h2.f2;replace hE := ((((((((((((Env.again (bel2 hE.bel hgl28 (.bool sq) (.slice Aq nq cq))).fqs (FqS.grownB (hE.h10) (hE.h2) rfl (st2_grown (hE.h2) _ _))).rwu ((hE.h9).grownB (st2_grown (hE.h2) _ _) (by omega))).rwv ((hE.h8).far (hE.h2) (by decide) (st2_grown (hE.h2) _ _))).rwv ((hE.h7).far (hE.h2) (by decide) (st2_grown (hE.h2) _ _))).fqs (FqS.grownB (hE.h6) (hE.h2) rfl (st2_grown (hE.h2) _ _))).szb (Nat.le_trans (hE.h5) (st2_grown (hE.h2) _ _).size)).fv ((hE.h4).sep2 hE.h2 rfl _ _ rfl)).blkI ((hE.h3).far2 (by omega) _ _)).blkI ((hE.h2).s2 _ _)).wv ((hE.here.1.2).sep2 hE.h2 rfl _ _ rfl)).wv ((hE.here.2).sep2 hE.h2 rfl _ _ rfl));go_simp;clear x28_0 x28_1 f28_0 f28_1 hgl28;generalize ((w27.setCell ⟨g26, 0, none⟩ (.bool sq)).setCell ⟨g26, 1, none⟩ (.slice Aq nq cq)) = W28 at hE ⊢;refine hK.out _ _ (⟨hE.h10, hE.h9⟩) (fun hHeld => ?_);clear hK K;try simp only [PL]
     refine r1 17 (fun K hK => ?_)
     have hgl29 : w.heap.size ≤ g21 := by omega
     obtain ⟨x29_0, x29_1⟩ := (hE.h3).c2;obtain ⟨f29_0, f29_1⟩ := hE.h3.f2;replace hE := ((((((((((((Env.again (bel2 hE.bel hgl29 (.bool sr) (.slice Ar nr cr))).fqs (FqS.grownB (hE.h10) (hE.h3) rfl (st2_grown (hE.h3) _ _))).rwu ((hE.h9).grownB (st2_grown (hE.h3) _ _) (by omega))).rwv ((hE.h8).far (hE.h3) (by decide) (st2_grown (hE.h3) _ _))).rwv ((hE.h7).far (hE.h3) (by decide) (st2_grown (hE.h3) _ _))).fqs (FqS.grownB (hE.h6) (hE.h3) rfl (st2_grown (hE.h3) _ _))).szb (Nat.le_trans (hE.h5) (st2_grown (hE.h3) _ _).size)).fv ((hE.h4).sep2 hE.h3 rfl _ _ rfl)).blkI ((hE.h3).s2 _ _)).blkI ((hE.h2).far2 (by omega) _ _)).wv ((hE.here.1.2).sep2 hE.h3 rfl _ _ rfl)).wv ((hE.here.2).sep2 hE.h3 rfl _ _ rfl));go_simp;clear x29_0 x29_1 f29_0 f29_1 hgl29;generalize ((W28.setCell ⟨g21, 0, none⟩ (.bool sr)).setCell ⟨g21, 1, none⟩ (.slice Ar nr cr)) = W29 at hE ⊢;refine hK.out _ _ (⟨hE.h10, hE.h9⟩) (fun hHeld => ?_);clear hK K;try simp only [PL]
     refine wpAnyH_done (by kernel_rfl) ?_ _;go_wp2_with fail
     go_meet
     exact ⟨g26, sq, Aq, nq, cq, rfl, by omega, hE.h5, ((((((((((Env.again hE.bel).fqs (hE.h10)).rwu (hE.h9)).rwv (hE.h8)).rwv (hE.h7)).fqs (hE.h6)).szb (hE.h5)).fv (hE.h4)).wv (hE.here.1.2)).blkI (hE.h2))⟩
  case rest =>
  clear hE hBr;obtain ⟨G12, sq, Aq, nq, cq, rfl, hG12, hBc, hE⟩ := hcut;generalize wc = wk10 at hE hBc ⊢
  go_upto_region 11 with (fail)
  obtain ⟨k30, k31⟩ := (hE.here.2).c2;go_wp2_with fail
  clear k30 k31;refine hE.br (rint_v (c := cq) (hE.here.1.2) hzb.1 (by omega)) ?_;clear hE;intro w32 hE;have hBd : B ≤ w32.heap.size := hE.h3;have hbA := belAlloc w32 (.cells #[.int .i64 z] 3);have hBn := Blk.new w32 3 #[.int .i64 z];have hE2 := hE.step hbA;obtain ⟨gN, capN, w8, hr, hgN, hR, hgw⟩ := append_rw intElem 36 (hE2.here.1.1.1.1.1.1.2) (Nat.le_trans hBd hbA.size) ⟨w32.heap.size, 0, none⟩ 1 [.int .i64 z] rfl (fun u hu => by simp only [List.mem_cons, List.not_mem_nil, or_false] at hu; subst hu; rfl) (fun u hu => by simp only [List.mem_cons, List.not_mem_nil, or_false] at hu; subst hu; rfl) (fun j u hu => by rw [Addr.add_mid, Nat.zero_add, hBn.cell]; exact (List.getElem?_toArray ▸ hu)) (by omega);have hR2 := hR.congr (fun j _ => push_same (e := (fun j => [.int .i64 (floorQ (xq t (wq r) (Kz r) j))])) (by show [Value.int .i64 (floorQ (xq t (wq r) (Kz r) k))] = _; rw [← HhX.out, ← Hhz.out]) j);have hBe : B ≤ w8.heap.size := Nat.le_trans hgN (Nat.le_of_lt hR2.lt);have hE3 := (((((Env.again (Go.Proofs.YtjgihmmeimfheaaGreat.Below.grownR hE2.bel (hE2.here.1.1.1.1.1.1.2) hgw hwB hE2.bel.size)).fqs (FqS.grownR (hE2.here.1.1.1.1.1.1.1.1.2) (hE2.here.1.1.1.1.1.1.2) hgw)).rwu ((hE2.here.1.1.1.1.1.1.1.2).grownR (hE2.here.1.1.1.1.1.1.2) hgw (Nat.le_refl _))).rwv (.inr ⟨gN, capN, rfl, hgN, hR2⟩)).rwv ((hE2.here.1.1.1.1.1.2).grownV (hE2.here.1.1.1.1.1.1.2) hgw (by decide))).fqs (FqS.grownR (hE2.here.1.1.1.1.2) (hE2.here.1.1.1.1.1.1.2) hgw) |>.fv (FV.grownR (hE2.here.1.1.2) (hE2.here.1.1.1.1.1.1.2) hgw);have HF := Lib.hid (And.intro hE3 hBe);clear hbA hBn hE2 hR hgw hR2 hE3 hBe hBd
  go_upto_region 13 with (first | refine wpList_appP hr rfl rfl rfl rfl ?_)
  clear hr hE;obtain ⟨hE, hBe⟩ := HF.out;clear HF;replace hE := hE.drew;refine wp_region_held_drew (S := fun V => FqS hx n (xq t (wq r) (Kz r)) V ∧ RwU 29 4 B (some ⟨gE, 0, none⟩) n (fun j => zqL (hx j)) V) (by kernel_rfl) (⟨hE.h5, hE.h4⟩) (fun hHeld => ?_)
  generalize w8.drew = wd at *
  refine tk 0 ?_;refine tk 1 ?_;refine tk 2 ?_;refine tk 3 ?_
  refine tk 4 ?_ (hy := by
   intro w hSw;obtain ⟨gE2, capE2, e2, -, hRE⟩ := hSw.2 (by omega)
   cases e2
   have kc0 := Rw.cell hRE (k := k) (i := 0) (o := k * 4) (v := .bool y.s) hlt (by decide) rfl (by rw [← Hhy.out]; rfl);have kc1 := Rw.cell hRE (k := k) (i := 1) (o := k * 4 + 1) (v := .slice y.A y.n y.c) hlt (by decide) rfl (by rw [← Hhy.out]; rfl);have kc2 := Rw.cell hRE (k := k) (i := 2) (o := k * 4 + 2) (v := .bool y.t) hlt (by decide) rfl (by rw [← Hhy.out]; rfl);have kc3 := Rw.cell hRE (k := k) (i := 3) (o := k * 4 + 3) (v := .slice y.B y.m y.d) hlt (by decide) rfl (by rw [← Hhy.out]; rfl);clear hRE;clear hSw
   first | (go_simp; done) | (go_simp; with_reducible rfl))
  try simp only [PL]
  refine tk 5 ?_;refine r1 6 (fun K hK => ?_);go_simp;refine hE.fr (rffromInt_v z _ (by omega) (by omega)) ?_;clear hE;intro s5 A5 n5 c5 t5 B5 m5 d5 w33 hE;go_wp2_with fail
  refine hK.out _ _ (⟨hE.h6, hE.h5⟩) (fun hHeld => ?_);clear hK K;try simp only [PL]
  refine r1 7 (fun K hK => ?_);go_simp;refine hE.fr (rminus_v (ca := y.c) (da := y.d) (cb := c5) (db := d5) (hE.here.1.2) (hE.here.2) (by omega) (by omega)) ?_;clear hE;intro s4 A4 n4 c4 t4 B4 m4 d4 w34 hE;go_wp2_with fail
  refine hK.out _ _ (⟨hE.h7, hE.h6⟩) (fun hHeld => ?_);clear hK K;try simp only [PL]
  refine r1 8 (fun K hK => ?_);go_simp
  obtain ⟨g35, hg35⟩ : ∃ g35, g35 = w34.heap.size := ⟨_, rfl⟩
  have hlw_g35 : w.heap.size ≤ g35 := by rw [hg35]; exact hE.bel.size
  replace hE := hE.blk 29 #[.bool s4, .slice A4 n4 c4, .bool t4, .slice B4 m4 d4] (g := g35) hg35.symm;generalize w34.alloc (.cells #[.bool s4, .slice A4 n4 c4, .bool t4, .slice B4 m4 d4] 29) = W35 at hE ⊢;rw [← hg35];clear hg35;refine hK.out _ _ (⟨hE.h8, hE.h7⟩) (fun hHeld => ?_);clear hK K;try simp only [PL]
  refine r1 9 (fun K hK => ?_);have hBs : B ≤ W35.heap.size := Nat.le_trans hgN (by rcases hE.h6 with ⟨h1, _⟩ | ⟨g9, cap9, e9, h1, h2⟩; exact absurd h1 (by simp); cases e9; exact Nat.le_of_lt h2.lt);obtain ⟨g9, cap9, wz, hr, hg9, hR, hgw⟩ := append_rw frElem 33 (hE.h5) hBs ⟨g35, 0, none⟩ 1 (zqL (⟨s4, A4, n4, c4, fun _ => 0, t4, B4, m4, d4, fun _ => 0⟩ : FH)) rfl (fun u hu => (zqL_ok _ u hu).1) (fun u hu => (zqL_ok _ u hu).2) (fun j u hu => by rw [Addr.add_mid, Nat.zero_add, (hE.here.2).cell]; exact (List.getElem?_toArray ▸ hu)) (by omega);replace hR := hR.congr (fun j _ => updF_row h2 k (⟨s4, A4, n4, c4, fun _ => 0, t4, B4, m4, d4, fun _ => 0⟩ : FH) j);have hq2 := (FqS.grownR (hE.h4) (hE.h5) hgw).push (x := (⟨s4, A4, n4, c4, fun _ => 0, t4, B4, m4, d4, fun _ => 0⟩ : FH)) (FV.grownR ((hE.here.1.2).to HhlX.out) (hE.h5) hgw);have hBz : B ≤ wz.heap.size := Nat.le_trans hg9 (Nat.le_of_lt hR.lt);refine Eq.mpr (if_pos (by rfl)) ?_;refine app_step rfl rfl rfl hr ?_;clear hr;replace hE := (((((Env.again (Go.Proofs.YtjgihmmeimfheaaGreat.Below.grownR hE.bel (hE.h5) hgw hwB hE.bel.size)).fqs (FqS.grownR (hE.h8) (hE.h5) hgw)).rwu ((hE.h7).grownR (hE.h5) hgw (Nat.le_refl _))).rwv ((hE.h6).grownV (hE.h5) hgw (by decide))).rwv (.inr ⟨g9, cap9, rfl, hg9, hR⟩)).fqs hq2;clear hR hgw hq2 hBs;refine hK.out _ _ (⟨hE.h4, hE.h3⟩) (fun hHeld => ?_);clear hK K;try simp only [PL]
  refine tk 10 ?_;refine wpAnyH_done (by kernel_rfl) ?_ _;go_wp2_with fail
  go_roundw
  case rel => exact ⟨k + 1, _, _, _, by omega, rfl, rfl, by rw [Hhsz.out, Hhl.out]; congr 1; omega, by go_num, hBz, ((((((Env.again hE.bel).fqs (hE.h4)).rwu (hE.h3)).rwv (hE.h2)).rwv (hE.here.1.2)).fqs (hE.here.2))⟩
  case measure => simp [intOf]; omega
end
section
open Go.RowKit

theorem sameInts_0 {A B : Option Addr} {c d : Nat} {w : World} : Calls Tryz.prog 39 #[.slice A 0 c, .slice B 0 d] w (fun e w' => e = .returned (.bool true) ∧ Below w.heap.size w w') := by
 have hE := Below.refl w.heap.size w
 go_enter Tryz.func39, Tryz.ntmps39
 go_wp2_with fail
 go_loopw [5] (fun x wr => x = .int .i64 0 ∧ Below w.heap.size w wr) (fun _ _ => 0)
 case atStart => exact ⟨rfl, hE⟩
 case round =>
  obtain ⟨rfl, hb⟩ := hrel;go_wp2_with fail
  go_ret
  exact ⟨rfl, hb⟩
theorem sameFracs_0 {A B : Option Addr} {c d : Nat} {w : World} : Calls Tryz.prog 63 #[.slice A 0 c, .slice B 0 d] w (fun e w' => e = .returned (.bool true) ∧ Below w.heap.size w w') := by
 have hE := Below.refl w.heap.size w
 go_enter Tryz.func63, Tryz.ntmps63
 go_wp2_with fail
 go_loopw [5] (fun x wr => x = .int .i64 0 ∧ Below w.heap.size w wr) (fun _ _ => 0)
 case atStart => exact ⟨rfl, hE⟩
 case round =>
  obtain ⟨rfl, hb⟩ := hrel;go_wp2_with fail
  go_ret
  exact ⟨rfl, hb⟩
theorem sameInts_w {u v : Value} {b0 c0 n : Nat} {p : Nat → Int} {w : World} (hA : RwV 3 1 b0 u n (fun j => [.int .i64 (p j)]) w) (hB : RwV 3 1 c0 v n (fun j => [.int .i64 (p j)]) w) (hn : n ≤ 1000) : Calls Tryz.prog 39 #[u, v] w (fun e w' => e = .returned (.bool true) ∧ Below w.heap.size w w') := by
 rcases hA with ⟨rfl, rfl⟩ | ⟨g, cap, rfl, -, hA⟩ <;> rcases hB with ⟨rfl, h0⟩ | ⟨g2, cap2, rfl, -, hB⟩
 · exact sameInts_0
 · exact sameInts_0
 · subst h0; exact sameInts_0
 · exact sameInts_t hn hA hB
theorem sameFracs_w {u v : Value} {b0 c0 n : Nat} {hx hy : Nat → FH} {q : Nat → Rat} {w : World} (hA : RwV 29 4 b0 u n (fun j => zqL (hx j)) w) (hB : RwV 29 4 c0 v n (fun j => zqL (hy j)) w) (hqa : FqS hx n q w) (hqb : FqS hy n q w) (hn : n ≤ 1000) (hl : ∀ k, k < n → fl (q k) ≤ 256) : Calls Tryz.prog 63 #[u, v] w (fun e w' => e = .returned (.bool true) ∧ Below w.heap.size w w') := by
 rcases hA with ⟨rfl, rfl⟩ | ⟨g, cap, rfl, -, hA⟩ <;> rcases hB with ⟨rfl, h0⟩ | ⟨g2, cap2, rfl, -, hB⟩
 · exact sameFracs_0
 · exact sameFracs_0
 · subst h0; exact sameFracs_0
 · exact sameFracs_t hA hB hqa hqb hn hl
def cpR (n : Nat) (r : Nat → Cl) (h : Nat → FH) (j : Nat) : Cl := if j < n then ⟨(r j).I, h j, (r j).K⟩ else r j
section
variable {n : Nat} {r : Nat → Cl} {h : Nat → FH}
theorem cpR_in {j : Nat} (hj : j < n) : cpR n r h j = ⟨(r j).I, h j, (r j).K⟩ := if_pos hj
theorem cpR_clm {A : Option Addr} {W : World} (hM : ClM A n (fun j => ⟨(r j).I, h j, (r j).K⟩) W) : ClM A n (cpR n r h) W := fun h0 => by
 obtain ⟨b, o, e, hb, hc⟩ := hM h0;exact ⟨b, o, e, hb, fun k hk => by rw [cpR_in hk]; exact hc k hk⟩
theorem cpw_q {x y : FH} (h : CpW x y) : y.q = x.q := by
 obtain ⟨h1, h2, h3, h4, h5, h6⟩ := h;unfold FH.q;rw [h1, h2, h3, h5, h6]
theorem cpR_wq (hc : ∀ j, j < n → CpW (r j).w (h j)) : wq (cpR n r h) = wq r := funext fun j => by
 unfold wq cpR
 split
 · rename_i hj; exact cpw_q (hc j hj)
 · rfl
theorem cpR_Kz : Kz (cpR n r h) = Kz r := funext fun j => by
 unfold Kz cpR
 split <;> rfl
theorem cpR_I (j : Nat) : (cpR n r h j).I = (r j).I := by
 unfold cpR
 split <;> rfl
theorem cpR_ok (hc : ∀ j, j < n → CpW (r j).w (h j)) : ClOK n (cpR n r h) ↔ ClOK n r := by
 have key : ∀ k, k < n → ((cpR n r h k).ok ↔ (r k).ok) := fun k hk => by
  obtain ⟨h1, h2, h3, h4, h5, h6⟩ := hc k hk;rw [cpR_in hk];unfold Cl.ok;show (okF (h k).s (h k).n (h k).f (h k).t (h k).m (h k).g = true ∧ (h k).s = false) ∧ ((h k).n ≤ 4 ∧ (h k).m ≤ 4) ∧ 0 ≤ (r k).K ∧ (r k).K ≤ 1099511627776 ↔ _;rw [h1, h2, h3, h4, h5, h6]
 unfold ClOK
 constructor
 ·
  rintro ⟨h1, h2⟩
  exact ⟨h1, fun k hk => ⟨fun j hj => by have := (h2 k hk).1 j hj; rw [cpR_I, cpR_I] at this; exact this, (key k hk).1 (h2 k hk).2⟩⟩
 ·
  rintro ⟨h1, h2⟩
  exact ⟨h1, fun k hk => ⟨fun j hj => by rw [cpR_I, cpR_I]; exact (h2 k hk).1 j hj, (key k hk).2 (h2 k hk).2⟩⟩
end
def LevC (s t : Bool) (n m : Nat) (f g : Nat → Nat) (k : Int) (w : World) (e : Ending) (w' : World) : Prop := ∃ A c B d, e = .returned (.tuple #[.agg #[.bool s, .slice A n c, .bool t, .slice B m d], .int .i64 k]) ∧ FRd w' A n f B m g ∧ Below w.heap.size w w'
def ExC (n0 : Nat) (q : Nat → Rat) (k : Int) (w : World) (e : Ending) (w' : World) : Prop := ∃ v h, e = .returned (.tuple #[v, .int .i64 k]) ∧ RwV 29 4 w.heap.size v n0 (fun j => zqL (h j)) w' ∧ FqS h n0 q w' ∧ Below w.heap.size w w'
def PaC (n0 : Nat) (p : Nat → Int) (k : Int) (w : World) (e : Ending) (w' : World) : Prop := ∃ v, e = .returned (.tuple #[v, .int .i64 k]) ∧ RwV 3 1 w.heap.size v n0 (fun j => [.int .i64 (p j)]) w' ∧ Below w.heap.size w w'
def DgW (q : Rat) (x : FH) : Prop := x.s = decide (q.num < 0) ∧ x.n = ln b16 q.num.natAbs ∧ x.f = dgt b16 q.num.natAbs ∧ x.t = decide ((q.den : Int) < 0) ∧ x.m = ln b16 ((q.den : Int)).natAbs ∧ x.g = dgt b16 q.den
def WiC (n0 : Nat) (I0 K0 : Nat → Int) (q0 : Nat → Rat) (k : Int) (w : World) (e : Ending) (w' : World) : Prop := ∃ A c rr, e = .returned (.tuple #[.slice A n0 c, .int .i64 k]) ∧ ClM A n0 rr w' ∧ (∀ j, j < n0 → (rr j).I = I0 j ∧ (rr j).K = K0 j ∧ DgW (q0 j) (rr j).w) ∧ Below w.heap.size w w'
theorem DgW.cp {q : Rat} {x y : FH} (hx : DgW q x) (hy : DgW q y) : CpW x y := by
 obtain ⟨a1, a2, a3, a4, a5, a6⟩ := hx;obtain ⟨b1, b2, b3, b4, b5, b6⟩ := hy;exact ⟨b1.trans a1.symm, b2.trans a2.symm, b3.trans a3.symm, b4.trans a4.symm, b5.trans a5.symm, b6.trans a6.symm⟩
theorem DgW.len {q : Rat} {x : FH} (hx : DgW q x) (h : fl q ≤ 4) : x.n ≤ 300 ∧ x.m ≤ 300 := by
 obtain ⟨h1, h2⟩ := fl_le.1 h;obtain ⟨_, a2, _, _, a5, _⟩ := hx;rw [a2, a5, Int.natAbs_natCast];omega
theorem FOK.toC {q : Rat} {w w' : World} {e : Ending} (h : FOK q w e w') : LevC (decide (q.num < 0)) (decide ((q.den : Int) < 0)) (ln b16 q.num.natAbs) (ln b16 ((q.den : Int)).natAbs) (dgt b16 q.num.natAbs) (dgt b16 q.den) 0 w e w' := by
 obtain ⟨s, A, n, c, t, B, m, d, rfl, hV, hb⟩ := h;have hr := hV.rd;obtain ⟨⟨rfl, rfl, _⟩, ⟨rfl, rfl, _⟩⟩ := hV;exact ⟨_, _, _, _, rfl, hr, hb⟩
def nrm (x : Cl) : Cl := ⟨x.I, ⟨x.w.s, x.w.A, x.w.n, x.w.c, dgt b16 x.w.q.num.natAbs, x.w.t, x.w.B, x.w.m, x.w.d, dgt b16 x.w.q.den⟩, x.K⟩
theorem clm_nrm {A : Option Addr} {n : Nat} {r : Nat → Cl} {W : World} (hM : ClM A n r W) (hok : ∀ k, k < n → (r k).ok) : ClM A n (fun k => nrm (r k)) W := fun h0 => by
 obtain ⟨b, o, e, hb, hc⟩ := hM h0;exact ⟨b, o, e, hb, fun k hk => ⟨(hc k hk).1, (Cl.fv (hok k hk) (hc k hk).2).1.rd⟩⟩
theorem dg_nrm {A : Option Addr} {n : Nat} {r : Nat → Cl} {W : World} (hM : ClM A n r W) (hok : ∀ k, k < n → (r k).ok) {k : Nat} (hk : k < n) : DgW (wq r k) (nrm (r k)).w := by
 obtain ⟨b, o, e, hb, hc⟩ := hM (by omega);obtain ⟨⟨h1, h2, _⟩, ⟨h3, h4, _⟩⟩ := (Cl.fv (hok k hk) (hc k hk).2).1;exact ⟨h1, h2, rfl, h3, h4, rfl⟩
theorem bad_lev (w : World) {e : Ending} {w' : World} (h : e = .returned (.tuple #[.agg #[.bool false, .slice none 0 0, .bool false, .slice none 0 0], .int .i64 2]) ∧ Below w.heap.size w w') : LevC false false 0 0 (fun _ => 0) (fun _ => 0) 2 w e w' := by
 obtain ⟨rfl, hb⟩ := h;exact ⟨none, 0, none, 0, rfl, ⟨fun h => absurd h (Nat.lt_irrefl 0), fun h => absurd h (Nat.lt_irrefl 0), fun _ h => absurd h (Nat.not_lt_zero _), fun _ h => absurd h (Nat.not_lt_zero _)⟩, hb⟩
section
variable {n : Nat} {r : Nat → Cl} (a : Int)
theorem al_cp {r2 : Nat → Cl} (h : ClOK n r2 ↔ ClOK n r) : Al a n r2 ↔ Al a n r := and_congr Iff.rfl h
theorem rlev_of {A : Option Addr} {c : Nat} {w : World} (hM : ClM A n r w) (hal : Al a n r) (hs : ClOK n r → SzR n r) : RLev a A n c r w := fun _ hb => rslevel_v a hal.1 (hM.below hb) hal.2 hal.2.1 (hs hal.2).d
theorem level_both (hs : ClOK n r → SzR n r) : ∃ s t x y f g k, (x ≤ 1000 ∧ y ≤ 1000) ∧ (∀ ⦃A : Option Addr⦄ ⦃c : Nat⦄ ⦃w : World⦄, ClM A n r w → Calls Tryz.prog 59 #[.int .i64 a, .slice A n c] w (LevC s t x y f g k w)) ∧
  (∀ ⦃A : Option Addr⦄ ⦃c : Nat⦄ ⦃w : World⦄ ⦃r2 : Nat → Cl⦄, ClM A n r2 w → wq r2 = wq r → Kz r2 = Kz r → (ClOK n r2 ↔ ClOK n r) → Calls Tryz.prog 13 #[.int .i64 a, .slice A n c] w (LevC s t x y f g k w)) := by
 by_cases hal : Al a n r
 ·
  by_cases hex : ∃ t, Lv (prs (wq r) (Kz r) (List.range n)) ((totZ a (wq r) (Kz r) n : Int) : Rat) t ∧ fl t ≤ 48
  ·
   obtain ⟨t, ht, hft⟩ := hex;obtain ⟨h1, h2⟩ := fl_le.1 hft;refine ⟨decide (t.num < 0), decide ((t.den : Int) < 0), ln b16 t.num.natAbs, ln b16 ((t.den : Int)).natAbs, dgt b16 t.num.natAbs, dgt b16 t.den, 0, ⟨?_, ?_⟩, fun _ _ _ hM => (rsLevel_v a hM hal (rlev_of a hM hal hs)).mono ?_, fun _ _ _ _ hM e1 e2 e3 => (sLevel_v a hal.1 hM (e3.2 hal.2) hal.2.1 ((hs hal.2).cp e1 e2)).mono ?_⟩
   rotate_left 2
   ·
    rintro e w' ⟨u, hu, _, hF⟩
    obtain rfl := hu.uniq ht;exact hF.toC
   ·
    rintro e w' ⟨u, hu, _, hF⟩
    rw [e1, e2] at hu;obtain rfl := hu.uniq ht;exact hF.toC
   · omega
   · rw [Int.natAbs_natCast]; omega
  ·
   refine ⟨false, false, 0, 0, fun _ => 0, fun _ => 0, 0, ⟨by decide, by decide⟩, fun _ _ _ hM => (rsLevel_v a hM hal (rlev_of a hM hal hs)).mono ?_, fun _ _ _ _ hM e1 e2 e3 => (sLevel_v a hal.1 hM (e3.2 hal.2) hal.2.1 ((hs hal.2).cp e1 e2)).mono ?_⟩
   ·
    rintro e w' ⟨u, hu, hf, _⟩
    exact absurd ⟨u, hu, hf⟩ hex
   ·
    rintro e w' ⟨u, hu, hf, _⟩
    rw [e1, e2] at hu;exact absurd ⟨u, hu, hf⟩ hex
 · exact ⟨false, false, 0, 0, fun _ => 0, fun _ => 0, 2, ⟨by decide, by decide⟩, fun _ _ _ hM => (rsLevel_bad a hM hal).mono fun e w' h => bad_lev _ h, fun _ _ _ _ hM _ _ e3 => (sLevel_bad a hM (fun h => hal ((al_cp a e3).1 h))).mono fun e w' h => bad_lev _ h⟩
theorem xq_fl2 {t : Rat} {A : Option Addr} {w : World} (hM : ClM A n r w) (hok : ClOK n r) (ht : fl t ≤ 48) {j : Nat} (hj : j < n) : fl (xq t (wq r) (Kz r) j) ≤ 256 := by
 have h1 := hok.K j hj;unfold xq part mn
 split
 · exact fl_le2 (fl_times ht (hok.w hM j hj).2) (by decide)
 · exact fl_le2 (fl_int3 (by omega) (by omega)) (by decide)
theorem exact_both (hs : ClOK n r → SzR n r) {A0 : Option Addr} {w0 : World} (h0 : ClM A0 n r w0) : ∃ n0 q k, (n0 ≤ 1000 ∧ ∀ j, j < n0 → fl (q j) ≤ 256) ∧ (∀ ⦃A : Option Addr⦄ ⦃c : Nat⦄ ⦃w : World⦄, ClM A n r w → Calls Tryz.prog 60 #[.int .i64 a, .slice A n c] w (ExC n0 q k w)) ∧
  (∀ ⦃A : Option Addr⦄ ⦃c : Nat⦄ ⦃w : World⦄ ⦃r2 : Nat → Cl⦄, ClM A n r2 w → wq r2 = wq r → Kz r2 = Kz r → (ClOK n r2 ↔ ClOK n r) → Calls Tryz.prog 14 #[.int .i64 a, .slice A n c] w (ExC n0 q k w)) := by
 by_cases hal : Al a n r
 ·
  by_cases hex : ∃ t, Lv (prs (wq r) (Kz r) (List.range n)) ((totZ a (wq r) (Kz r) n : Int) : Rat) t ∧ fl t ≤ 48
  ·
   obtain ⟨t, ht, hft⟩ := hex;refine ⟨n, xq t (wq r) (Kz r), 0, ⟨Nat.le_trans hal.2.1 (by decide), fun j hj => xq_fl2 h0 hal.2 hft hj⟩, fun _ _ _ hM => (rsExact_v a hM hal hal.2.1 (rlev_of a hM hal hs)).mono ?_, fun _ _ _ _ hM e1 e2 e3 => (sExact_v a hal.1 hM (e3.2 hal.2) hal.2.1 ((hs hal.2).cp e1 e2)).mono ?_⟩
   ·
    rintro e w' ⟨u, v, h, rfl, hu, _, hR, hq, hb⟩
    obtain rfl := hu.uniq ht;exact ⟨v, h, rfl, hR, hq, hb⟩
   ·
    rintro e w' ⟨u, g, cap, h, rfl, hu, _, hg, hR, hq, hb⟩
    rw [e1, e2] at hu hq;obtain rfl := hu.uniq ht;exact ⟨_, h, rfl, .inr ⟨g, cap, rfl, hg, hR⟩, hq, hb⟩
  ·
   refine ⟨0, fun _ => 0, 0, ⟨by decide, fun _ h => absurd h (Nat.not_lt_zero _)⟩, fun _ _ _ hM => (rsExact_v a hM hal hal.2.1 (rlev_of a hM hal hs)).mono ?_, fun _ _ _ _ hM e1 e2 e3 => (sExact_v a hal.1 hM (e3.2 hal.2) hal.2.1 ((hs hal.2).cp e1 e2)).mono ?_⟩
   ·
    rintro e w' ⟨u, v, h, rfl, hu, hf, _⟩
    exact absurd ⟨u, hu, hf⟩ hex
   ·
    rintro e w' ⟨u, g, cap, h, rfl, hu, hf, _⟩
    rw [e1, e2] at hu;exact absurd ⟨u, hu, hf⟩ hex
 ·
  refine ⟨0, fun _ => 0, 2, ⟨by decide, fun _ h => absurd h (Nat.not_lt_zero _)⟩, fun _ _ _ hM => (rsExact_bad a hM hal).mono ?_, fun _ _ _ _ hM _ _ e3 => (sExact_bad a hM (fun h => hal ((al_cp a e3).1 h))).mono ?_⟩
  ·
   rintro e w' ⟨rfl, hb⟩
   exact ⟨_, fun _ => zFH, rfl, .inl ⟨rfl, rfl⟩, fun _ h => absurd h (Nat.not_lt_zero _), hb⟩
  ·
   rintro e w' ⟨rfl, hb⟩
   exact ⟨_, fun _ => zFH, rfl, .inl ⟨rfl, rfl⟩, fun _ h => absurd h (Nat.not_lt_zero _), hb⟩
theorem parts_both (hs : ClOK n r → SzR n r) : ∃ n0 p k, n0 ≤ 1000 ∧ (∀ ⦃A : Option Addr⦄ ⦃c : Nat⦄ ⦃w : World⦄, ClM A n r w → Calls Tryz.prog 61 #[.int .i64 a, .slice A n c] w (PaC n0 p k w)) ∧
  (∀ ⦃A : Option Addr⦄ ⦃c : Nat⦄ ⦃w : World⦄ ⦃r2 : Nat → Cl⦄, ClM A n r2 w → wq r2 = wq r → Kz r2 = Kz r → (ClOK n r2 ↔ ClOK n r) → Calls Tryz.prog 15 #[.int .i64 a, .slice A n c] w (PaC n0 p k w)) := by
 by_cases hal : Al a n r
 ·
  by_cases hex : ∃ t, Lv (prs (wq r) (Kz r) (List.range n)) ((totZ a (wq r) (Kz r) n : Int) : Rat) t
  ·
   obtain ⟨t, ht⟩ := hex;obtain ⟨p, hp⟩ := parts_ex t (wq r) (Kz r) n (totZ a (wq r) (Kz r) n);refine ⟨n, p, 0, Nat.le_trans hal.2.1 (by decide), fun _ _ _ hM => (rsParts_v a hM hal hal.2.1 (rlev_of a hM hal hs)).mono ?_, fun _ _ _ _ hM e1 e2 e3 => (sparts_v a hal.1 hM (e3.2 hal.2) hal.2.1 ((hs hal.2).cp e1 e2)).mono ?_⟩
   ·
    rintro e w' ⟨v, u, g, rfl, hu, hg, hc, hR, hb⟩
    obtain rfl := hu.uniq ht;exact ⟨v, rfl, hR.congr (fun j hj => by rw [rparts_eq hu hp hg hc j hj]), hb⟩
   ·
    rintro e w' ⟨g, cap, p2, u, rfl, ⟨hu, _, hp2⟩, hg, hR, hb⟩
    rw [e1, e2] at hu hp2;obtain rfl := hu.uniq ht;exact ⟨_, rfl, .inr ⟨g, cap, rfl, hg, hR.congr (fun j hj => by rw [parts_same hp2 hp (fun _ _ => rfl) hj])⟩, hb⟩
  ·
   refine ⟨0, fun _ => 0, 0, by decide, fun _ _ _ hM => (rsParts_v a hM hal hal.2.1 (rlev_of a hM hal hs)).mono ?_, fun _ _ _ _ hM e1 e2 e3 => (sparts_v a hal.1 hM (e3.2 hal.2) hal.2.1 ((hs hal.2).cp e1 e2)).mono ?_⟩
   ·
    rintro e w' ⟨v, u, g, rfl, hu, _⟩
    exact absurd ⟨u, hu⟩ hex
   ·
    rintro e w' ⟨g, cap, p2, u, rfl, ⟨hu, _⟩, _⟩
    rw [e1, e2] at hu;exact absurd ⟨u, hu⟩ hex
 ·
  refine ⟨0, fun _ => 0, 2, by decide, fun _ _ _ hM => (rsParts_bad a hM hal).mono ?_, fun _ _ _ _ hM _ _ e3 => (sParts_bad a hM (fun h => hal ((al_cp a e3).1 h))).mono ?_⟩
  ·
   rintro e w' ⟨rfl, hb⟩
   exact ⟨_, rfl, .inl ⟨rfl, rfl⟩, hb⟩
  ·
   rintro e w' ⟨rfl, hb⟩
   exact ⟨_, rfl, .inl ⟨rfl, rfl⟩, hb⟩
theorem without_both (z : Int) {A0 : Option Addr} {w0 : World} (h0 : ClM A0 n r w0) : ∃ n0 I0 K0 q0 k, (n0 ≤ 100 ∧ ∀ j, j < n0 → fl (q0 j) ≤ 4) ∧ (∀ ⦃A : Option Addr⦄ ⦃c : Nat⦄ ⦃w : World⦄, ClM A n r w → Calls Tryz.prog 62 #[.slice A n c, .int .i64 z] w (WiC n0 I0 K0 q0 k w)) ∧
  (∀ ⦃A : Option Addr⦄ ⦃c : Nat⦄ ⦃w : World⦄ ⦃r2 : Nat → Cl⦄, ClM A n r2 w → (∀ j, (r2 j).I = (r j).I) → wq r2 = wq r → Kz r2 = Kz r → (ClOK n r2 ↔ ClOK n r) → Calls Tryz.prog 36 #[.slice A n c, .int .i64 z] w (WiC n0 I0 K0 q0 k w)) := by
 by_cases hok : ClOK n r
 ·
  have hw4 := hok.w h0;have hn32 := hok.1
  have hex : ∃ i, ∀ k, k < n → ((r k).I = z ↔ k = i) := by
   by_cases h : ∃ i, i < n ∧ (r i).I = z
   ·
    obtain ⟨i, hi, e⟩ := h;exact ⟨i, fun k hk => ⟨fun e2 => hok.inj hk hi (e2.trans e.symm), fun e2 => e2 ▸ e⟩⟩
   · exact ⟨n, fun k hk => ⟨fun e => absurd ⟨k, hk, e⟩ h, fun e => by omega⟩⟩
  obtain ⟨i, hi⟩ := hex
  by_cases hin : i < n
  ·
   have hsk : ∀ j, j < n - 1 → skip i j < n := fun j hj => skip_lt hin hj
   refine ⟨n - 1, fun j => (r (skip i j)).I, fun j => (r (skip i j)).K, fun j => wq r (skip i j), 0, ⟨by omega, fun j hj => (hw4 _ (hsk j hj)).2⟩, fun _ _ _ hM => (rswithout_v z i hM hok (by omega) hi).mono ?_, fun _ _ _ _ hM e0 e1 e2 e3 => (swithout_v z i hM (e3.2 hok) hok.1 (fun k hk => by rw [e0]; exact hi k hk)).mono ?_⟩
   ·
    rintro e w' (⟨_, A2, c2, rfl, hM2, hb⟩ | ⟨h, _⟩)
    ·
     have hok2 : ∀ k, k < n - 1 → (r (skip i k)).ok := fun k hk => (hok.2 _ (hsk k hk)).2
     exact ⟨A2, c2, _, rfl, clm_nrm hM2 hok2, fun j hj => ⟨rfl, rfl, dg_nrm hM2 hok2 hj⟩, hb⟩
    · omega
   ·
    rintro e w' (⟨_, A2, c2, r3, rfl, hM2, hok3, h3, hb⟩ | ⟨h, _⟩)
    ·
     have hok2 : ∀ k, k < n - 1 → (r3 k).ok := fun k hk => (hok3.2 k hk).2
     refine ⟨A2, c2, _, rfl, clm_nrm hM2 hok2, fun j hj => ?_, hb⟩;obtain ⟨g1, g2, g3⟩ := h3 j hj;refine ⟨g1.trans (e0 _), ?_, ?_⟩
     ·
      show (r3 j).K = _;rw [show (r3 j).K = Kz r3 j from rfl, g3, e2]; rfl
     ·
      show DgW (wq r (skip i j)) _;rw [show wq r (skip i j) = wq r3 j by rw [g2, e1]];exact dg_nrm hM2 hok2 hj
    · omega
  ·
   refine ⟨0, fun _ => 0, fun _ => 0, fun _ => 0, 6, ⟨by omega, fun _ h => absurd h (Nat.not_lt_zero _)⟩, fun _ _ _ hM => (rswithout_v z i hM hok (by omega) hi).mono ?_, fun _ _ _ _ hM e0 e1 e2 e3 => (swithout_v z i hM (e3.2 hok) hok.1 (fun k hk => by rw [e0]; exact hi k hk)).mono ?_⟩
   ·
    rintro e w' (⟨h, _⟩ | ⟨_, rfl, hb⟩)
    · omega
    · exact ⟨none, 0, r, rfl, fun h => absurd h (Nat.lt_irrefl 0), fun _ h => absurd h (Nat.not_lt_zero _), hb⟩
   ·
    rintro e w' (⟨h, _⟩ | ⟨_, rfl, hb⟩)
    · omega
    · exact ⟨none, 0, r, rfl, fun h => absurd h (Nat.lt_irrefl 0), fun _ h => absurd h (Nat.not_lt_zero _), hb⟩
 ·
  refine ⟨0, fun _ => 0, fun _ => 0, fun _ => 0, 2, ⟨by omega, fun _ h => absurd h (Nat.not_lt_zero _)⟩, fun _ _ _ hM => (rswithout_bad z hM hok).mono ?_, fun _ _ _ _ hM _ _ _ e3 => (swithout_bad z hM (fun h => hok (e3.1 h))).mono ?_⟩
  ·
   rintro e w' ⟨rfl, hb⟩
   exact ⟨none, 0, r, rfl, fun h => absurd h (Nat.lt_irrefl 0), fun _ h => absurd h (Nat.not_lt_zero _), hb⟩
  ·
   rintro e w' ⟨rfl, hb⟩
   exact ⟨none, 0, r, rfl, fun h => absurd h (Nat.lt_irrefl 0), fun _ h => absurd h (Nat.not_lt_zero _), hb⟩
end
end
section
open Go.RowKit

theorem ltells_v {A : Option Addr} {n c : Nat} {r : Nat → Cl} {w : World} (a z : Int) (hM : ClM A n r w) (hn : n ≤ 100) (hs : ClOK n r → SzR n r) (hl : ∀ k, k < n → (r k).w.n ≤ 300 ∧ (r k).w.m ≤ 300) :
  Calls Tryz.prog 28 #[.int .i64 a, .slice A n c, .int .i64 z] w (fun e w' => e = .returned (.bool true) ∧ Below w.heap.size w w') := by
 have HhM := Lib.hid hM;clear hM;have Hhl := Lib.hid hl;clear hl;have hE := Env.start w
 go_enter Tryz.func28, Tryz.ntmps28
 go_wp2_with fail
 refine (lcopied_v (c := c) (HhM.out.below hE.bel) (by omega) Hhl.out).mono ?_
 rintro e w1 ⟨A1, c1, h, rfl, hM1, hcw, hb⟩
 replace hE := (hE.step hb).clm (cpR_clm hM1);clear hM1 hb;have Hhcw := Lib.hid hcw;clear hcw;go_wp2_with fail
 refine (lplain_v (c := c) (HhM.out.below hE.bel) (by omega)).mono ?_
 rintro e w2 ⟨A2, c2, rfl, hM2, hb⟩
 replace hE := (hE.step hb).clm hM2;clear hM2 hb;obtain ⟨s1, u1, x1, y1, f1, g1, k1, ⟨hx1, hy1⟩, hRL, hSL⟩ := level_both (r := r) a hs;obtain ⟨n2, q2, k2, ⟨hn2, hq2⟩, hRE, hSE⟩ := exact_both a hs HhM.out;obtain ⟨n3, p3, k3, hn3, hRP, hSP⟩ := parts_both (r := r) a hs;obtain ⟨n4, I4, K4, q4, k4, ⟨hn4, hq4⟩, hRW, hSW⟩ := without_both z HhM.out;have HhRL := Lib.hid hRL;clear hRL;have HhSL := Lib.hid hSL;clear hSL;have HhRE := Lib.hid hRE;clear hRE;have HhSE := Lib.hid hSE;clear hSE;have HhRP := Lib.hid hRP;clear hRP;have HhSP := Lib.hid hSP;clear hSP;have HhRW := Lib.hid hRW;clear hRW;have HhSW := Lib.hid hSW;clear hSW;have Hhq2 := Lib.hid hq2;clear hq2;have Hhq4 := Lib.hid hq4;clear hq4;have e1 := cpR_wq Hhcw.out;have e3 := cpR_ok Hhcw.out;have He1 := Lib.hid e1;clear e1;have He3 := Lib.hid e3;clear e3;go_wp2_with fail
 refine (HhSL.out (c := c1) (hE.here.1.2) (He1.out) cpR_Kz He3.out).mono ?_
 rintro e w1 ⟨As, cs, Bs, ds, rfl, hF, hb⟩
 replace hE := (hE.step hb).frd hF;clear hF hb
 go_upto_region 3 with (fail)
 obtain ⟨g2, hg2⟩ : ∃ g2, g2 = w1.heap.size := ⟨_, rfl⟩
 have hlw_g2 : w.heap.size ≤ g2 := by rw [hg2]; exact hE.bel.size
 replace hE := hE.blk 29 #[.bool s1, .slice As x1 cs, .bool u1, .slice Bs y1 ds] (g := g2) hg2.symm;generalize w1.alloc (.cells #[.bool s1, .slice As x1 cs, .bool u1, .slice Bs y1 ds] 29) = W2 at hE ⊢;rw [← hg2];clear hg2;go_wp2_with fail
 refine (HhRL.out (c := c2) (hE.h2)).mono ?_
 rintro e w3 ⟨Ar, cr, Br, dr, rfl, hF, hb⟩
 replace hE := (hE.step hb).frd hF;clear hF hb
 go_upto_region 4 with (fail)
 obtain ⟨g4, hg4⟩ : ∃ g4, g4 = w3.heap.size := ⟨_, rfl⟩
 have hl4_3 : g2 < g4 := by rw [hg4]; exact (hE.here.1.2).lt
 have hlw_g4 : w.heap.size ≤ g4 := by rw [hg4]; exact hE.bel.size
 replace hE := hE.blk 29 #[.bool s1, .slice Ar x1 cr, .bool u1, .slice Br y1 dr] (g := g4) hg4.symm;generalize w3.alloc (.cells #[.bool s1, .slice Ar x1 cr, .bool u1, .slice Br y1 dr] 29) = W4 at hE ⊢;rw [← hg4];clear hg4;go_wp2_with fail
 refine (HhSE.out (c := c1) (hE.h5) (He1.out) cpR_Kz He3.out).mono ?_
 rintro e w5 ⟨ves, hes, rfl, hR, hQ, hb⟩
 replace hE := ((hE.step hb).rwv hR).fqs hQ;clear hR hQ hb;go_wp2_with fail
 refine (HhRE.out (c := c2) (hE.h6)).mono ?_
 rintro e w6 ⟨ver, her, rfl, hR, hQ, hb⟩
 replace hE := ((hE.step hb).rwv hR).fqs hQ;clear hR hQ hb;go_wp2_with fail
 refine (HhSP.out (c := c1) (hE.h9) (He1.out) cpR_Kz He3.out).mono ?_
 rintro e w7 ⟨vps, rfl, hR, hb⟩
 replace hE := (hE.step hb).rwv hR;clear hR hb;go_wp2_with fail
 refine (HhRP.out (c := c2) (hE.h9)).mono ?_
 rintro e w8 ⟨vpr, rfl, hR, hb⟩
 replace hE := (hE.step hb).rwv hR;clear hR hb;go_wp2_with fail
 refine (HhSW.out (c := c1) (hE.h11) cpR_I (He1.out) cpR_Kz He3.out).mono ?_
 rintro e w9 ⟨Aws, cws, rws, rfl, hM4, hdws, hb⟩
 replace hE := (hE.step hb).clm hM4;clear hM4 hb;have Hhdws := Lib.hid hdws;clear hdws;go_wp2_with fail
 refine (HhRW.out (c := c2) (hE.h11)).mono ?_
 rintro e w10 ⟨Awr, cwr, rwr, rfl, hM4, hdwr, hb⟩
 replace hE := (hE.step hb).clm hM4;clear hM4 hb;have Hhdwr := Lib.hid hdwr;clear hdwr;have bk1 : (k1 != k1) = false := bne_self_eq_false k1;have bk2 : (k2 != k2) = false := bne_self_eq_false k2;have bk3 : (k3 != k3) = false := bne_self_eq_false k3;have bk4 : (k4 != k4) = false := bne_self_eq_false k4;obtain ⟨k11, k12, k13, k14⟩ := (hE.h10).c4;obtain ⟨k15, k16, k17, k18⟩ := (hE.h8).c4;go_wp2_with fail
 clear k11 k12 k13 k14 k15 k16 k17 k18;clear bk1 bk2 bk3 bk4;refine hE.br (frsame_t (c := cs) (c2 := cr) (d := ds) (d2 := dr) (hE.h11) (hE.h9) (by omega) (by omega)) ?_;clear hE;intro w19 hE;go_wp2_with fail
 refine hE.br (sameFracs_w (hE.h7) (hE.h5) (hE.h6) (hE.h4) hn2 Hhq2.out) ?_;clear hE;intro w20 hE;go_wp2_with fail
 refine hE.br (sameInts_w (hE.h3) (hE.h2) hn3) ?_;clear hE;intro w21 hE;go_wp2_with fail
 refine (lplain_v (c := cws) (hE.here.1.2) (by omega)).mono ?_
 rintro e w22 ⟨Apw, cpw, rfl, hM2, hb⟩
 replace hE := (hE.step hb).clm hM2;clear hM2 hb;go_wp2_with fail
 refine hE.br (lsame_t (c := cpw) (c2 := cwr) (hE.here.2) (hE.here.1.2) (by omega) (fun j hj => (Hhdws.out j hj).2.2.len (Hhq4.out j hj)) (fun j hj => ⟨(Hhdwr.out j hj).1.trans (Hhdws.out j hj).1.symm, (Hhdwr.out j hj).2.1.trans (Hhdws.out j hj).2.1.symm, (Hhdws.out j hj).2.2.cp (Hhdwr.out j hj).2.2⟩)) ?_;clear hE;intro w23 hE;go_wp2_with fail
 refine (lplain_v (c := c1) (hE.here.1.1.1.1.1.1.1.1.1.1.1.1.1.1.2) (by omega)).mono ?_
 rintro e w24 ⟨Api, cpi, rfl, hM2, hb⟩
 replace hE := (hE.step hb).clm hM2;clear hM2 hb;go_wp2_with fail
 refine hE.br (lsame_t (c := cpi) (c2 := c2) (hE.here.2) (hE.here.1.1.1.1.1.1.1.1.1.1.1.1.1.1.2) (by omega) (fun j hj => by rw [cpR_in hj]; have h1 := Hhcw.out j hj; have h2 := Hhl.out j hj; exact ⟨by show (h j).n ≤ 300; rw [h1.2.1]; exact h2.1, by show (h j).m ≤ 300; rw [h1.2.2.2.2.1]; exact h2.2⟩) (fun j hj => by rw [cpR_in hj]; have h1 := Hhcw.out j hj; exact ⟨rfl, rfl, ⟨h1.1.symm, h1.2.1.symm, h1.2.2.1.symm, h1.2.2.2.1.symm, h1.2.2.2.2.1.symm, h1.2.2.2.2.2.symm⟩⟩)) ?_;clear hE;intro w25 hE;go_wp2_with fail
 refine (svalid_any A1 n c1 _ _ (hE.here.1.1.1.1.1.1.1.1.1.1.1.1.1.1.1.2)).mono ?_
 rintro e w91 ⟨v1, rfl, hv1, hb⟩
 replace hE := hE.step hb;clear hb;have Hhv1 := Lib.hid hv1;clear hv1;go_wp2_with fail
 refine (rsvalid_v (c := c2) (hE.here.1.1.1.1.1.1.1.1.1.1.1.1.1.1.2)).mono ?_
 rintro e w92 ⟨v2, rfl, hv2, hb⟩
 replace hE := hE.step hb;clear hb
 obtain rfl : v1 = v2 := by rw [Bool.eq_iff_iff, Hhv1.out, hv2]; exact He3.out
 clear hv2;have bv : (v1 == v1) = true := beq_self_eq_true v1;go_wp2_with fail
 go_ret
 exact ⟨rfl, hE.bel⟩
end
section
open Go.RowKit

def kS (N j : Nat) : Nat := N / 4 * (j + 2)
def qS (N j : Nat) : Rat := Rat.divInt ((kS N j % 3 : Nat) : Int) ((1 + kS N j / 3 % 3 : Nat) : Int)
def KS (N j : Nat) : Int := ((kS N j / 9 % 5 : Nat) : Int)
theorem qS_fl (N j : Nat) : fl (qS N j) ≤ 4 := by
 unfold qS;refine fl_div (by omega) ?_ ?_
 · rw [Int.natAbs_natCast]; exact (ln_le b16_two).2 (Nat.lt_of_lt_of_le (Nat.mod_lt _ (by decide)) (by decide))
 · rw [Int.natAbs_natCast]; exact (ln_le b16_two).2 (Nat.lt_of_lt_of_le (show 1 + kS N j / 3 % 3 < 5 by omega) (by decide))
theorem built_len {n : Nat} {I K : Nat → Int} {h : Nat → FH} {q : Nat → Rat} {W : World} (hq : FqS h n q W) (hl : ∀ j, j < n → fl (q j) ≤ 4) : ∀ k, k < n → (clB I K h q k).w.n ≤ 300 ∧ (clB I K h q k).w.m ≤ 300 := fun k hk => by
 have h1 := (hq k hk).ln (hl k hk);exact ⟨Nat.le_trans h1.1 (by decide), Nat.le_trans h1.2 (by decide)⟩
theorem clm_builtC {b0 n : Nat} {v : Value} {I K : Nat → Int} {h : Nat → FH} {q : Nat → Rat} {W : World} (hR : RwV 46 6 b0 v n (clR I K h) W) (hq : FqS h n q W) : ∃ A c, v = .slice A n c ∧ ClM A n (clB I K h q) W ∧ n ≤ c := by
 obtain ⟨A, c, e, hM⟩ := clm_built hR hq;refine ⟨A, c, e, hM, ?_⟩
 rcases hR with ⟨rfl, rfl⟩ | ⟨g, cap, rfl, -, hB⟩
 · exact Nat.zero_le _
 · cases e; exact hB.1
theorem ClM.less {A : Option Addr} {n m : Nat} {r : Nat → Cl} {W : World} (h : ClM A n r W) (hm : m ≤ n) : ClM A m r W := fun h0 => by
 obtain ⟨b, o, e, hb, hc⟩ := h (by omega);exact ⟨b, o, e, hb, fun k hk => hc k (by omega)⟩
theorem DW_one {w : Nat → Rat} : ∀ {n : Nat}, (∀ k, k < n → (w k).den = 1) → DW w n = 1
 | 0, _ => rfl
 | n + 1, h => by
  unfold DW;rw [DW_one (n := n) (fun k hk => h k (by omega)), h n (Nat.lt_succ_self n)]
theorem szd_one {w : Nat → Rat} {n : Nat} (h : ∀ k, k < n → (w k).den = 1) : Szd n w := by
 unfold Szd;rw [DW_one h];exact Nat.pos_of_ne_zero (by decide)
theorem clm_two {g : Nat} {x y : Cl} {W : World} (hB : Blk 46 g #[.int .i64 x.I, .bool x.w.s, .slice x.w.A x.w.n x.w.c, .bool x.w.t, .slice x.w.B x.w.m x.w.d, .int .i64 x.K, .int .i64 y.I, .bool y.w.s, .slice y.w.A y.w.n y.w.c, .bool y.w.t, .slice y.w.B y.w.m y.w.d, .int .i64 y.K] W) (hx : x.w.rd W) (hy : y.w.rd W) : ClM (some ⟨g, 0, none⟩) 2 (clS3 x y y) W := fun _ => by
 refine ⟨g, 0, rfl, hB.lt, fun k hk => ?_⟩
 rcases (show k = 0 ∨ k = 1 by omega) with rfl | rfl
 · exact ⟨⟨hB.cell 0, hB.cell 1, hB.cell 2, hB.cell 3, hB.cell 4, hB.cell 5⟩, hx⟩
 · exact ⟨⟨hB.cell 6, hB.cell 7, hB.cell 8, hB.cell 9, hB.cell 10, hB.cell 11⟩, hy⟩
theorem svsmall_walk (w : World) :
  Calls Tryz.prog 7 #[] w (fun e w' => e = .returned (.bool true) ∧ Below w.heap.size w w') := by
 have hE := Env.start w
 go_enter Tryz.func7, Tryz.ntmps7
 go_wp2_with fail
 go_loopw [1] (fun x wr => ∃ N : Nat, N ≤ 324 ∧ x = .int .i64 (N : Int) ∧ Env w (fun V => True) wr) (fun x _ => 324 - (intOf x).toNat)
 case atStart => exact ⟨0, Nat.zero_le _, rfl, hE⟩
 case round =>
  clear hE;obtain ⟨N, hN, rfl, hE⟩ := hrel
  by_cases hlt : N < 324
  rotate_left
  ·
   have t1 : decide ((N : Int) < 324) = false := decide_eq_false (by omega);go_wp2_with fail
   clear t1
   go_loopw [7] (fun x wr => ∃ d : Int, -1 ≤ d ∧ d ≤ 2 ∧ x = .int .i64 d ∧ Env w (fun V => True) wr) (fun x _ => (2 - intOf x).toNat)
   case atStart => exact ⟨-1, by decide, by decide, rfl, Env.again hE.bel⟩
   case round =>
    clear hE;obtain ⟨d, hd1, hd2, rfl, hE⟩ := hrel
    by_cases hd : d ≤ 1
    rotate_left
    ·
     obtain rfl : d = 2 := by omega
     go_wp2_with fail
     go_loopw [8, 9] (fun s x wr => ∃ (k : Nat) (v : Value) (h : Nat → FH), k ≤ 33 ∧ v = s ∧ x = .int .i64 (k : Int) ∧ Env w (fun V => ((True ∧ RwV 46 6 w.heap.size v k (clR (fun j => (j : Int)) (fun _ => 3) h) V) ∧ FqS h k (fun _ => ((1 : Int) : Rat)) V)) wr) (fun _ x _ => 33 - (intOf x).toNat)
     case atStart => exact ⟨0, .slice none 0 0, fun _ => zFH, Nat.zero_le _, rfl, rfl, ((Env.again hE.bel).rwv (.inl ⟨rfl, rfl⟩)).fqs (fun j hj => absurd hj (Nat.not_lt_zero j))⟩
     case round =>
      clear hE;obtain ⟨k, v, h, hk, rfl, rfl, hE⟩ := hrel
      by_cases hk3 : k < 33
      rotate_left
      ·
       obtain rfl : k = 33 := by omega
       obtain ⟨A, c, rfl, hM, hcap⟩ := clm_builtC (hE.here.1.2) (hE.here.2)
       have hc32 : ((32 : Nat) : Int) ≤ (c : Int) := by omega
       have hc3 : (32 : Int) ≤ (c : Int) := by omega
       have hc33 : 32 ≤ c := by omega
       have hc4 : ¬ (c : Int) < 32 := by omega
       have hl := built_len (I := (fun j => (j : Int))) (K := (fun _ => 3)) (hE.here.2) (fun j _ => (show fl ((1 : Int) : Rat) ≤ 4 by rw [fl_le]; decide +kernel))
       have hd1 : ∀ k, k < 33 → wq (clB (fun j => (j : Int)) (fun _ => 3) h (fun _ => ((1 : Int) : Rat))) k = ((1 : Int) : Rat) := fun k hk => wq_built (hE.here.2) hk
       replace hE := (Env.again hE.bel).clm hM;clear hM;have Hhl := Lib.hid hl;clear hl;have Hhd1 := Lib.hid hd1;clear hd1;go_wp2_with fail
       refine hE.br (ltells_v (c := c) 50 7 (hE.here.2) (by decide) (fun hok => absurd hok.1 (by decide)) Hhl.out) ?_;clear hE;intro w1 hE;go_wp2_with fail
       refine hE.br (ltells_v (c := c) 50 7 ((hE.here.2).less (by decide)) (by decide) (fun _ => ⟨szd_one (fun k hk => by rw [Hhd1.out k (by omega)]; rfl), .inr (fun j hj => ⟨(Hhd1.out j (by omega)).trans (Hhd1.out 0 (by decide)).symm, rfl⟩)⟩) (fun k hk => Hhl.out k (by omega))) ?_;clear hE;intro w2 hE;go_wp2_with fail
       refine hE.br (awake_v _) ?_;clear hE;intro w3 hE;go_wp2_with fail
       go_ret
       exact ⟨rfl, hE.bel⟩
      have t1 : decide ((k : Int) < 33) = true := decide_eq_true (by omega);go_wp2_with fail
      refine hE.fr (rffromInt_v 1 _ (by decide) (by decide)) ?_;clear hE;intro s8 A8 n8 c8 t8 B8 m8 d8 w4 hE;have hbA := belAlloc w4 (.cells #[.int .i64 (k : Int), .bool s8, .slice A8 n8 c8, .bool t8, .slice B8 m8 d8, .int .i64 3] 46);have hBn := Blk.new w4 46 #[.int .i64 (k : Int), .bool s8, .slice A8 n8 c8, .bool t8, .slice B8 m8 d8, .int .i64 3];have hE2 := hE.step hbA;obtain ⟨v2, wz, hr, hR2, hgw⟩ := push_claim 22 (hE2.here.1.1.2) hE2.bel.size (⟨s8, A8, n8, c8, fun _ => 0, t8, B8, m8, d8, fun _ => 0⟩ : FH) (show Blk 46 _ (clL ((fun j => (j : Int)) k) ((fun _ => 3) k) (⟨s8, A8, n8, c8, fun _ => 0, t8, B8, m8, d8, fun _ => 0⟩ : FH)).toArray _ from (by exact hBn)) (by omega);have hE3 := ((Env.again (Go.Proofs.YtjgihmmeimfheaaGreat.Below.grownR hE2.bel (hE2.here.1.1.2) hgw (Nat.le_refl _) hE2.bel.size)).rwv hR2).fqs ((FqS.grownR (hE2.here.1.2) (hE2.here.1.1.2) hgw).push (x := (⟨s8, A8, n8, c8, fun _ => 0, t8, B8, m8, d8, fun _ => 0⟩ : FH)) (FV.grownR (hE2.here.2) (hE2.here.1.1.2) hgw));have HF := Lib.hid hE3;clear hbA hBn hE2 hR2 hgw hE3;go_wp2_with (first | refine wpList_appP hr rfl rfl rfl rfl ?_)
      have hE3 := HF.out
      go_roundw
      case rel => exact ⟨k + 1, v2, _, by omega, rfl, by go_num, hE3⟩
      case measure => simp [intOf]; omega
    have t1 : decide (d ≤ 1) = true := decide_eq_true hd
    have o1 : IntKind.i64.wrap (1099511627776 + d) = 1099511627776 + d := by rw [IntKind.wrap_i64]; omega
    have o2 : IntKind.i64.wrap (d + 1) = d + 1 := by rw [IntKind.wrap_i64]; omega
    go_wp2_with fail
    refine (three_v _).mono ?_
    rintro e w1 ⟨g3, r3, rfl, hM3, hok3, -, hb⟩
    replace hE := (hE.step hb).clm hM3;clear hb hM3;have Hhok3 := Lib.hid hok3;clear hok3;go_wp2_with fail
    refine hE.br (ltells_v (c := 3) (1099511627776 + d) 5 (hE.here.2) (by decide) (fun h => SzR.ten (by decide) h (hE.here.2)) (fun k hk => by have h1 := (Hhok3.out.2 k hk).2.2.1; exact ⟨Nat.le_trans h1.1 (by decide), Nat.le_trans h1.2 (by decide)⟩)) ?_;clear hE;intro w5 hE;go_wp2_with fail
    refine hE.fr (rquick_v 1 3 _ (by decide) (by decide) (by decide) (by decide) (by decide)) ?_;clear hE;intro s8 A8 n8 c8 t8 B8 m8 d8 w6 hE;go_wp2_with fail
    refine hE.fr (rquick_v 2 7 _ (by decide) (by decide) (by decide) (by decide) (by decide)) ?_;clear hE;intro s9 A9 n9 c9 t9 B9 m9 d9 w7 hE;go_wp2_with fail
    obtain ⟨g8, hg8⟩ : ∃ g8, g8 = w7.heap.size := ⟨_, rfl⟩
    have hlw_g8 : w.heap.size ≤ g8 := by rw [hg8]; exact hE.bel.size
    replace hE := hE.blk 46 #[.int .i64 0, .bool s8, .slice A8 n8 c8, .bool t8, .slice B8 m8 d8, .int .i64 1099511627776, .int .i64 1, .bool s9, .slice A9 n9 c9, .bool t9, .slice B9 m9 d9, .int .i64 (1099511627776 + d)] (g := g8) hg8.symm;generalize w7.alloc (.cells #[.int .i64 0, .bool s8, .slice A8 n8 c8, .bool t8, .slice B8 m8 d8, .int .i64 1099511627776, .int .i64 1, .bool s9, .slice A9 n9 c9, .bool t9, .slice B9 m9 d9, .int .i64 (1099511627776 + d)] 46) = W8 at hE ⊢;rw [← hg8];clear hg8;have hM2 := clm_two (x := ⟨0, FHof (Rat.divInt 1 3) s8 A8 n8 c8 t8 B8 m8 d8, 1099511627776⟩) (y := ⟨1, FHof (Rat.divInt 2 7) s9 A9 n9 c9 t9 B9 m9 d9, 1099511627776 + d⟩) (hE.here.2) (FHof.rd_of (hE.h2)) (FHof.rd_of (hE.here.1.2))
    have hfa : fl (Rat.divInt 1 3) ≤ 4 := by rw [fl_le]; decide +kernel
    have hfb : fl (Rat.divInt 2 7) ≤ 4 := by rw [fl_le]; decide +kernel
    have hla := (hE.h2).ln hfa;have hlb := (hE.here.1.2).ln hfb;have Hhla := Lib.hid hla;clear hla;have Hhlb := Lib.hid hlb;clear hlb;refine hE.br (ltells_v (c := 2) (1099511627776 + d) 0 hM2 (by decide) (fun h => SzR.ten (by decide) h hM2) (fun k hk => by have h1 := Hhla.out; have h2 := Hhlb.out; rcases (show k = 0 ∨ k = 1 by omega) with rfl | rfl; exact ⟨Nat.le_trans h1.1 (by decide), Nat.le_trans h1.2 (by decide)⟩; exact ⟨Nat.le_trans h2.1 (by decide), Nat.le_trans h2.2 (by decide)⟩)) ?_;clear hE;intro w9 hE;clear hM2;go_wp2_with fail
    go_roundw
    case rel => exact ⟨d + 1, by omega, by omega, rfl, Env.again hE.bel⟩
    case measure => simp [intOf]; omega
  have t1 : decide ((N : Int) < 324) = true := decide_eq_true (by omega)
  have t0 : (N : Int) < 324 := by omega
  go_wp2_with fail
  clear t1
  go_loopw [2, 3, 4] (fun s x y wr => ∃ (i : Nat) (v : Value) (h : Nat → FH), i ≤ 1 + N % 4 ∧ v = s ∧ x = .int .i64 (i : Int) ∧ Env w (fun V => ((True ∧ RwV 46 6 w.heap.size v i (clR (fun j => (j : Int)) (KS N) h) V) ∧ FqS h i (qS N) V)) wr) (fun _ x _ _ => 1 + N % 4 - (intOf x).toNat)
  case atStart => exact ⟨0, .slice none 0 0, fun _ => zFH, Nat.zero_le _, rfl, rfl, (hE.rwv (.inl ⟨rfl, rfl⟩)).fqs (fun j hj => absurd hj (Nat.not_lt_zero j))⟩
  case round =>
   clear hE;obtain ⟨i, v, h, hi, rfl, rfl, hE⟩ := hrel
   obtain ⟨M, hM⟩ : ∃ M, M = 1 + N % 4 := ⟨_, rfl⟩
   rw [← hM] at hi ⊢
   have hM4 : M ≤ 4 := by omega
   by_cases hiM : i < M
   rotate_left
   ·
    obtain rfl : i = M := by omega
    have t1 : decide ((i : Int) < 1 + (N : Int) % 4) = false := decide_eq_false (by omega);obtain ⟨A, c, rfl, hcM⟩ := clm_built (hE.here.1.2) (hE.here.2);have hl := built_len (I := (fun j => (j : Int))) (K := (KS N)) (hE.here.2) (fun j _ => qS_fl N j);replace hE := (Env.again hE.bel).clm hcM;clear hcM;have Hhl := Lib.hid hl;clear hl;have HhM := Lib.hid hM;clear hM;go_wp2_with fail
    go_loopw [5] (fun x wr => ∃ a : Int, -1 ≤ a ∧ a ≤ 14 ∧ x = .int .i64 a ∧ Env w (fun V => (True ∧ ClM A i (clB (fun j => (j : Int)) (KS N) h (qS N)) V)) wr) (fun x _ => (14 - intOf x).toNat)
    case atStart => exact ⟨-1, by decide, by decide, rfl, hE⟩
    case round =>
     clear hE;obtain ⟨a, ha1, ha2, rfl, hE⟩ := hrel
     by_cases hal : a < 14
     rotate_left
     ·
      obtain rfl : a = 14 := by omega
      go_wp2_with fail
      go_roundw
      case rel => exact ⟨N + 1, by omega, by go_num, Env.again hE.bel⟩
      case measure => simp [intOf]; omega
     have t2 : decide (a < 14) = true := decide_eq_true hal
     have o1 : IntKind.i64.wrap (a + 1) = a + 1 := by rw [IntKind.wrap_i64]; omega
     go_wp2_with fail
     refine hE.br (ltells_v (c := c) a a (hE.here.2) (by omega) (fun hok => SzR.ten (by omega) hok (hE.here.2)) Hhl.out) ?_;clear hE;intro w10 hE;go_wp2_with fail
     go_roundw
     case rel => exact ⟨a + 1, by omega, by omega, rfl, ((Env.again hE.bel).clm (hE.here.2))⟩
     case measure => simp [intOf]; omega
   have t1 : decide ((i : Int) < 1 + (N : Int) % 4) = true := decide_eq_true (by omega)
   obtain ⟨D, hD⟩ : ∃ D, D = N / 4 := ⟨_, rfl⟩
   have hDb : D ≤ 81 := by omega
   have p3 : (N : Int) / 4 = (D : Int) := by omega
   obtain ⟨k, hk⟩ : ∃ k, k = kS N i := ⟨_, rfl⟩
   have hkD : k = D * (i + 2) := by rw [hk, hD]; rfl
   have hkb : k ≤ 486 := by rw [hkD]; exact Nat.le_trans (Nat.mul_le_mul hDb (show i + 2 ≤ 6 by omega)) (by decide)
   have p5 : IntKind.i64.wrap ((D : Int) * ((i : Int) + 2)) = (k : Int) := by rw [show (D : Int) * ((i : Int) + 2) = (k : Int) by rw [hkD]; norm_cast, IntKind.wrap_i64]; omega
   have HhM := Lib.hid hM;clear hM;have HhD := Lib.hid hD;clear hD;have Hhk := Lib.hid hk;clear hk;have HhkD := Lib.hid hkD;clear hkD;go_wp2_with fail
   refine hE.fr (rquick_v ((k : Int) % 3) (1 + (k : Int) / 3 % 3) _ (by omega) (by omega) (by omega) (by omega) (by omega)) ?_;clear hE;intro s8 A8 n8 c8 t8 B8 m8 d8 w11 hE
   have hqv : Rat.divInt ((k : Int) % 3) (1 + (k : Int) / 3 % 3) = qS N i := by unfold qS; rw [← Hhk.out]; congr 1
   have hKv : (k : Int) / 9 % 5 = KS N i := by unfold KS; rw [← Hhk.out]; omega
   have Hhqv := Lib.hid hqv;clear hqv;have HhKv := Lib.hid hKv;clear hKv;have hbA := belAlloc w11 (.cells #[.int .i64 (i : Int), .bool s8, .slice A8 n8 c8, .bool t8, .slice B8 m8 d8, .int .i64 ((k : Int) / 9 % 5)] 46);have hBn := Blk.new w11 46 #[.int .i64 (i : Int), .bool s8, .slice A8 n8 c8, .bool t8, .slice B8 m8 d8, .int .i64 ((k : Int) / 9 % 5)];have hE2 := hE.step hbA;obtain ⟨v2, wz, hr, hR2, hgw⟩ := push_claim 22 (hE2.here.1.1.2) hE2.bel.size (⟨s8, A8, n8, c8, fun _ => 0, t8, B8, m8, d8, fun _ => 0⟩ : FH) (show Blk 46 _ (clL ((fun j => (j : Int)) i) ((KS N) i) (⟨s8, A8, n8, c8, fun _ => 0, t8, B8, m8, d8, fun _ => 0⟩ : FH)).toArray _ from (by rw [← HhKv.out]; exact hBn)) (by omega);have hE3 := ((Env.again (Go.Proofs.YtjgihmmeimfheaaGreat.Below.grownR hE2.bel (hE2.here.1.1.2) hgw (Nat.le_refl _) hE2.bel.size)).rwv hR2).fqs ((FqS.grownR (hE2.here.1.2) (hE2.here.1.1.2) hgw).push (x := (⟨s8, A8, n8, c8, fun _ => 0, t8, B8, m8, d8, fun _ => 0⟩ : FH)) (FV.grownR ((hE2.here.2).to Hhqv.out) (hE2.here.1.1.2) hgw));have HF := Lib.hid hE3;clear hbA hBn hE2 hR2 hgw hE3;go_wp2_with (first | refine wpList_appP hr rfl rfl rfl rfl ?_)
   have hE3 := HF.out
   go_roundw
   case rel => exact ⟨i + 1, v2, _, by omega, rfl, by go_num, hE3⟩
   case measure => simp [intOf]; omega
end
end Go.Proofs.YtjgihmmeimfheaaGreat
