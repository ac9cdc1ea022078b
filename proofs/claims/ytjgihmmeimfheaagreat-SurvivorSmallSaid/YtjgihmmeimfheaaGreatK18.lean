/-
  Several texts in one: The walk of survivor.byLimit. The walk of survivor.level.
-/
import Derived.Test.YtjgihmmeimfheaaGreatK8
import Derived.Test.YtjgihmmeimfheaaGreatK16
import Derived.Test.YtjgihmmeimfheaaGreatK15
import Derived.Test.YtjgihmmeimfheaaGreatK3
import Derived.Test.YtjgihmmeimfheaaGreatK12
set_option linter.unusedSimpArgs false
set_option maxRecDepth 100000
set_option maxHeartbeats 8000000
namespace Go.Proofs.YtjgihmmeimfheaaGreat
section
open Go.RowKit

def EqK (n : Nat) (r : Nat → Cl) : Prop := n ≤ 19 ∨ ∀ j, j < n → wq r j = wq r 0 ∧ Kz r j = Kz r 0
structure SzR (n : Nat) (r : Nat → Cl) : Prop where
 d : Szd n (wq r)
 q : EqK n r
theorem SzR.ten {n : Nat} {r : Nat → Cl} {A : Option Addr} {W : World} (hn : n ≤ 10) (hok : ClOK n r) (hM : ClM A n r W) : SzR n r := ⟨szd_ten hn (hok.w hM), .inl (by omega)⟩
theorem SzR.cp {n : Nat} {r r2 : Nat → Cl} (h : SzR n r) (e1 : wq r2 = wq r) (e2 : Kz r2 = Kz r) : SzR n r2 := ⟨by rw [e1]; exact h.d, by unfold EqK; rw [e1, e2]; exact h.q⟩
theorem eqk_keys {n N : Nat} {r : Nat → Cl} (h : EqK n r) (hn : n ≤ 32) (hN : N = (idx (wq r) n).length) : N ≤ 19 ∨ (N ≤ 39 ∧ ∀ i, i < N → key (wq r) (Kz r) n i = key (wq r) (Kz r) n 0) := by
 have hl := idx_len (wq r) n
 rcases h with h | h
 · exact .inl (by omega)
 ·
  refine .inr ⟨by omega, fun i hi => ?_⟩
  have hm : ∀ j, j < N → (idx (wq r) n).getD j 0 < n := fun j hj => (idx_mem.1 (show (idx (wq r) n).getD j 0 ∈ idx (wq r) n by rw [List.getD_eq_getElem?_getD, List.getElem?_eq_getElem (by omega)]; exact List.getElem_mem _)).1
  obtain ⟨a1, a2⟩ := h _ (hm i hi);obtain ⟨b1, b2⟩ := h _ (hm 0 (by omega));unfold key;rw [a1, a2, b1, b2]
theorem wpList_appP {P : Program} {w w' : World} {ops : Array Oper} {rest : List Oper} {o : Oper} {a : Act} {Q : Exit → Act → World → Prop} {s x : Operand} {t : TypeId} {v1 v2 v' : Value} (hr : (Builtin.append_ #[t, t] o.type #[v1, v2]).run P w = .ok v' w') (hg : o.guard = none) (ho : o.op = .call { callee := .builtin .append, args := #[s, x], argTypes := #[t, t] }) (hs : a.eval s = v1) (hx : a.eval x = v2)
  (h : wpList P ops Q rest (a.put o.dst v') w') : wpList P ops Q (o :: rest) a w :=
 wpList_plain hg fun _ hK => app_step ho hs hx hr (hK _ _ h)
def ixElem : Elem 71 76 11 := ⟨Tryz.underlying71, .agg #[.int .i64 0, .bool false, .slice none 0 0, .bool false, .slice none 0 0, .int .i64 0, .int .i64 0, .bool false, .slice none 0 0, .bool false, .slice none 0 0], 152, by kernel_rfl, rfl, by decide, fun v hv => by
 simp only [Value.cells, List.mem_toArray, List.mem_cons, List.not_mem_nil, or_false] at hv
 rcases hv with rfl | rfl | rfl | rfl | rfl | rfl | rfl | rfl | rfl | rfl | rfl <;> rfl, by decide⟩
def ixE (r : Nat → Cl) (n : Nat) (j : Nat) : List Value := ixC (r ((idx (wq r) n).getD j 0)) (((idx (wq r) n).getD j 0 : Nat) : Int) zFH
theorem ixE_ok (r : Nat → Cl) (n N : Nat) : IxE N (ixE r n) := fun _ _ => ⟨rfl, ixC_ok _ _ _⟩
theorem push_same {e : Nat → List Value} {n : Nat} {x : List Value} (h : e n = x) : ∀ k, updE e n x k = e k := fun k => by
 unfold updE
 split
 · rename_i h1; rw [h1, h]
 · rfl
theorem sins_nil (A : Option Addr) (c : Nat) (f : Value) (w : World) : Calls Tryz.prog 143 #[.slice A 0 c, .int .i64 0, .int .i64 0, f] w (fun e w' => (∃ v, e = .returned v) ∧ w' = w) := by
 go_enter Tryz.func143, Tryz.ntmps143
 go_wp2_with fail
 go_loopw [8] (fun x wr => x = .int .i64 1 ∧ wr = w) (fun _ _ => 0)
 case atStart => exact ⟨rfl, rfl⟩
 case round =>
  obtain ⟨rfl, rfl⟩ := hrel;go_wp2_with fail
  go_end0
  exact ⟨⟨_, rfl⟩, rfl⟩
theorem sstab_nil (A : Option Addr) (c : Nat) (f : Value) (w : World) : Calls Tryz.prog 119 #[.slice A 0 c, .int .i64 0, f] w (fun e w' => (∃ v, e = .returned v) ∧ w' = w) := by
 go_enter Tryz.func119, Tryz.ntmps119
 go_wp2_with fail
 go_loopw [7, 8] (fun x y wr => x = .int .i64 0 ∧ y = .int .i64 20 ∧ wr = w) (fun _ _ _ => 0)
 case atStart => exact ⟨rfl, rfl, rfl⟩
 case round =>
  obtain ⟨rfl, rfl, rfl⟩ := hrel;go_wp2_with fail
  refine (sins_nil A c f _).mono ?_
  rintro e w1 ⟨⟨v, rfl⟩, rfl⟩
  go_wp2_with fail
  go_loopw [6] (fun x wr => x = .int .i64 20 ∧ wr = w1) (fun _ _ => 0)
  case atStart => exact ⟨rfl, rfl⟩
  case round =>
   obtain ⟨rfl, rfl⟩ := hrel;go_wp2_with fail
   go_end0
   exact ⟨⟨_, rfl⟩, rfl⟩
theorem ssort_nil (A : Option Addr) (c : Nat) (f : Value) (w : World) : Calls Tryz.prog 81 #[.slice A 0 c, f] w (fun e w' => (∃ v, e = .returned v) ∧ w' = w) := by
 go_enter Tryz.func81, Tryz.ntmps81
 go_wp2_with fail
 refine (sstab_nil A c f _).mono ?_
 rintro e w1 ⟨⟨v, rfl⟩, rfl⟩
 go_wp2_with fail
 go_end0
 exact ⟨⟨_, rfl⟩, rfl⟩
def ByP (r : Nat → Cl) (n : Nat) (w : World) (e : Ending) (w' : World) : Prop := ∃ v p, e = .returned v ∧ Srd (idx (wq r) n).length (key (wq r) (Kz r) n) (idx (wq r) n).length p ∧ RwV 76 11 w.heap.size v (idx (wq r) n).length (fun j => ixE r n (p j)) w' ∧ Below w.heap.size w w'
theorem sby_v {A : Option Addr} {n c : Nat} {r : Nat → Cl} {w : World} (hM : ClM A n r w) (hok : ClOK n r) (hn : n ≤ 32) (hq : EqK n r) :
  Calls Tryz.prog 71 #[.slice A n c] w (ByP r n w) := by
 have hE := Env.start w;have hw4 := hok.w hM;have Hhok := Lib.hid hok;clear hok;have HhM := Lib.hid hM;clear hM;have Hhw4 := Lib.hid hw4;clear hw4;have Hhq := Lib.hid hq;clear hq
 go_enter Tryz.func71, Tryz.ntmps71
 go_wp2_with fail
 go_loopw [3, 8] (fun v x wr => ∃ k : Nat, k ≤ n ∧ x = .int .i64 (k : Int) ∧ Env w (fun V => (True ∧ RwV 76 11 w.heap.size v (idx (wq r) k).length (ixE r n) V)) wr) (fun _ x _ => n - (intOf x).toNat)
 case atStart => exact ⟨0, Nat.zero_le _, rfl, hE.rwv (.inl ⟨rfl, rfl⟩)⟩
 case round =>
  clear hE;obtain ⟨k, hk, rfl, hE⟩ := hrel
  by_cases hlt : k < n
  rotate_left
  ·
   obtain rfl : k = n := by omega
   have t1 : decide ((k : Int) < (k : Int)) = false := decide_eq_false (by omega);have hlen := idx_len (wq r) k
   rcases hE.here.2 with ⟨rfl, h0⟩ | ⟨g, cap, rfl, hg, hR⟩
   ·
    go_wp2_with fail
    refine (ssort_nil none 0 _ _).mono ?_
    rintro e w1 ⟨⟨v, rfl⟩, rfl⟩
    go_wp2_with fail
    go_ret
    exact ⟨_, fun j => j, rfl, by rw [h0]; exact (Srd.start 0 _).full (Nat.zero_le 1), .inl ⟨rfl, h0⟩, hE.bel⟩
   obtain ⟨N, hN⟩ : ∃ N, N = (idx (wq r) k).length := ⟨_, rfl⟩
   have HR := Lib.hid hR;rw [← hN] at hR hlen;have HN := Lib.hid hN
   have hcmp : ∀ V, Kept wr g V → CmpK 111 N (ixE r k) (key (wq r) (Kz r) k) V := fun V hV a b ha hb => by
    have hbV : Below w.heap.size w V := Below.grownB hE.bel hV hE.bel.size hg;have ma := idx_mem.1 (show (idx (wq r) k).getD a 0 ∈ idx (wq r) k by rw [List.getD_eq_getElem?_getD, List.getElem?_eq_getElem (by rw [← HN.out]; exact ha)]; exact List.getElem_mem _);have mb := idx_mem.1 (show (idx (wq r) k).getD b 0 ∈ idx (wq r) k by rw [List.getD_eq_getElem?_getD, List.getElem?_eq_getElem (by rw [← HN.out]; exact hb)]; exact List.getElem_mem _)
    obtain ⟨ia, hia⟩ : ∃ i, i = (idx (wq r) k).getD a 0 := ⟨_, rfl⟩
    obtain ⟨ib, hib⟩ : ∃ i, i = (idx (wq r) k).getD b 0 := ⟨_, rfl⟩
    have ea : key (wq r) (Kz r) k a = ((Kz r ia : Int) : Rat) / wq r ia := by rw [hia]; rfl
    have eb : key (wq r) (Kz r) k b = ((Kz r ib : Int) : Rat) / wq r ib := by rw [hib]; rfl
    have xa : ixE r k a = ixC (r ia) ((ia : Nat) : Int) zFH := by rw [hia]; rfl
    have xb : ixE r k b = ixC (r ib) ((ib : Nat) : Int) zFH := by rw [hib]; rfl
    rw [← hia] at ma;rw [← hib] at mb;rw [ea, eb, xa, xb];obtain ⟨bk, ok, ek, -, hc⟩ := (HhM.out.below hbV) (by omega);have fa := Cl.fv (Hhok.out.2 ia ma.1).2 (hc ia ma.1).2;have fb := Cl.fv (Hhok.out.2 ib mb.1).2 (hc ib mb.1).2
    have pa : 0 < wq r ia := by have := (Hhw4.out ia ma.1).1; have := ma.2; grind
    have pb : 0 < wq r ib := by have := (Hhw4.out ib mb.1).1; have := mb.2; grind
    refine (sless_v (i := ((ia : Nat) : Int)) (j := ((ib : Nat) : Int)) (l := zFH) (m := zFH) fa.1 fb.1 fa.2.2 fb.2.2 (Hhok.out.K ia ma.1) (Hhok.out.K ib mb.1)).mono ?_
    rintro e V' ⟨rfl, hb2⟩
    refine ⟨_, rfl, ?_, hb2⟩;rw [← key_lt pa pb, cmpQ_val]
    split
    · rename_i h; exact ⟨fun _ => h, fun _ => by decide⟩
    · rename_i h; refine ⟨fun h2 => absurd h2 (by split <;> decide), fun h2 => absurd h2 h⟩
   have hC := ssort2_v (w := w) (cap := cap) (gf := 111) hE.bel hg hR (ixE_ok r k N) (by omega) (enters_of Tryz.func111 (by kernel_rfl) rfl) hcmp (eqk_keys Hhq.out (by omega) HN.out);have HC := Lib.hid hC;clear hC hcmp hR;rw [← hN];clear hN;go_wp2_with fail
   refine HC.out.mono ?_
   rintro e w1 ⟨⟨v, rfl⟩, p, hp, hR2, hK⟩
   have HQ := Lib.hid (And.intro hp (And.intro hR2 hK));clear hp hR2 hK;go_wp2_with fail
   go_ret
   obtain ⟨hp, hR2, hK⟩ := HQ.out;exact ⟨.slice (some ⟨g, 0, none⟩) N cap, p, rfl, by rw [← HN.out]; exact hp, .inr ⟨g, cap, by rw [← HN.out], hg, by rw [← HN.out]; exact hR2⟩, Below.grownB hE.bel hK hE.bel.size hg⟩
  obtain ⟨b, o, rfl, hb, hc⟩ := (HhM.out.below hE.bel) (by omega)
  obtain ⟨x, hx⟩ : ∃ x, x = r k := ⟨_, rfl⟩
  obtain ⟨⟨d0, d1, d2, d3, d4, d5⟩, hrd⟩ := hc k hlt;rw [← hx] at d0 d1 d2 d3 d4 d5 hrd
  have hxok : x.ok := by rw [hx]; exact (Hhok.out.2 k hlt).2
  have hfv := (Cl.fv hxok hrd).1
  have hwx : wq r k = x.w.q := by rw [hx]; rfl
  have t1 : decide ((k : Int) < (n : Int)) = true := decide_eq_true (by omega)
  have t2 : (k : Int) < (n : Int) := by omega
  have hE := hE.fv hfv;clear hfv hrd hc hxok;have Hhx := Lib.hid hx;clear hx;have Hhwx := Lib.hid hwx;clear hwx
  go_upto_region 5 with (fail)
  clear d0 d1 d2 d3 d4 d5 t1
  obtain ⟨g1, hg1⟩ : ∃ g1, g1 = wr.heap.size := ⟨_, rfl⟩
  replace hE := hE.blk 46 #[.int .i64 x.I, .bool x.w.s, .slice x.w.A x.w.n x.w.c, .bool x.w.t, .slice x.w.B x.w.m x.w.d, .int .i64 x.K] (g := g1) hg1.symm;generalize wr.alloc (.cells #[.int .i64 x.I, .bool x.w.s, .slice x.w.A x.w.n x.w.c, .bool x.w.t, .slice x.w.B x.w.m x.w.d, .int .i64 x.K] 46) = W1 at hE ⊢;rw [← hg1];clear hg1;have k2 := (hE.here.2).cell 0;have k3 := (hE.here.2).cell 1;have k4 := (hE.here.2).cell 2;have k5 := (hE.here.2).cell 3;have k6 := (hE.here.2).cell 4;have k7 := (hE.here.2).cell 5;go_wp2_with fail
  refine (szero_v (ca := x.w.c) (da := x.w.d) (hE.here.1.2)).mono ?_
  rintro e w9 ⟨vz, rfl, hv, hb9⟩
  replace hE := hE.step hb9;clear hb9;clear k2 k3 k4 k5 k6 k7;have HV := Lib.hid hv;clear hv
  cases vz with
  | true =>
   go_wp2_with fail
   go_roundw
   case rel =>
    have h1 : idx (wq r) (k + 1) = idx (wq r) k := by rw [idx_succ, Hhwx.out, if_pos (Rat.num_eq_zero.1 (HV.out.1 (by simp))), List.append_nil]
    exact ⟨k + 1, by omega, by go_num, (Env.again hE.bel).rwv (by rw [h1]; exact hE.h2)⟩
   case measure => simp [intOf]; omega
  | false =>
   have hwn : wq r k ≠ 0 := fun h => by rw [Hhwx.out] at h; exact Bool.false_ne_true (HV.out.2 (Rat.num_eq_zero.2 h))
   obtain ⟨hl1, hl2⟩ := idx_pre (wq r) hlt hwn
   have hxE : ixE r n (idx (wq r) k).length = ixC x (k : Int) zFH := by unfold ixE; rw [hl2, ← Hhx.out]
   have hl3 : idx (wq r) (k + 1) = idx (wq r) k ++ [k] := by rw [idx_succ, if_neg hwn]
   have hlk := idx_len (wq r) k;have hbA := belAlloc w9 (.cells #[.int .i64 x.I, .bool x.w.s, .slice x.w.A x.w.n x.w.c, .bool x.w.t, .slice x.w.B x.w.m x.w.d, .int .i64 x.K, .int .i64 (k : Int), .bool false, .slice none 0 0, .bool false, .slice none 0 0] 76);have hva := RwV.stable _ _ _ _ _ _ _ _ hbA (hE.h2);have hBn := Blk.new w9 76 #[.int .i64 x.I, .bool x.w.s, .slice x.w.A x.w.n x.w.c, .bool x.w.t, .slice x.w.B x.w.m x.w.d, .int .i64 x.K, .int .i64 (k : Int), .bool false, .slice none 0 0, .bool false, .slice none 0 0]
   obtain ⟨g, cap, w8, hr, hg0, hR, hgr⟩ := append_rw ixElem 71 hva (Nat.le_trans hE.bel.size hbA.size) ⟨w9.heap.size, 0, none⟩ 1 (ixC x (k : Int) zFH) rfl (fun u hu => (ixC_ok _ _ _ u hu).1) (fun u hu => (ixC_ok _ _ _ u hu).2) (fun j u hu => by
    rw [Addr.add_mid, Nat.zero_add, hBn.cell, List.getElem?_toArray]; exact hu) (by omega)
   have hbel8 := Go.Proofs.YtjgihmmeimfheaaGreat.Below.grownR (hE.bel.trans (hbA.mono hE.bel.size)) hva hgr (Nat.le_refl _) (Nat.le_trans hE.bel.size hbA.size);replace hR := Rw.congr hR (fun k _ => push_same hxE k);have HF := Lib.hid (And.intro hbel8 (And.intro hR (And.intro hg0 (And.intro hl1 (And.intro hl3 hxE)))));clear hbA hva hBn hgr hbel8 hR hg0 hl1 hl2 hl3 hxE hwn;have k8 := (hE.here.2).cell 0;have k9 := (hE.here.2).cell 1;have k10 := (hE.here.2).cell 2;have k11 := (hE.here.2).cell 3;have k12 := (hE.here.2).cell 4;have k13 := (hE.here.2).cell 5;go_wp2_with (first | refine wpList_appP hr rfl rfl rfl rfl ?_)
   clear k8 k9 k10 k11 k12 k13;obtain ⟨hbel8, hR, hg0, hl1, hl3, -⟩ := HF.out
   go_roundw
   case rel =>
    refine ⟨k + 1, by omega, by go_num, (Env.again hbel8).rwv (.inr ⟨g, cap, ?_, hg0, ?_⟩)⟩
    · rw [hl3]; simp
    · rw [hl3, List.length_append]; exact hR
   case measure => simp [intOf]; omega
end
section
open Go.RowKit

def RwS (T : TypeId) (m b0 : Nat) (A : Option Addr) (n : Nat) (e : Nat → List Value) (W : World) : Prop := 0 < n → ∃ g cap, A = some ⟨g, 0, none⟩ ∧ b0 ≤ g ∧ Rw T m g n cap e W
theorem RwS.stable (T : TypeId) (m b0 : Nat) (A : Option Addr) (n : Nat) (e : Nat → List Value) : Stable (RwS T m b0 A n e) := fun _ _ hb h h0 => by
 obtain ⟨g, cap, e1, hg, hR⟩ := h h0;exact ⟨g, cap, e1, hg, Rw.stable _ _ _ _ _ _ _ _ hb hR⟩
theorem RwV.toS {T : TypeId} {m b0 n : Nat} {v : Value} {e : Nat → List Value} {W : World} (h : RwV T m b0 v n e W) : ∃ A c, v = .slice A n c ∧ RwS T m b0 A n e W := by
 rcases h with ⟨rfl, rfl⟩ | ⟨g, cap, rfl, hg, hR⟩
 · exact ⟨none, 0, rfl, fun h0 => absurd h0 (Nat.lt_irrefl 0)⟩
 · exact ⟨_, _, rfl, fun _ => ⟨g, cap, rfl, hg, hR⟩⟩
theorem Env.rws {w W : World} {P : World → Prop} {T : TypeId} {m b0 n : Nat} {A : Option Addr} {e : Nat → List Value} (hE : Env w P W) (h : RwS T m b0 A n e W) : Env w (fun V => P V ∧ RwS T m b0 A n e V) W := hE.and (RwS.stable _ _ _ _ _ _) h
theorem RwS.st4 {T : TypeId} {m b0 n : Nat} {A : Option Addr} {e : Nat → List Value} {W : World} (h : RwS T m b0 A n e W) {t : TypeId} {k : Nat} {ds : Array Value} (hB : Blk t k ds W) (ht : T ≠ t) (a b c d : Value) : RwS T m b0 A n e ((((W.setCell ⟨k, 0, none⟩ a).setCell ⟨k, 1, none⟩ b).setCell ⟨k, 2, none⟩ c).setCell ⟨k, 3, none⟩ d) := fun h0 => by
 obtain ⟨g, cap, e1, hg, hR⟩ := h h0;exact ⟨g, cap, e1, hg, hR.grownB (sets_grown [a, b, c, d] 0 W ⟨ds, hB, rfl⟩).1 (hR.ne hB ht)⟩
def wT (r : Nat → Cl) (M : List Nat) (i : Nat) : Rat := SW (prs (wq r) (Kz r) (M.take i))
def wD (r : Nat → Cl) (M : List Nat) (i : Nat) : Rat := SW (prs (wq r) (Kz r) (M.drop i))
theorem srts_getD {w : Nat → Rat} {n : Nat} {p : Nat → Nat} {j : Nat} (hj : j < (idx w n).length) : (srts w n p).getD j 0 = srt w n p j := by
 unfold srts;rw [List.getD_eq_getElem?_getD, List.getElem?_map, List.getElem?_range hj];rfl
theorem srts_mem {w : Nat → Rat} {n : Nat} {p : Nat → Nat} (h : Bij (idx w n).length p) {k : Nat} (hk : k ∈ srts w n p) : k < n ∧ w k ≠ 0 := by
 obtain ⟨j, hj, rfl⟩ := List.mem_map.1 hk;exact srt_mem h (List.mem_range.1 hj)
theorem FV.to {W : World} {q q' : Rat} {s t : Bool} {A B : Option Addr} {n m : Nat} (h : FV W q s A n t B m) (e : q = q') : FV W q' s A n t B m := e ▸ h
def LevP (a : Int) (r : Nat → Cl) (n : Nat) (w : World) (e : Ending) (w' : World) : Prop := ∃ t, Lv (prs (wq r) (Kz r) (List.range n)) ((totZ a (wq r) (Kz r) n : Int) : Rat) t ∧ fl t ≤ 48 ∧ FR t w e w'
theorem slevel_v {A : Option Addr} {n c : Nat} {r : Nat → Cl} {w : World} (a : Int) (ha : 0 ≤ a ∧ a ≤ 1099511627776) (hM : ClM A n r w) (hok : ClOK n r) (hn : n ≤ 32) (hD : SzR n r) :
  Calls Tryz.prog 40 #[.int .i64 a, .slice A n c] w (LevP a r n w) := by
 have hw4 := hok.w hM;have hK := hok.K;have Hhok := Lib.hid hok;clear hok;have HhM := Lib.hid hM;clear hM;have htz := totZ_b (a := a) (w := wq r) (K := Kz r) (n := n) ha.1 (fun k hk => (hK k hk).1);have hE := Env.start w;have hE := hE.blk 29 #[.bool false, .slice none 0 0, .bool false, .slice none 0 0] (g := w.heap.size) rfl
 obtain ⟨W0, hW0⟩ : ∃ W0, W0 = (w.alloc (.cells #[.bool false, .slice none 0 0, .bool false, .slice none 0 0] 29)) := ⟨_, rfl⟩
 rw [← hW0] at hE;have HW0 := Lib.hid hW0;clear hW0
 go_enter Tryz.func40, Tryz.ntmps40
 go_upto_region 1 with (fail)
 rw [← HW0.out];go_wp2_with fail
 refine (sby_v (HhM.out.below hE.bel) Hhok.out hn hD.q).mono ?_
 rintro e w1 ⟨v, p, rfl, hp, hv, hb⟩
 replace hE := hE.step hb;obtain ⟨A1, c1, rfl, hS0⟩ := hv.toS;clear hv
 obtain ⟨N, hN⟩ : ∃ N, N = (idx (wq r) n).length := ⟨_, rfl⟩
 have hN10 : N ≤ 32 := by rw [hN]; exact Nat.le_trans (idx_len _ _) hn
 have hlev := lev_srts (T := ((totZ a (wq r) (Kz r) n : Int) : Rat)) (fun k hk => ⟨(hw4 k hk).1, (hK k hk).1⟩) hp (int_nonneg htz.1) htz.2.2
 have hMm : ∀ k, k ∈ srts (wq r) n p → k < n ∧ 0 < wq r k := fun k hk => by
  have h1 := srts_mem hp.1 hk; have h2 := (hw4 k h1.1).1; have h3 := h1.2; exact ⟨h1.1, by grind⟩
 have hMl : (srts (wq r) n p).length = N := by rw [srts_len, hN]
 have hMg : ∀ j, j < N → (srts (wq r) n p).getD j 0 = srt (wq r) n p j := fun j hj => srts_getD (by rw [← hN]; exact hj)
 rw [← hN] at hS0 ⊢
 obtain ⟨M, hMe⟩ : ∃ M, M = srts (wq r) n p := ⟨_, rfl⟩
 rw [← hMe] at hlev hMm hMl hMg
 obtain ⟨t0, ht0⟩ : ∃ t, t = lev ((totZ a (wq r) (Kz r) n : Int) : Rat) (SW (prs (wq r) (Kz r) M)) (prs (wq r) (Kz r) M) := ⟨_, rfl⟩
 rw [← ht0] at hlev
 have hfT : ∀ i, fl (wT r M i) ≤ 45 := fun i => fl_sw hD.d hw4 (fun k hk => (hMm k (List.mem_of_mem_take hk)).1) (by rw [List.length_take]; omega)
 have hfD : ∀ i, fl (wD r M i) ≤ 45 := fun i => fl_sw hD.d hw4 (fun k hk => (hMm k (List.mem_of_mem_drop hk)).1) (by rw [List.length_drop]; omega)
 have hgi : ∀ j, j < N → M.getD j 0 < n ∧ 0 < wq r (M.getD j 0) := fun j hj => hMm _ (by rw [List.getD_eq_getElem?_getD, List.getElem?_eq_getElem (by omega)]; exact List.getElem_mem _)
 have h0T : ((0 : Int) : Rat) = wT r M 0 := rfl
 have hsT : ∀ i, i < N → wT r M i + wq r (M.getD i 0) = wT r M (i + 1) := fun i hi => SW_take (by omega)
 have hsD : ∀ i, i < N → wD r M i - wq r (M.getD i 0) = wD r M (i + 1) := fun i hi => SW_drop (by omega)
 have hpD : ∀ i, i < N → 0 < wD r M i := fun i hi => SW_drop_pos (fun k hk => (hMm k hk).2) (by omega)
 have hTD : wT r M N = wD r M 0 := by unfold wT wD; rw [← hMl, List.take_length]; rfl
 have hlc : ∀ (i : Nat) (L W : Rat), i < N → lev L W (prs (wq r) (Kz r) (M.drop i)) = if L / W * wq r (M.getD i 0) ≤ ((Kz r (M.getD i 0) : Int) : Rat) then L / W else lev (L - ((Kz r (M.getD i 0) : Int) : Rat)) (W - wq r (M.getD i 0)) (prs (wq r) (Kz r) (M.drop (i + 1))) := fun i L W hi => lev_cons (by omega) L W
 have hl0 : t0 = lev ((totZ a (wq r) (Kz r) n : Int) : Rat) (wD r M 0) (prs (wq r) (Kz r) (M.drop 0)) := ht0
 have hend : ∀ (L W : Rat), lev L W (prs (wq r) (Kz r) (M.drop N)) = 0 := fun L W => by rw [← hMl, List.drop_length]; rfl
 have hxE : ∀ j, j < N → ixE r n (p j) = ixC (r (M.getD j 0)) ((M.getD j 0 : Nat) : Int) zFH := fun j hj => by rw [hMg j hj]; rfl
 have Hhw4 := Lib.hid hw4;clear hw4;have HhK := Lib.hid hK;clear hK;have Hhtz := Lib.hid htz;clear htz;have Hhlev := Lib.hid hlev;clear hlev;have HhMm := Lib.hid hMm;clear hMm;have HhMl := Lib.hid hMl;clear hMl;have HhMg := Lib.hid hMg;clear hMg;have Hht0 := Lib.hid ht0;clear ht0;have HhMe := Lib.hid hMe;clear hMe;have HhfT := Lib.hid hfT;clear hfT;have HhfD := Lib.hid hfD;clear hfD;have Hhgi := Lib.hid hgi;clear hgi;have HhsT := Lib.hid hsT;clear hsT;have HhsD := Lib.hid hsD;clear hsD;have HhpD := Lib.hid hpD;clear hpD;have HhTD := Lib.hid hTD;clear hTD;have Hhlc := Lib.hid hlc;clear hlc;have Hhl0 := Lib.hid hl0;clear hl0;have Hhend := Lib.hid hend;clear hend;have HhxE := Lib.hid hxE;clear hxE;have HhN := Lib.hid hN;clear hN;have Hhp := Lib.hid hp;clear hp;clear hb;have hE := hE.rws hS0;clear hS0;go_wp2_with fail
 have hc := ffromInt_v 0 w1 (by decide) (by decide);rw [h0T] at hc;refine hE.fr (hc) ?_;clear hE;intro sz Az nz cz tz Bz mz dz w1 hE;clear hc
 go_upto_region 3 with (fail)
 obtain ⟨g2, hg2⟩ : ∃ g2, g2 = w1.heap.size := ⟨_, rfl⟩
 have hl2_0 : w.heap.size < g2 := by rw [hg2]; exact (hE.h2).lt
 replace hE := hE.blk 29 #[.bool sz, .slice Az nz cz, .bool tz, .slice Bz mz dz] (g := g2) hg2.symm;generalize w1.alloc (.cells #[.bool sz, .slice Az nz cz, .bool tz, .slice Bz mz dz] 29) = W2 at hE ⊢;rw [← hg2];clear hg2;go_wp2_with fail
 go_loopw [21] (fun x wr => ∃ (i : Nat) (sz : Bool) (Az : Option Addr) (nz cz : Nat) (tz : Bool) (Bz : Option Addr) (mz dz : Nat), i ≤ N ∧ x = .int .i64 (i : Int) ∧ Env w (fun V => ((((True ∧ Blk 29 (w.heap.size) #[.bool false, .slice none 0 0, .bool false, .slice none 0 0] V) ∧ RwS 76 11 W0.heap.size A1 N (fun j => ixE r n (p j)) V) ∧ FV V (wT r M i) sz Az nz tz Bz mz) ∧ Blk 29 (g2) #[.bool sz, .slice Az nz cz, .bool tz, .slice Bz mz dz] V)) wr) (fun x _ => N - (intOf x).toNat)
 case atStart => exact ⟨0, sz, Az, nz, cz, tz, Bz, mz, dz, Nat.zero_le _, rfl, (((((Env.again hE.bel).blkI (hE.h3)).rws (hE.h2)).fv (hE.here.1.2)).blkI (hE.here.2))⟩
 case round =>
  clear hE;obtain ⟨i, sz, Az, nz, cz, tz, Bz, mz, dz, hi, rfl, hE⟩ := hrel
  by_cases hlt : i < N
  ·
   obtain ⟨g, cap, rfl, -, hR⟩ := (hE.h2) (by omega);have hgl := hR.lt
   obtain ⟨j, hj⟩ : ∃ j, j = M.getD i 0 := ⟨_, rfl⟩
   obtain ⟨x, hx⟩ : ∃ x, x = r j := ⟨_, rfl⟩
   have hxe : ixE r n (p i) = ixC x (j : Int) zFH := by rw [hx, hj]; exact HhxE.out i hlt
   have d0 : wr.cell? _ = some (.int .i64 x.I) := hR.cell (k := i) (i := 0) (o := i * 11) hlt (by decide) rfl (by show (ixE r n (p i))[0]? = _; rw [hxe]; rfl);have d1 : wr.cell? _ = some (.bool x.w.s) := hR.cell (k := i) (i := 1) (o := i * 11 + 1) hlt (by decide) rfl (by show (ixE r n (p i))[1]? = _; rw [hxe]; rfl);have d2 : wr.cell? _ = some (.slice x.w.A x.w.n x.w.c) := hR.cell (k := i) (i := 2) (o := i * 11 + 2) hlt (by decide) rfl (by show (ixE r n (p i))[2]? = _; rw [hxe]; rfl);have d3 : wr.cell? _ = some (.bool x.w.t) := hR.cell (k := i) (i := 3) (o := i * 11 + 3) hlt (by decide) rfl (by show (ixE r n (p i))[3]? = _; rw [hxe]; rfl);have d4 : wr.cell? _ = some (.slice x.w.B x.w.m x.w.d) := hR.cell (k := i) (i := 4) (o := i * 11 + 4) hlt (by decide) rfl (by show (ixE r n (p i))[4]? = _; rw [hxe]; rfl);have d5 : wr.cell? _ = some (.int .i64 x.K) := hR.cell (k := i) (i := 5) (o := i * 11 + 5) hlt (by decide) rfl (by show (ixE r n (p i))[5]? = _; rw [hxe]; rfl);have d6 : wr.cell? _ = some (.int .i64 (j : Int)) := hR.cell (k := i) (i := 6) (o := i * 11 + 6) hlt (by decide) rfl (by show (ixE r n (p i))[6]? = _; rw [hxe]; rfl);have d7 : wr.cell? _ = some (.bool false) := hR.cell (k := i) (i := 7) (o := i * 11 + 7) hlt (by decide) rfl (by show (ixE r n (p i))[7]? = _; rw [hxe]; rfl);have d8 : wr.cell? _ = some (.slice none 0 0) := hR.cell (k := i) (i := 8) (o := i * 11 + 8) hlt (by decide) rfl (by show (ixE r n (p i))[8]? = _; rw [hxe]; rfl);have d9 : wr.cell? _ = some (.bool false) := hR.cell (k := i) (i := 9) (o := i * 11 + 9) hlt (by decide) rfl (by show (ixE r n (p i))[9]? = _; rw [hxe]; rfl);have d10 : wr.cell? _ = some (.slice none 0 0) := hR.cell (k := i) (i := 10) (o := i * 11 + 10) hlt (by decide) rfl (by show (ixE r n (p i))[10]? = _; rw [hxe]; rfl);obtain ⟨hjn, hjp⟩ := Hhgi.out i hlt;rw [← hj] at hjn hjp
   have hwx : wq r j = x.w.q := by rw [hx]; rfl
   have hKx : Kz r j = x.K := by rw [hx]; rfl
   obtain ⟨bq, oq, eq_, -, hcc⟩ := (HhM.out.below hE.bel) (show 0 < n by omega);have hfv := (Cl.fv (Hhok.out.2 j hjn).2 (hcc j hjn).2);rw [← hx] at hfv;have hKb := HhK.out j hjn;rw [hKx] at hKb;have hf4 := hfv.2.2;rw [hwx] at hjp;have t1 : decide ((i : Int) < (N : Int)) = true := decide_eq_true (by omega)
   have t2 : (i : Int) < (N : Int) := by omega
   have hE := hE.fv hfv.1;clear hfv hxe hR hcc eq_;have Hhj := Lib.hid hj;clear hj;have Hhx := Lib.hid hx;clear hx;have Hhwx := Lib.hid hwx;clear hwx;have HhKx := Lib.hid hKx;clear hKx
   go_upto_region 6 with (fail)
   clear t1 d0 d1 d2 d3 d4 d5 d6 d7 d8 d9 d10
   obtain ⟨g3, hg3⟩ : ∃ g3, g3 = wr.heap.size := ⟨_, rfl⟩
   have hl3_0 : w.heap.size < g3 := by rw [hg3]; exact (hE.h4).lt
   have hl3_3 : g2 < g3 := by rw [hg3]; exact (hE.here.1.2).lt
   replace hE := hE.blk 76 #[.int .i64 x.I, .bool x.w.s, .slice x.w.A x.w.n x.w.c, .bool x.w.t, .slice x.w.B x.w.m x.w.d, .int .i64 x.K, .int .i64 (j : Int), .bool false, .slice none 0 0, .bool false, .slice none 0 0] (g := g3) hg3.symm;generalize wr.alloc (.cells #[.int .i64 x.I, .bool x.w.s, .slice x.w.A x.w.n x.w.c, .bool x.w.t, .slice x.w.B x.w.m x.w.d, .int .i64 x.K, .int .i64 (j : Int), .bool false, .slice none 0 0, .bool false, .slice none 0 0] 76) = W3 at hE ⊢;rw [← hg3];clear hg3;obtain ⟨k4, k5, k6, k7⟩ := (hE.h2).c4;have k8 := (hE.here.2).cell 0;have k9 := (hE.here.2).cell 1;have k10 := (hE.here.2).cell 2;have k11 := (hE.here.2).cell 3;have k12 := (hE.here.2).cell 4;have k13 := (hE.here.2).cell 5;have k14 := (hE.here.2).cell 6;have k15 := (hE.here.2).cell 7;have k16 := (hE.here.2).cell 8;have k17 := (hE.here.2).cell 9;have k18 := (hE.here.2).cell 10;go_wp2_with fail
   have hst := HhsT.out i hlt;rw [← Hhj.out, Hhwx.out] at hst;have hc := fadd_v (ca := cz) (da := dz) (cb := x.w.c) (db := x.w.d) (hE.h3) (hE.here.1.2) (fl_le2 (HhfT.out i) (by decide)) (fl_le2 hf4 (by decide)) (by rw [hst]; exact fl_le2 (HhfT.out (i + 1)) (by decide));rw [hst] at hc;clear hst;refine hE.fr (hc) ?_;clear hE k4 k5 k6 k7 k8 k9 k10 k11 k12 k13 k14 k15 k16 k17 k18;intro sy Ay ny cy ty By my dy w19 hE;clear hc
   have hgl20 : w.heap.size ≤ g2 := by omega
   obtain ⟨x20_0, x20_1, x20_2, x20_3⟩ := (hE.h3).c4;obtain ⟨f20_0, f20_1, f20_2, f20_3⟩ := hE.h3.f4;replace hE := ((((((((Env.again (bel4 hE.bel hgl20 (.bool sy) (.slice Ay ny cy) (.bool ty) (.slice By my dy))).blkI ((hE.h6).far4 (by omega) _ _ _ _)).rws ((hE.h5).st4 (hE.h3) (by decide) _ _ _ _)).fv ((hE.h4).sep4 hE.h3 rfl _ _ _ _ rfl rfl rfl)).blkI ((hE.h3).s4 _ _ _ _)).fv ((hE.h2).sep4 hE.h3 rfl _ _ _ _ rfl rfl rfl)).blkI ((hE.here.1.2).far4 (by omega) _ _ _ _)).fv ((hE.here.2).sep4 hE.h3 rfl _ _ _ _ rfl rfl rfl));go_wp2_with fail
   clear x20_0 x20_1 x20_2 x20_3 f20_0 f20_1 f20_2 f20_3 hgl20;generalize ((((w19.setCell ⟨g2, 0, none⟩ (.bool sy)).setCell ⟨g2, 1, none⟩ (.slice Ay ny cy)).setCell ⟨g2, 2, none⟩ (.bool ty)).setCell ⟨g2, 3, none⟩ (.slice By my dy)) = W20 at hE ⊢
   go_roundw
   case rel => exact ⟨i + 1, sy, Ay, ny, cy, ty, By, my, dy, by omega, by go_num, (((((Env.again hE.bel).blkI (hE.h6)).rws (hE.h5)).fv (hE.here.2)).blkI (hE.h3))⟩
   case measure => simp [intOf]; omega
  obtain rfl : i = N := by omega
  have t1 : decide ((i : Int) < (i : Int)) = false := decide_eq_false (by omega);go_wp2_with fail
  clear t1;refine hE.br (stotal_v a (HhM.out.below hE.bel) Hhok.out hn) ?_;clear hE;intro w5 hE;go_wp2_with fail
  have hfz := hE.here.1.2;rw [HhTD.out] at hfz
  go_loopw [9, 39] (fun lf x wr => ∃ (k : Nat) (L : Int) (sz : Bool) (Az : Option Addr) (nz cz : Nat) (tz : Bool) (Bz : Option Addr) (mz dz : Nat), k ≤ i ∧ lf = .int .i64 L ∧ x = .int .i64 (k : Int) ∧ (-(k : Int) * 1099511627776 ≤ L ∧ L ≤ 1099511627776) ∧ Hid (t0 = lev ((L : Int) : Rat) (wD r M k) (prs (wq r) (Kz r) (M.drop k))) ∧ Env w (fun V => ((((True ∧ Blk 29 (w.heap.size) #[.bool false, .slice none 0 0, .bool false, .slice none 0 0] V) ∧ RwS 76 11 W0.heap.size A1 i (fun j => ixE r n (p j)) V) ∧ FV V (wD r M k) sz Az nz tz Bz mz) ∧ Blk 29 (g2) #[.bool sz, .slice Az nz cz, .bool tz, .slice Bz mz dz] V)) wr) (fun _ x _ => i - (intOf x).toNat)
  case atStart =>
   exact ⟨0, _, sz, Az, nz, cz, tz, Bz, mz, dz, Nat.zero_le _, rfl, rfl, by have := Hhtz.out; omega, Lib.hid Hhl0.out, ((((Env.again hE.bel).blkI hE.h3).rws hE.h2).fv hfz).blkI hE.here.2⟩
  case round =>
   clear hE hfz;obtain ⟨k, L, sz, Az, nz, cz, tz, Bz, mz, dz, hk, rfl, rfl, hL, HLV, hE⟩ := hrel
   obtain ⟨N, hNi⟩ : ∃ N, N = i := ⟨_, rfl⟩
   by_cases hlt : k < i
   ·
    obtain ⟨g, cap, rfl, -, hR⟩ := (hE.h2) (by omega)
    obtain ⟨j, hj⟩ : ∃ j, j = M.getD k 0 := ⟨_, rfl⟩
    obtain ⟨x, hx⟩ : ∃ x, x = r j := ⟨_, rfl⟩
    have hxe : ixE r n (p k) = ixC x (j : Int) zFH := by rw [hx, hj]; exact HhxE.out k hlt
    have d0 : wr.cell? _ = some (.int .i64 x.I) := hR.cell (k := k) (i := 0) (o := k * 11) hlt (by decide) rfl (by show (ixE r n (p k))[0]? = _; rw [hxe]; rfl);have d1 : wr.cell? _ = some (.bool x.w.s) := hR.cell (k := k) (i := 1) (o := k * 11 + 1) hlt (by decide) rfl (by show (ixE r n (p k))[1]? = _; rw [hxe]; rfl);have d2 : wr.cell? _ = some (.slice x.w.A x.w.n x.w.c) := hR.cell (k := k) (i := 2) (o := k * 11 + 2) hlt (by decide) rfl (by show (ixE r n (p k))[2]? = _; rw [hxe]; rfl);have d3 : wr.cell? _ = some (.bool x.w.t) := hR.cell (k := k) (i := 3) (o := k * 11 + 3) hlt (by decide) rfl (by show (ixE r n (p k))[3]? = _; rw [hxe]; rfl);have d4 : wr.cell? _ = some (.slice x.w.B x.w.m x.w.d) := hR.cell (k := k) (i := 4) (o := k * 11 + 4) hlt (by decide) rfl (by show (ixE r n (p k))[4]? = _; rw [hxe]; rfl);have d5 : wr.cell? _ = some (.int .i64 x.K) := hR.cell (k := k) (i := 5) (o := k * 11 + 5) hlt (by decide) rfl (by show (ixE r n (p k))[5]? = _; rw [hxe]; rfl);have d6 : wr.cell? _ = some (.int .i64 (j : Int)) := hR.cell (k := k) (i := 6) (o := k * 11 + 6) hlt (by decide) rfl (by show (ixE r n (p k))[6]? = _; rw [hxe]; rfl);have d7 : wr.cell? _ = some (.bool false) := hR.cell (k := k) (i := 7) (o := k * 11 + 7) hlt (by decide) rfl (by show (ixE r n (p k))[7]? = _; rw [hxe]; rfl);have d8 : wr.cell? _ = some (.slice none 0 0) := hR.cell (k := k) (i := 8) (o := k * 11 + 8) hlt (by decide) rfl (by show (ixE r n (p k))[8]? = _; rw [hxe]; rfl);have d9 : wr.cell? _ = some (.bool false) := hR.cell (k := k) (i := 9) (o := k * 11 + 9) hlt (by decide) rfl (by show (ixE r n (p k))[9]? = _; rw [hxe]; rfl);have d10 : wr.cell? _ = some (.slice none 0 0) := hR.cell (k := k) (i := 10) (o := k * 11 + 10) hlt (by decide) rfl (by show (ixE r n (p k))[10]? = _; rw [hxe]; rfl);obtain ⟨hjn, hjp⟩ := Hhgi.out k hlt;rw [← hj] at hjn hjp
    have hwx : wq r j = x.w.q := by rw [hx]; rfl
    have hKx : Kz r j = x.K := by rw [hx]; rfl
    obtain ⟨bq, oq, eq_, -, hcc⟩ := (HhM.out.below hE.bel) (show 0 < n by omega);have hfv := (Cl.fv (Hhok.out.2 j hjn).2 (hcc j hjn).2);rw [← hx] at hfv;have hKb := HhK.out j hjn;rw [hKx] at hKb;have hf4 := hfv.2.2;rw [hwx] at hjp;have t1 : decide ((k : Int) < (i : Int)) = true := decide_eq_true (by omega)
    have t2 : (k : Int) < (i : Int) := by omega
    have hE := hE.fv hfv.1;clear hfv hxe hR hcc eq_;have Hhj := Lib.hid hj;clear hj;have Hhx := Lib.hid hx;clear hx;have Hhwx := Lib.hid hwx;clear hwx;have HhKx := Lib.hid hKx;clear hKx
    go_upto_region 12 with (fail)
    clear t1 d0 d1 d2 d3 d4 d5 d6 d7 d8 d9 d10
    obtain ⟨g21, hg21⟩ : ∃ g21, g21 = wr.heap.size := ⟨_, rfl⟩
    have hl21_0 : w.heap.size < g21 := by rw [hg21]; exact (hE.h4).lt
    have hl21_3 : g2 < g21 := by rw [hg21]; exact (hE.here.1.2).lt
    replace hE := hE.blk 76 #[.int .i64 x.I, .bool x.w.s, .slice x.w.A x.w.n x.w.c, .bool x.w.t, .slice x.w.B x.w.m x.w.d, .int .i64 x.K, .int .i64 (j : Int), .bool false, .slice none 0 0, .bool false, .slice none 0 0] (g := g21) hg21.symm;generalize wr.alloc (.cells #[.int .i64 x.I, .bool x.w.s, .slice x.w.A x.w.n x.w.c, .bool x.w.t, .slice x.w.B x.w.m x.w.d, .int .i64 x.K, .int .i64 (j : Int), .bool false, .slice none 0 0, .bool false, .slice none 0 0] 76) = W21 at hE ⊢;rw [← hg21];clear hg21;have hwp := HhpD.out k hlt
    have hwn : (wD r M k).num ≠ 0 := fun h => by have := Rat.num_eq_zero.1 h; rw [this] at hwp; exact absurd hwp (by decide)
    have hfL : fl ((L : Int) : Rat) ≤ 3 := fl_int3 (by omega) (by omega);have hft : fl (((L : Int) : Rat) / wD r M k) ≤ 48 := fl_over hfL (HhfD.out k) hwn;have hfp : fl (((L : Int) : Rat) / wD r M k * x.w.q) ≤ 52 := fl_times hft hf4;have hfK : fl ((x.K : Int) : Rat) ≤ 3 := fl_int3 (by omega) (by omega);have Hhwp := Lib.hid hwp;clear hwp
    go_cut [12, 13] from 43 to 50 (fun p0 p1 wx => ∃ G12 sq Aq nq cq tq Bq mq dq, p0 = .pointer (some ⟨G12, 0, none⟩) ∧ p1 = .int .i64 0 ∧ (w.heap.size < G12 ∧ g2 < G12 ∧ g21 < G12) ∧ Env w (fun V => ((((((((True ∧ Blk 29 (w.heap.size) #[.bool false, .slice none 0 0, .bool false, .slice none 0 0] V) ∧ RwS 76 11 W0.heap.size (some ⟨g, 0, none⟩) i (fun j => ixE r n (p j)) V) ∧ FV V (wD r M k) sz Az nz tz Bz mz) ∧ Blk 29 (g2) #[.bool sz, .slice Az nz cz, .bool tz, .slice Bz mz dz] V) ∧ FV V x.w.q x.w.s x.w.A x.w.n x.w.t x.w.B x.w.m) ∧ Blk 76 (g21) #[.int .i64 x.I, .bool x.w.s, .slice x.w.A x.w.n x.w.c, .bool x.w.t, .slice x.w.B x.w.m x.w.d, .int .i64 x.K, .int .i64 (j : Int), .bool false, .slice none 0 0, .bool false, .slice none 0 0] V) ∧ FV V (((L : Int) : Rat) / wD r M k) sq Aq nq tq Bq mq) ∧ Blk 29 (G12) #[.bool sq, .slice Aq nq cq, .bool tq, .slice Bq mq dq] V)) wx)
    case first =>
     replace hE := hE.drew;refine wp_region_held_drew (S := fun V => Blk 29 (g2) #[.bool sz, .slice Az nz cz, .bool tz, .slice Bz mz dz] V) (by kernel_rfl) (hE.h2) (fun hHeld => ?_)
     generalize W21.drew = wd at *
     refine tk 0 ?_
     refine tk 2 ?_ (hy := by
      intro w hSw;have kc0 := (hSw).cell 0;have kc1 := (hSw).cell 1;have kc2 := (hSw).cell 2;have kc3 := (hSw).cell 3;clear hSw
      first | (go_simp; done) | (go_simp; with_reducible rfl))
     try simp only [PL]
     refine wpAnyH_ready (rs := [1, 7]) (by kernel_rfl) (by simp) (AllReadyH.cons rfl (fun K hK => ?_) (AllReadyH.cons rfl (fun K hK => ?_) (AllReadyH.nil)))
     ·
      go_simp;refine hE.fr (ffromInt_v L _ (by omega) (by omega)) ?_;clear hE;intro sl Al nl cl tl Bl ml dl w22 hE;go_wp2_with fail
      refine hK.out _ _ (hE.h3) (fun hHeld => ?_);clear hK K;try simp only [PL]
      refine wpAnyH_ready (rs := [3, 7]) (by kernel_rfl) (by simp) (AllReadyH.cons rfl (fun K hK => ?_) (AllReadyH.cons rfl (fun K hK => ?_) (AllReadyH.nil)))
      ·
       go_simp;refine hE.fr (fdiv_v (ca := cl) (da := dl) (cb := cz) (db := dz) (hE.here.2) (hE.h4) (by omega) (fl_le2 (HhfD.out k) (by decide)) hwn (by omega)) ?_;clear hE;intro sq Aq nq cq tq Bq mq dq w23 hE;go_wp2_with fail
       refine hK.out _ _ (hE.h4) (fun hHeld => ?_);clear hK K;try simp only [PL]
       refine tk 4 ?_;refine tk 5 ?_;refine tk 6 ?_;refine r1 7 (fun K hK => ?_);go_simp
       obtain ⟨g24, hg24⟩ : ∃ g24, g24 = w23.heap.size := ⟨_, rfl⟩
       have hl24_0 : w.heap.size < g24 := by rw [hg24]; exact (hE.h7).lt
       have hl24_3 : g2 < g24 := by rw [hg24]; exact (hE.h4).lt
       have hl24_5 : g21 < g24 := by rw [hg24]; exact (hE.h2).lt
       replace hE := hE.blk 29 #[.bool false, .slice none 0 0, .bool false, .slice none 0 0] (g := g24) hg24.symm;generalize w23.alloc (.cells #[.bool false, .slice none 0 0, .bool false, .slice none 0 0] 29) = W24 at hE ⊢;rw [← hg24];clear hg24;refine hK.out _ _ (hE.h5) (fun hHeld => ?_);clear hK K;try simp only [PL]
       refine r1 8 (fun K hK => ?_)
       have hgl25 : w.heap.size ≤ g24 := by omega
       obtain ⟨x25_0, x25_1, x25_2, x25_3⟩ := (hE.here.2).c4;obtain ⟨f25_0, f25_1, f25_2, f25_3⟩ := hE.here.2.f4;replace hE := ((((((((((Env.again (bel4 hE.bel hgl25 (.bool sq) (.slice Aq nq cq) (.bool tq) (.slice Bq mq dq))).blkI ((hE.h8).far4 (by omega) _ _ _ _)).rws ((hE.h7).st4 (hE.here.2) (by decide) _ _ _ _)).fv ((hE.h6).sep4 hE.here.2 rfl _ _ _ _ rfl rfl rfl)).blkI ((hE.h5).far4 (by omega) _ _ _ _)).fv ((hE.h4).sep4 hE.here.2 rfl _ _ _ _ rfl rfl rfl)).blkI ((hE.h3).far4 (by omega) _ _ _ _)).fv ((hE.h2).sep4 hE.here.2 rfl _ _ _ _ rfl rfl rfl)).fv ((hE.here.1.2).sep4 hE.here.2 rfl _ _ _ _ rfl rfl rfl)).blkI ((hE.here.2).s4 _ _ _ _));go_simp;clear x25_0 x25_1 x25_2 x25_3 f25_0 f25_1 f25_2 f25_3 hgl25;generalize ((((W24.setCell ⟨g24, 0, none⟩ (.bool sq)).setCell ⟨g24, 1, none⟩ (.slice Aq nq cq)).setCell ⟨g24, 2, none⟩ (.bool tq)).setCell ⟨g24, 3, none⟩ (.slice Bq mq dq)) = W25 at hE ⊢;refine hK.out _ _ (hE.h5) (fun hHeld => ?_);clear hK K;try simp only [PL]
       refine tk 9 ?_;refine wpAnyH_done (by kernel_rfl) ?_ _;go_wp2_with fail
       go_meet
       exact ⟨g24, sq, Aq, nq, cq, tq, Bq, mq, dq, rfl, rfl, ⟨by omega, by omega, by omega⟩, (((((((((Env.again hE.bel).blkI (hE.h8)).rws (hE.h7)).fv (hE.h6)).blkI (hE.h5)).fv (hE.h4)).blkI (hE.h3)).fv (hE.here.1.2)).blkI (hE.here.2))⟩
      ·
       go_simp
       obtain ⟨g26, hg26⟩ : ∃ g26, g26 = w22.heap.size := ⟨_, rfl⟩
       have hl26_0 : w.heap.size < g26 := by rw [hg26]; exact (hE.h6).lt
       have hl26_3 : g2 < g26 := by rw [hg26]; exact (hE.h3).lt
       have hl26_5 : g21 < g26 := by rw [hg26]; exact (hE.here.1.2).lt
       replace hE := hE.blk 29 #[.bool false, .slice none 0 0, .bool false, .slice none 0 0] (g := g26) hg26.symm;generalize w22.alloc (.cells #[.bool false, .slice none 0 0, .bool false, .slice none 0 0] 29) = W26 at hE ⊢;rw [← hg26];clear hg26;refine hK.out _ _ (hE.h4) (fun hHeld => ?_);clear hK K;try simp only [PL]
       refine r1 3 (fun K hK => ?_);go_simp;refine hE.fr (fdiv_v (ca := cl) (da := dl) (cb := cz) (db := dz) (hE.here.1.2) (hE.h5) (by omega) (fl_le2 (HhfD.out k) (by decide)) hwn (by omega)) ?_;clear hE;intro sq Aq nq cq tq Bq mq dq w27 hE;go_wp2_with fail
       refine hK.out _ _ (hE.h5) (fun hHeld => ?_);clear hK K;try simp only [PL]
       refine tk 4 ?_;refine tk 5 ?_;refine tk 6 ?_;refine r1 8 (fun K hK => ?_)
       have hgl28 : w.heap.size ≤ g26 := by omega
       obtain ⟨x28_0, x28_1, x28_2, x28_3⟩ := (hE.here.1.2).c4;obtain ⟨f28_0, f28_1, f28_2, f28_3⟩ := hE.here.1.2.f4;replace hE := ((((((((((Env.again (bel4 hE.bel hgl28 (.bool sq) (.slice Aq nq cq) (.bool tq) (.slice Bq mq dq))).blkI ((hE.h8).far4 (by omega) _ _ _ _)).rws ((hE.h7).st4 (hE.here.1.2) (by decide) _ _ _ _)).fv ((hE.h6).sep4 hE.here.1.2 rfl _ _ _ _ rfl rfl rfl)).blkI ((hE.h5).far4 (by omega) _ _ _ _)).fv ((hE.h4).sep4 hE.here.1.2 rfl _ _ _ _ rfl rfl rfl)).blkI ((hE.h3).far4 (by omega) _ _ _ _)).fv ((hE.h2).sep4 hE.here.1.2 rfl _ _ _ _ rfl rfl rfl)).blkI ((hE.here.1.2).s4 _ _ _ _)).fv ((hE.here.2).sep4 hE.here.1.2 rfl _ _ _ _ rfl rfl rfl));go_simp;clear x28_0 x28_1 x28_2 x28_3 f28_0 f28_1 f28_2 f28_3 hgl28;generalize ((((w27.setCell ⟨g26, 0, none⟩ (.bool sq)).setCell ⟨g26, 1, none⟩ (.slice Aq nq cq)).setCell ⟨g26, 2, none⟩ (.bool tq)).setCell ⟨g26, 3, none⟩ (.slice Bq mq dq)) = W28 at hE ⊢;refine hK.out _ _ (hE.h5) (fun hHeld => ?_);clear hK K;try simp only [PL]
       refine tk 9 ?_;refine wpAnyH_done (by kernel_rfl) ?_ _;go_wp2_with fail
       go_meet
       exact ⟨g26, sq, Aq, nq, cq, tq, Bq, mq, dq, rfl, rfl, ⟨by omega, by omega, by omega⟩, (((((((((Env.again hE.bel).blkI (hE.h8)).rws (hE.h7)).fv (hE.h6)).blkI (hE.h5)).fv (hE.h4)).blkI (hE.h3)).fv (hE.here.2)).blkI (hE.here.1.2))⟩
     ·
      go_simp
      obtain ⟨g29, hg29⟩ : ∃ g29, g29 = wd.heap.size := ⟨_, rfl⟩
      have hl29_0 : w.heap.size < g29 := by rw [hg29]; exact (hE.h5).lt
      have hl29_3 : g2 < g29 := by rw [hg29]; exact (hE.h2).lt
      have hl29_5 : g21 < g29 := by rw [hg29]; exact (hE.here.2).lt
      replace hE := hE.blk 29 #[.bool false, .slice none 0 0, .bool false, .slice none 0 0] (g := g29) hg29.symm;generalize wd.alloc (.cells #[.bool false, .slice none 0 0, .bool false, .slice none 0 0] 29) = W29 at hE ⊢;rw [← hg29];clear hg29;refine hK.out _ _ (hE.h3) (fun hHeld => ?_);clear hK K;try simp only [PL]
      refine r1 1 (fun K hK => ?_);go_simp;refine hE.fr (ffromInt_v L _ (by omega) (by omega)) ?_;clear hE;intro sl Al nl cl tl Bl ml dl w30 hE;go_wp2_with fail
      refine hK.out _ _ (hE.h4) (fun hHeld => ?_);clear hK K;try simp only [PL]
      refine r1 3 (fun K hK => ?_);go_simp;refine hE.fr (fdiv_v (ca := cl) (da := dl) (cb := cz) (db := dz) (hE.here.2) (hE.h5) (by omega) (fl_le2 (HhfD.out k) (by decide)) hwn (by omega)) ?_;clear hE;intro sq Aq nq cq tq Bq mq dq w31 hE;go_wp2_with fail
      refine hK.out _ _ (hE.h5) (fun hHeld => ?_);clear hK K;try simp only [PL]
      refine tk 4 ?_;refine tk 5 ?_;refine tk 6 ?_;refine r1 8 (fun K hK => ?_)
      have hgl32 : w.heap.size ≤ g29 := by omega
      obtain ⟨x32_0, x32_1, x32_2, x32_3⟩ := (hE.h2).c4;obtain ⟨f32_0, f32_1, f32_2, f32_3⟩ := hE.h2.f4;replace hE := ((((((((((Env.again (bel4 hE.bel hgl32 (.bool sq) (.slice Aq nq cq) (.bool tq) (.slice Bq mq dq))).blkI ((hE.h8).far4 (by omega) _ _ _ _)).rws ((hE.h7).st4 (hE.h2) (by decide) _ _ _ _)).fv ((hE.h6).sep4 hE.h2 rfl _ _ _ _ rfl rfl rfl)).blkI ((hE.h5).far4 (by omega) _ _ _ _)).fv ((hE.h4).sep4 hE.h2 rfl _ _ _ _ rfl rfl rfl)).blkI ((hE.h3).far4 (by omega) _ _ _ _)).blkI ((hE.h2).s4 _ _ _ _)).fv ((hE.here.1.2).sep4 hE.h2 rfl _ _ _ _ rfl rfl rfl)).fv ((hE.here.2).sep4 hE.h2 rfl _ _ _ _ rfl rfl rfl));go_simp;clear x32_0 x32_1 x32_2 x32_3 f32_0 f32_1 f32_2 f32_3 hgl32;generalize ((((w31.setCell ⟨g29, 0, none⟩ (.bool sq)).setCell ⟨g29, 1, none⟩ (.slice Aq nq cq)).setCell ⟨g29, 2, none⟩ (.bool tq)).setCell ⟨g29, 3, none⟩ (.slice Bq mq dq)) = W32 at hE ⊢;refine hK.out _ _ (hE.h5) (fun hHeld => ?_);clear hK K;try simp only [PL]
      refine tk 9 ?_;refine wpAnyH_done (by kernel_rfl) ?_ _;go_wp2_with fail
      go_meet
      exact ⟨g29, sq, Aq, nq, cq, tq, Bq, mq, dq, rfl, rfl, ⟨by omega, by omega, by omega⟩, (((((((((Env.again hE.bel).blkI (hE.h8)).rws (hE.h7)).fv (hE.h6)).blkI (hE.h5)).fv (hE.h4)).blkI (hE.h3)).fv (hE.here.2)).blkI (hE.h2))⟩
    case rest =>
    clear hE;obtain ⟨G12, sq, Aq, nq, cq, tq, Bq, mq, dq, rfl, rfl, ⟨hG12_0, hG12_1, hG12_2⟩, hE⟩ := hcut;generalize wc = wk12 at hE ⊢
    go_upto_region 13 with (fail)
    obtain ⟨k33, k34, k35, k36⟩ := (hE.here.2).c4;have k37 := (hE.h2).cell 0;have k38 := (hE.h2).cell 1;have k39 := (hE.h2).cell 2;have k40 := (hE.h2).cell 3;have k41 := (hE.h2).cell 4;have k42 := (hE.h2).cell 5;have k43 := (hE.h2).cell 6;have k44 := (hE.h2).cell 7;have k45 := (hE.h2).cell 8;have k46 := (hE.h2).cell 9;have k47 := (hE.h2).cell 10;go_wp2_with fail
    refine hE.fr (fmul_v (ca := cq) (da := dq) (cb := x.w.c) (db := x.w.d) (hE.here.1.2) (hE.h3) (by omega) (by omega) (by omega)) ?_;clear hE k33 k34 k35 k36 k37 k38 k39 k40 k41 k42 k43 k44 k45 k46 k47;intro sr Ar nr cr tr Br mr dr w48 hE
    go_upto_region 14 with (fail)
    obtain ⟨g49, hg49⟩ : ∃ g49, g49 = w48.heap.size := ⟨_, rfl⟩
    have hl49_0 : w.heap.size < g49 := by rw [hg49]; exact (hE.h8).lt
    have hl49_3 : g2 < g49 := by rw [hg49]; exact (hE.h5).lt
    have hl49_5 : g21 < g49 := by rw [hg49]; exact (hE.h3).lt
    have hl49_7 : G12 < g49 := by rw [hg49]; exact (hE.here.1.2).lt
    replace hE := hE.blk 29 #[.bool sr, .slice Ar nr cr, .bool tr, .slice Br mr dr] (g := g49) hg49.symm;generalize w48.alloc (.cells #[.bool sr, .slice Ar nr cr, .bool tr, .slice Br mr dr] 29) = W49 at hE ⊢;rw [← hg49];clear hg49
    obtain ⟨v, hv⟩ : ∃ v, decide (cmpQ (((L : Int) : Rat) / wD r M k * x.w.q) ((x.K : Int) : Rat) ≤ 0) = v := ⟨_, rfl⟩
    replace hE := hE.drew;refine wp_region_held_drew (S := fun V => Blk 29 (g49) #[.bool sr, .slice Ar nr cr, .bool tr, .slice Br mr dr] V ∧ Blk 76 (g21) #[.int .i64 x.I, .bool x.w.s, .slice x.w.A x.w.n x.w.c, .bool x.w.t, .slice x.w.B x.w.m x.w.d, .int .i64 x.K, .int .i64 (j : Int), .bool false, .slice none 0 0, .bool false, .slice none 0 0] V) (by kernel_rfl) (⟨hE.here.2, hE.h4⟩) (fun hHeld => ?_)
    generalize W49.drew = wd at *
    refine tk 0 ?_ (hy := by
     intro w hSw;have kc0 := (hSw.1).cell 0;have kc1 := (hSw.1).cell 1;have kc2 := (hSw.1).cell 2;have kc3 := (hSw.1).cell 3;clear hSw
     first | (go_simp; done) | (go_simp; with_reducible rfl))
    try simp only [PL]
    refine tk 1 ?_;refine tk 2 ?_
    refine tk 3 ?_ (hy := by
     intro w hSw;have kc5 := (hSw.2).cell 5;clear hSw
     first | (go_simp; done) | (go_simp; with_reducible rfl))
    try simp only [PL]
    refine r1 4 (fun K hK => ?_);go_simp;refine hE.fr (ffromInt_v x.K _ (by omega) (by omega)) ?_;clear hE;intro sf Af nf cf tf Bf mf df w50 hE;go_wp2_with fail
    refine hK.out _ _ (⟨hE.here.1.2, hE.h5⟩) (fun hHeld => ?_);clear hK K;try simp only [PL]
    refine r1 5 (fun K hK => ?_);go_simp;refine hE.br (fcmp_v (ca := cr) (da := dr) (cb := cf) (db := df) (hE.h2) (hE.here.2) (by omega) (by omega)) ?_;clear hE;intro w51 hE;go_wp2_with fail
    refine hK.out _ _ (⟨hE.here.1.2, hE.h5⟩) (fun hHeld => ?_);clear hK K;try simp only [PL]
    refine tk 6 ?_;refine wpAnyH_done (by kernel_rfl) ?_ _;have HV := Lib.hid hv;clear hv
    have hcmpv : v = true ↔ ((L : Int) : Rat) / wD r M k * wq r (M.getD k 0) ≤ ((Kz r (M.getD k 0) : Int) : Rat) := by
     rw [← Hhj.out, Hhwx.out, HhKx.out, ← HV.out, decide_eq_true_iff, cmpQ_val]
     split
     · rename_i h; exact ⟨fun _ => Rat.le_of_lt h, fun _ => by decide⟩
     ·
      rename_i h; split
      · rename_i h2; exact ⟨fun _ => by rw [h2]; exact Rat.le_refl, fun _ => by decide⟩
      · rename_i h2; refine ⟨fun h3 => absurd h3 (by decide), fun h3 => ?_⟩; grind
    have hlc := Hhlc.out k ((L : Int) : Rat) (wD r M k) hlt;rw [← HLV.out] at hlc;have Hhcmpv := Lib.hid hcmpv;clear hcmpv;have Hhlc := Lib.hid hlc;clear hlc
    cases v with
    | true =>
     have ht : ((L : Int) : Rat) / wD r M k = t0 := by rw [Hhlc.out, if_pos (Hhcmpv.out.1 rfl)]
     have Hht := Lib.hid ht;clear ht;obtain ⟨k52, k53, k54, k55⟩ := (hE.h3).c4
     have hRl : w.heap.size ≤ w.heap.size := by omega
     obtain ⟨WW, hWW, hB, hV, hBel⟩ := ret_frac hE hE.h10 hRl hE.h4 cq dq;obtain ⟨x0, x1, x2, x3⟩ := (hE.h10).c4;obtain ⟨fz0, fz1, fz2, fz3⟩ := hE.h10.f4;have HWW := Lib.hid hWW;clear hWW;go_wp2_with fail
     clear x0 x1 x2 x3;rw [← HWW.out];obtain ⟨y0, y1, y2, y3⟩ := hB.c4;refine bodyPost_ret (v := .agg #[.bool sq, .slice Aq nq cq, .bool tq, .slice Bq mq dq]) (by simp [results, Tryz.results40, go_sem, y0, y1, y2, y3]) rfl ?_;exact ⟨t0, Hhlev.out, by rw [← Hht.out]; exact hft, sq, Aq, nq, cq, tq, Bq, mq, dq, rfl, hV.to Hht.out, hBel⟩
    | false =>
     have o1 : IntKind.i64.wrap (L - x.K) = L - x.K := by rw [IntKind.wrap_i64]; omega
     have hnl : Hid (t0 = lev ((L - x.K : Int) : Rat) (wD r M (k + 1)) (prs (wq r) (Kz r) (M.drop (k + 1)))) := Lib.hid (by rw [Hhlc.out, if_neg (fun h => absurd (Hhcmpv.out.2 h) Bool.false_ne_true), HhsD.out k hlt, ← Hhj.out, HhKx.out, Rat.intCast_sub]);obtain ⟨k56, k57, k58, k59⟩ := (hE.h7).c4;have k60 := (hE.h5).cell 0;have k61 := (hE.h5).cell 1;have k62 := (hE.h5).cell 2;have k63 := (hE.h5).cell 3;have k64 := (hE.h5).cell 4;have k65 := (hE.h5).cell 5;have k66 := (hE.h5).cell 6;have k67 := (hE.h5).cell 7;have k68 := (hE.h5).cell 8;have k69 := (hE.h5).cell 9;have k70 := (hE.h5).cell 10;go_wp2_with fail
     have hsd := HhsD.out k hlt;rw [← Hhj.out, Hhwx.out] at hsd;have hc := fsub_v (ca := cz) (da := dz) (cb := x.w.c) (db := x.w.d) (hE.h8) (hE.h6) (fl_le2 (HhfD.out k) (by decide)) (fl_le2 hf4 (by decide)) (by rw [hsd]; exact fl_le2 (HhfD.out (k + 1)) (by decide));rw [hsd] at hc;clear hsd;refine hE.fr (hc) ?_;clear hE k56 k57 k58 k59 k60 k61 k62 k63 k64 k65 k66 k67 k68 k69 k70;intro sy Ay ny cy ty By my dy w71 hE;clear hc
     have hgl72 : w.heap.size ≤ g2 := by omega
     obtain ⟨x72_0, x72_1, x72_2, x72_3⟩ := (hE.h8).c4;obtain ⟨f72_0, f72_1, f72_2, f72_3⟩ := hE.h8.f4;replace hE := (((((((((((((Env.again (bel4 hE.bel hgl72 (.bool sy) (.slice Ay ny cy) (.bool ty) (.slice By my dy))).blkI ((hE.h11).far4 (by omega) _ _ _ _)).rws ((hE.h10).st4 (hE.h8) (by decide) _ _ _ _)).fv ((hE.h9).sep4 hE.h8 rfl _ _ _ _ rfl rfl rfl)).blkI ((hE.h8).s4 _ _ _ _)).fv ((hE.h7).sep4 hE.h8 rfl _ _ _ _ rfl rfl rfl)).blkI ((hE.h6).far4 (by omega) _ _ _ _)).fv ((hE.h5).sep4 hE.h8 rfl _ _ _ _ rfl rfl rfl)).blkI ((hE.h4).far4 (by omega) _ _ _ _)).fv ((hE.h3).sep4 hE.h8 rfl _ _ _ _ rfl rfl rfl)).blkI ((hE.h2).far4 (by omega) _ _ _ _)).fv ((hE.here.1.2).sep4 hE.h8 rfl _ _ _ _ rfl rfl rfl)).fv ((hE.here.2).sep4 hE.h8 rfl _ _ _ _ rfl rfl rfl));go_wp2_with fail
     clear x72_0 x72_1 x72_2 x72_3 f72_0 f72_1 f72_2 f72_3 hgl72;generalize ((((w71.setCell ⟨g2, 0, none⟩ (.bool sy)).setCell ⟨g2, 1, none⟩ (.slice Ay ny cy)).setCell ⟨g2, 2, none⟩ (.bool ty)).setCell ⟨g2, 3, none⟩ (.slice By my dy)) = W72 at hE ⊢
     go_roundw
     case rel => exact ⟨k + 1, L - x.K, sy, Ay, ny, cy, ty, By, my, dy, by omega, rfl, by go_num, by omega, hnl, (((((Env.again hE.bel).blkI (hE.h11)).rws (hE.h10)).fv (hE.here.2)).blkI (hE.h8))⟩
     case measure => simp [intOf]; omega
   obtain rfl : k = i := by omega
   have t1 : decide ((k : Int) < (k : Int)) = false := decide_eq_false (by omega)
   have ht : ((0 : Int) : Rat) = t0 := by rw [HLV.out, Hhend.out]; rfl
   have Hht := Lib.hid ht;clear ht;go_wp2_with fail
   clear t1;refine hE.fr (ffromInt_v 0 _ (by decide) (by decide)) ?_;clear hE;intro sq Aq nq cq tq Bq mq dq w73 hE
   have hRl : w.heap.size ≤ w.heap.size := by omega
   obtain ⟨WW, hWW, hB, hV, hBel⟩ := ret_frac hE hE.h4 hRl hE.here.2 cq dq;obtain ⟨x0, x1, x2, x3⟩ := (hE.h4).c4;obtain ⟨fz0, fz1, fz2, fz3⟩ := hE.h4.f4;have HWW := Lib.hid hWW;clear hWW;go_wp2_with fail
   clear x0 x1 x2 x3;rw [← HWW.out];obtain ⟨y0, y1, y2, y3⟩ := hB.c4;refine bodyPost_ret (v := .agg #[.bool sq, .slice Aq nq cq, .bool tq, .slice Bq mq dq]) (by simp [results, Tryz.results40, go_sem, y0, y1, y2, y3]) rfl ?_;exact ⟨t0, Hhlev.out, by rw [← Hht.out]; exact fl_le2 (fl_int3 (by decide) (by decide)) (by decide), sq, Aq, nq, cq, tq, Bq, mq, dq, rfl, hV.to Hht.out, hBel⟩
end
end Go.Proofs.YtjgihmmeimfheaaGreat
