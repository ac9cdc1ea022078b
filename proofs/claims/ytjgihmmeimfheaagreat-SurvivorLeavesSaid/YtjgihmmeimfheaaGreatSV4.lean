/-
  The walk of survivor.byLimit.
-/
import Derived.Test.YtjgihmmeimfheaaGreatK18
import Derived.Test.YtjgihmmeimfheaaGreatSV2
import Derived.Test.YtjgihmmeimfheaaGreatSV3
namespace Go.Proofs.YtjgihmmeimfheaaGreat
open Go.RowKit

theorem wpList_appP {P : Program} {w w' : World} {ops : Array Oper} {rest : List Oper} {o : Oper} {a : Act} {Q : Exit → Act → World → Prop} {s x : Operand} {t : TypeId} {v1 v2 v' : Value} (hr : (Builtin.append_ #[t, t] o.type #[v1, v2]).run P w = .ok v' w') (hg : o.guard = none) (ho : o.op = .call { callee := .builtin .append, args := #[s, x], argTypes := #[t, t] }) (hs : a.eval s = v1) (hx : a.eval x = v2)
  (h : wpList P ops Q rest (a.put o.dst v') w') : wpList P ops Q (o :: rest) a w :=
 wpList_plain hg fun _ hK => app_step ho hs hx hr (hK _ _ h)
def ixElem : Elem 71 76 11 := ⟨Tryz.underlying71, .agg #[.int .i64 0, .bool false, .slice none 0 0, .bool false, .slice none 0 0, .int .i64 0, .int .i64 0, .bool false, .slice none 0 0, .bool false, .slice none 0 0], 152, by kernel_rfl, rfl, by decide, fun v hv => by
 simp only [Value.cells, List.mem_toArray, List.mem_cons, List.not_mem_nil, or_false] at hv
 rcases hv with rfl | rfl | rfl | rfl | rfl | rfl | rfl | rfl | rfl | rfl | rfl <;> rfl, by decide⟩
/-- The claims with a weight, indexed. -/
def ixE (r : Nat → Cl) (n : Nat) (j : Nat) : List Value := ixC (r ((idx (wq r) n).getD j 0)) (((idx (wq r) n).getD j 0 : Nat) : Int) zFH
theorem ixE_ok (r : Nat → Cl) (n N : Nat) : IxE N (ixE r n) := fun _ _ => ⟨rfl, ixC_ok _ _ _⟩
theorem push_same {e : Nat → List Value} {n : Nat} {x : List Value} (h : e n = x) : ∀ k, updE e n x k = e k := fun k => by
 unfold updE
 split
 · rename_i h1; rw [h1, h]
 · rfl
theorem sins_nil (A : Option Addr) (c : Nat) (f : Value) (w : World) : Calls Tryz.prog 143 #[.slice A 0 c, .int .i64 0, .int .i64 0, f] w (fun e w' => (∃ v, e = .returned v) ∧ w' = w) := by
 go_enter Tryz.func143, Tryz.ntmps143
 go_wp2_with fail
 go_loopw [8] (fun x wr => x = .int .i64 1 ∧ wr = w) (fun _ _ => 0)
 case atStart => exact ⟨rfl, rfl⟩
 case round =>
  obtain ⟨rfl, rfl⟩ := hrel
  go_wp2_with fail
  go_end0
  exact ⟨⟨_, rfl⟩, rfl⟩
theorem sstab_nil (A : Option Addr) (c : Nat) (f : Value) (w : World) : Calls Tryz.prog 119 #[.slice A 0 c, .int .i64 0, f] w (fun e w' => (∃ v, e = .returned v) ∧ w' = w) := by
 go_enter Tryz.func119, Tryz.ntmps119
 go_wp2_with fail
 go_loopw [7, 8] (fun x y wr => x = .int .i64 0 ∧ y = .int .i64 20 ∧ wr = w) (fun _ _ _ => 0)
 case atStart => exact ⟨rfl, rfl, rfl⟩
 case round =>
  obtain ⟨rfl, rfl, rfl⟩ := hrel
  go_wp2_with fail
  refine (sins_nil A c f _).mono ?_
  rintro e w1 ⟨⟨v, rfl⟩, rfl⟩
  go_wp2_with fail
  go_loopw [6] (fun x wr => x = .int .i64 20 ∧ wr = w1) (fun _ _ => 0)
  case atStart => exact ⟨rfl, rfl⟩
  case round =>
   obtain ⟨rfl, rfl⟩ := hrel
   go_wp2_with fail
   go_end0
   exact ⟨⟨_, rfl⟩, rfl⟩
theorem ssort_nil (A : Option Addr) (c : Nat) (f : Value) (w : World) : Calls Tryz.prog 81 #[.slice A 0 c, f] w (fun e w' => (∃ v, e = .returned v) ∧ w' = w) := by
 go_enter Tryz.func81, Tryz.ntmps81
 go_wp2_with fail
 refine (sstab_nil A c f _).mono ?_
 rintro e w1 ⟨⟨v, rfl⟩, rfl⟩
 go_wp2_with fail
 go_end0
 exact ⟨⟨_, rfl⟩, rfl⟩
/-- What byLimit returns: the claims with a weight, sorted. -/
def ByP (r : Nat → Cl) (n : Nat) (w : World) (e : Ending) (w' : World) : Prop := ∃ v p, e = .returned v ∧ Srd (idx (wq r) n).length (key (wq r) (Kz r) n) (idx (wq r) n).length p ∧ RwV 76 11 w.heap.size v (idx (wq r) n).length (fun j => ixE r n (p j)) w' ∧ Below w.heap.size w w'
set_option linter.unusedSimpArgs false in
set_option maxRecDepth 100000 in
set_option maxHeartbeats 4000000 in
theorem sby_v {A : Option Addr} {n c : Nat} {r : Nat → Cl} {w : World} (hM : ClM A n r w) (hok : ClOK n r) (hn : n ≤ 10) :
  Calls Tryz.prog 71 #[.slice A n c] w (ByP r n w) := by
 have hE := Env.start w
 have hw4 := hok.w hM
 have Hhok := Lib.hid hok
 clear hok
 have HhM := Lib.hid hM
 clear hM
 have Hhw4 := Lib.hid hw4
 clear hw4
 go_enter Tryz.func71, Tryz.ntmps71
 go_wp2_with fail
 go_loopw [3, 8] (fun v x wr => ∃ k : Nat, k ≤ n ∧ x = .int .i64 (k : Int) ∧ Env w (fun V => (True ∧ RwV 76 11 w.heap.size v (idx (wq r) k).length (ixE r n) V)) wr) (fun _ x _ => n - (intOf x).toNat)
 case atStart => exact ⟨0, Nat.zero_le _, rfl, hE.rwv (.inl ⟨rfl, rfl⟩)⟩
 case round =>
  clear hE
  obtain ⟨k, hk, rfl, hE⟩ := hrel
  by_cases hlt : k < n
  rotate_left
  ·
   obtain rfl : k = n := by omega
   have t1 : decide ((k : Int) < (k : Int)) = false := decide_eq_false (by omega)
   have hlen := idx_len (wq r) k
   rcases hE.here.2 with ⟨rfl, h0⟩ | ⟨g, cap, rfl, hg, hR⟩
   ·
    go_wp2_with fail
    refine (ssort_nil none 0 _ _).mono ?_
    rintro e w1 ⟨⟨v, rfl⟩, rfl⟩
    go_wp2_with fail
    go_ret
    exact ⟨_, fun j => j, rfl, by rw [h0]; exact (Srd.start 0 _).full (Nat.zero_le 1), .inl ⟨rfl, h0⟩, hE.bel⟩
   obtain ⟨N, hN⟩ : ∃ N, N = (idx (wq r) k).length := ⟨_, rfl⟩
   have HR := Lib.hid hR
   rw [← hN] at hR hlen
   have HN := Lib.hid hN
   have hcmp : ∀ V, Kept wr g V → CmpK 111 N (ixE r k) (key (wq r) (Kz r) k) V := fun V hV a b ha hb => by
    have hbV : Below w.heap.size w V := Below.grownB hE.bel hV hE.bel.size hg
    have ma := idx_mem.1 (show (idx (wq r) k).getD a 0 ∈ idx (wq r) k by rw [List.getD_eq_getElem?_getD, List.getElem?_eq_getElem (by rw [← HN.out]; exact ha)]; exact List.getElem_mem _)
    have mb := idx_mem.1 (show (idx (wq r) k).getD b 0 ∈ idx (wq r) k by rw [List.getD_eq_getElem?_getD, List.getElem?_eq_getElem (by rw [← HN.out]; exact hb)]; exact List.getElem_mem _)
    obtain ⟨ia, hia⟩ : ∃ i, i = (idx (wq r) k).getD a 0 := ⟨_, rfl⟩
    obtain ⟨ib, hib⟩ : ∃ i, i = (idx (wq r) k).getD b 0 := ⟨_, rfl⟩
    have ea : key (wq r) (Kz r) k a = ((Kz r ia : Int) : Rat) / wq r ia := by rw [hia]; rfl
    have eb : key (wq r) (Kz r) k b = ((Kz r ib : Int) : Rat) / wq r ib := by rw [hib]; rfl
    have xa : ixE r k a = ixC (r ia) ((ia : Nat) : Int) zFH := by rw [hia]; rfl
    have xb : ixE r k b = ixC (r ib) ((ib : Nat) : Int) zFH := by rw [hib]; rfl
    rw [← hia] at ma
    rw [← hib] at mb
    rw [ea, eb, xa, xb]
    obtain ⟨bk, ok, ek, -, hc⟩ := (HhM.out.below hbV) (by omega)
    have fa := Cl.fv (Hhok.out.2 ia ma.1).2 (hc ia ma.1).2
    have fb := Cl.fv (Hhok.out.2 ib mb.1).2 (hc ib mb.1).2
    have pa : 0 < wq r ia := by have := (Hhw4.out ia ma.1).1; have := ma.2; grind
    have pb : 0 < wq r ib := by have := (Hhw4.out ib mb.1).1; have := mb.2; grind
    refine (sless_v (i := ((ia : Nat) : Int)) (j := ((ib : Nat) : Int)) (l := zFH) (m := zFH) fa.1 fb.1 fa.2.2 fb.2.2 (Hhok.out.K ia ma.1) (Hhok.out.K ib mb.1)).mono ?_
    rintro e V' ⟨rfl, hb2⟩
    refine ⟨_, rfl, ?_, hb2⟩
    rw [← key_lt pa pb, cmpQ_val]
    split
    · rename_i h; exact ⟨fun _ => h, fun _ => by decide⟩
    · rename_i h; refine ⟨fun h2 => absurd h2 (by split <;> decide), fun h2 => absurd h2 h⟩
   have hC := ssort_v (w := w) (cap := cap) (gf := 111) hE.bel hg hR (ixE_ok r k N) (by omega) (enters_of Tryz.func111 (by kernel_rfl) rfl) hcmp (by omega)
   have HC := Lib.hid hC
   clear hC hcmp hR
   rw [← hN]
   clear hN
   go_wp2_with fail
   refine HC.out.mono ?_
   rintro e w1 ⟨⟨v, rfl⟩, p, hp, hR2, hK⟩
   have HQ := Lib.hid (And.intro hp (And.intro hR2 hK))
   clear hp hR2 hK
   go_wp2_with fail
   go_ret
   obtain ⟨hp, hR2, hK⟩ := HQ.out
   exact ⟨.slice (some ⟨g, 0, none⟩) N cap, p, rfl, by rw [← HN.out]; exact hp, .inr ⟨g, cap, by rw [← HN.out], hg, by rw [← HN.out]; exact hR2⟩, Below.grownB hE.bel hK hE.bel.size hg⟩
  obtain ⟨b, o, rfl, hb, hc⟩ := (HhM.out.below hE.bel) (by omega)
  obtain ⟨x, hx⟩ : ∃ x, x = r k := ⟨_, rfl⟩
  obtain ⟨⟨d0, d1, d2, d3, d4, d5⟩, hrd⟩ := hc k hlt
  rw [← hx] at d0 d1 d2 d3 d4 d5 hrd
  have hxok : x.ok := by rw [hx]; exact (Hhok.out.2 k hlt).2
  have hfv := (Cl.fv hxok hrd).1
  have hwx : wq r k = x.w.q := by rw [hx]; rfl
  have t1 : decide ((k : Int) < (n : Int)) = true := decide_eq_true (by omega)
  have t2 : (k : Int) < (n : Int) := by omega
  have hE := hE.fv hfv
  clear hfv hrd hc hxok
  have Hhx := Lib.hid hx
  clear hx
  have Hhwx := Lib.hid hwx
  clear hwx
  go_upto_region 5 with (fail)
  clear d0 d1 d2 d3 d4 d5 t1
  obtain ⟨g1, hg1⟩ : ∃ g1, g1 = wr.heap.size := ⟨_, rfl⟩
  replace hE := hE.blk 46 #[.int .i64 x.I, .bool x.w.s, .slice x.w.A x.w.n x.w.c, .bool x.w.t, .slice x.w.B x.w.m x.w.d, .int .i64 x.K] (g := g1) hg1.symm
  generalize wr.alloc (.cells #[.int .i64 x.I, .bool x.w.s, .slice x.w.A x.w.n x.w.c, .bool x.w.t, .slice x.w.B x.w.m x.w.d, .int .i64 x.K] 46) = W1 at hE ⊢
  rw [← hg1]
  clear hg1
  have k2 := (hE.here.2).cell 0
  have k3 := (hE.here.2).cell 1
  have k4 := (hE.here.2).cell 2
  have k5 := (hE.here.2).cell 3
  have k6 := (hE.here.2).cell 4
  have k7 := (hE.here.2).cell 5
  go_wp2_with fail
  refine (szero_v (ca := x.w.c) (da := x.w.d) (hE.here.1.2)).mono ?_
  rintro e w9 ⟨vz, rfl, hv, hb9⟩
  replace hE := hE.step hb9
  clear hb9
  clear k2 k3 k4 k5 k6 k7
  have HV := Lib.hid hv
  clear hv
  cases vz with
  | true =>
   go_wp2_with fail
   go_roundw
   case rel =>
    have h1 : idx (wq r) (k + 1) = idx (wq r) k := by rw [idx_succ, Hhwx.out, if_pos (Rat.num_eq_zero.1 (HV.out.1 (by simp))), List.append_nil]
    exact ⟨k + 1, by omega, by go_num, (Env.again hE.bel).rwv (by rw [h1]; exact hE.h2)⟩
   case measure => simp [intOf]; omega
  | false =>
   have hwn : wq r k ≠ 0 := fun h => by rw [Hhwx.out] at h; exact Bool.false_ne_true (HV.out.2 (Rat.num_eq_zero.2 h))
   obtain ⟨hl1, hl2⟩ := idx_pre (wq r) hlt hwn
   have hxE : ixE r n (idx (wq r) k).length = ixC x (k : Int) zFH := by unfold ixE; rw [hl2, ← Hhx.out]
   have hl3 : idx (wq r) (k + 1) = idx (wq r) k ++ [k] := by rw [idx_succ, if_neg hwn]
   have hlk := idx_len (wq r) k
   have hbA := belAlloc w9 (.cells #[.int .i64 x.I, .bool x.w.s, .slice x.w.A x.w.n x.w.c, .bool x.w.t, .slice x.w.B x.w.m x.w.d, .int .i64 x.K, .int .i64 (k : Int), .bool false, .slice none 0 0, .bool false, .slice none 0 0] 76)
   have hva := RwV.stable _ _ _ _ _ _ _ _ hbA (hE.h2)
   have hBn := Blk.new w9 76 #[.int .i64 x.I, .bool x.w.s, .slice x.w.A x.w.n x.w.c, .bool x.w.t, .slice x.w.B x.w.m x.w.d, .int .i64 x.K, .int .i64 (k : Int), .bool false, .slice none 0 0, .bool false, .slice none 0 0]
   obtain ⟨g, cap, w8, hr, hg0, hR, hgr⟩ := append_rw ixElem 71 hva (Nat.le_trans hE.bel.size hbA.size) ⟨w9.heap.size, 0, none⟩ 1 (ixC x (k : Int) zFH) rfl (fun u hu => (ixC_ok _ _ _ u hu).1) (fun u hu => (ixC_ok _ _ _ u hu).2) (fun j u hu => by
    rw [Addr.add_mid, Nat.zero_add, hBn.cell, List.getElem?_toArray]; exact hu) (by omega)
   have hbel8 := Go.Proofs.YtjgihmmeimfheaaGreat.Below.grownR (hE.bel.trans (hbA.mono hE.bel.size)) hva hgr (Nat.le_refl _) (Nat.le_trans hE.bel.size hbA.size)
   replace hR := Rw.congr hR (fun k _ => push_same hxE k)
   have HF := Lib.hid (And.intro hbel8 (And.intro hR (And.intro hg0 (And.intro hl1 (And.intro hl3 hxE)))))
   clear hbA hva hBn hgr hbel8 hR hg0 hl1 hl2 hl3 hxE hwn
   have k8 := (hE.here.2).cell 0
   have k9 := (hE.here.2).cell 1
   have k10 := (hE.here.2).cell 2
   have k11 := (hE.here.2).cell 3
   have k12 := (hE.here.2).cell 4
   have k13 := (hE.here.2).cell 5
   go_wp2_with (first | refine wpList_appP hr rfl rfl rfl rfl ?_)
   clear k8 k9 k10 k11 k12 k13
   obtain ⟨hbel8, hR, hg0, hl1, hl3, -⟩ := HF.out
   go_roundw
   case rel =>
    refine ⟨k + 1, by omega, by go_num, (Env.again hbel8).rwv (.inr ⟨g, cap, ?_, hg0, ?_⟩)⟩
    · rw [hl3]; simp
    · rw [hl3, List.length_append]; exact hR
   case measure => simp [intOf]; omega
end Go.Proofs.YtjgihmmeimfheaaGreat
