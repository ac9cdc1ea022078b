/-
  Parts.
-/
import Derived.Test.YtclbiihcbfnjmaaGreatK2
import Derived.Test.YtclbiihcbfnjmaaGreatK8
import Derived.Laws.EntriesVeiled
import Derived.Test.YtclbiihcbfnjmaaGreatK24
import Derived.Test.YtclbiihcbfnjmaaGreatP7
import Derived.Test.YtclbiihcbfnjmaaGreatK20
set_option linter.unusedSimpArgs false
set_option maxRecDepth 100000
set_option maxHeartbeats 8000000
namespace Go.Proofs.YtclbiihcbfnjmaaGreat
open Go.RowKit Go.Shelf
attribute [local go_sem] Oper.semAt_some

theorem wp_norm {P : Program} {c : Code} {K : Act → World → Prop} {Q : Exit → Act → World → Prop} {a : Act} {w : World} (h : c.wp P (Exit.then K (fun _ _ _ => False)) a w) : c.wp P (Exit.then K Q) a w :=
 Code.wp_mono (fun e _ _ h => by cases e <;> first | exact h | exact h.elim) h
theorem NetC.below {x : Ct} {G N cap gl gv ga G3 G4 : Nat} {w w' : World} (h : NetC x G N cap gl gv ga G3 G4 w) (hb : Below w.heap.size w w') : NetC x G N cap gl gv ga G3 G4 w' :=
 ⟨Blk.stable _ _ _ _ _ hb h.1, Blk.stable _ _ _ _ _ hb h.2.1, Blk.stable _ _ _ _ _ hb h.2.2.1, Blk.stable _ _ _ _ _ hb h.2.2.2.1, Blk.stable _ _ _ _ _ hb h.2.2.2.2⟩
theorem Env.netc {w W : World} {P : World → Prop} {x : Ct} {G N cap gl gv ga G3 G4 : Nat} (hE : Env w P W) (h : NetC x G N cap gl gv ga G3 G4 W) : Env w (fun V => P V ∧ NetC x G N cap gl gv ga G3 G4 V) W := hE.and (fun _ _ hb h => NetC.below h hb) h
theorem ret_st {x : Ct} {t : Nat} {G N cap gt gl gv ga G3 G4 gD gX gY : Nat} {w W : World} {c d : Value} (hE : Env w (fun V => (((True ∧ Blk 80 w.heap.size (x.Q G N cap) V) ∧ At gt 0 (.int .i64 (t : Int)) V) ∧ Blk 29 (w.heap.size + 1) qz4 V)) W) (hNC : NetC x G N cap gl gv ga G3 G4 W) (hD : Blk 34 gD #[.slice x.B x.m x.d] W) (hX : Blk 84 gX #[c] W) (hY : Blk 84 gY #[d] W) (lt : gt < w.heap.size) (bX : w.heap.size + 1 < gX) (ne : gY ≠ gX) (n3 : gX ≠ G3) (n4 : gX ≠ G4) (v : Value) :
  Env w (fun V => (((True ∧ Blk 80 w.heap.size (x.Q G N cap) V) ∧ At gt 0 (.int .i64 (t : Int)) V) ∧ Blk 29 (w.heap.size + 1) qz4 V)) (W.setCell ⟨gX, 0, none⟩ v) ∧ NetC x G N cap gl gv ga G3 G4 (W.setCell ⟨gX, 0, none⟩ v) ∧ Blk 34 gD #[.slice x.B x.m x.d] (W.setCell ⟨gX, 0, none⟩ v) ∧ Blk 84 gX #[v] (W.setCell ⟨gX, 0, none⟩ v) ∧ Blk 84 gY #[d] (W.setCell ⟨gX, 0, none⟩ v) := by
 obtain ⟨n1, n2, n5, n6, n7⟩ := hNC;have hg := grownBy_setCellI W gX 0 v
 exact ⟨(((Env.again (hE.bel.setCell (p := ⟨gX, 0, none⟩) (by show w.heap.size ≤ gX; omega) v)).blkI (hE.h2.far (p := ⟨gX, 0, none⟩) (by show w.heap.size ≠ gX; omega) v)).atI (At.grownB hE.here.1.2 hg (by omega))).blkI (hE.here.2.far (p := ⟨gX, 0, none⟩) (by show w.heap.size + 1 ≠ gX; omega) v),
  ⟨n1.far (p := ⟨gX, 0, none⟩) (n1.ne hX (by decide)) v, n2.far (p := ⟨gX, 0, none⟩) (n2.ne hX (by decide)) v, n5.far (p := ⟨gX, 0, none⟩) (n5.ne hX (by decide)) v, n6.far (p := ⟨gX, 0, none⟩) (by show G3 ≠ gX; omega) v, n7.far (p := ⟨gX, 0, none⟩) (by show G4 ≠ gX; omega) v⟩,
  hD.far (p := ⟨gX, 0, none⟩) (hD.ne hX (by decide)) v, by simpa using hX.set_ 0 v, hY.far (p := ⟨gX, 0, none⟩) ne v⟩
def ReI (w wf : World) (gt R GA GB Pp t : Nat) (vc : Array Value) (fa fb : Value) (q : Rat) (W : World) : Prop :=
 ∃ s A n c tt C m d, Env w (fun V => (((((((True ∧ Blk 80 w.heap.size vc V) ∧ At gt 0 (.int .i64 (t : Int)) V) ∧ Blk 29 R qz4 V) ∧ Blk 84 GA #[fa] V) ∧ Blk 84 GB #[fb] V) ∧ FV V q s A n tt C m) ∧ Blk 29 Pp (qf4 s A n c tt C m d) V)) W ∧ Below wf.heap.size wf W
theorem Grown.at_ (B b o : Nat) (v : Value) (hb : b < B) : Grown B (At b o v) := fun W W' row h hg hr => ⟨Nat.lt_of_lt_of_le h.1 hg.size, (cell_same (hg.block b h.1 (fun e => by have := (hr b (by first | exact e | exact e.symm)).1; omega))).trans h.2⟩
theorem ReI.step {w wf W W' : World} {gt R GA GB Pp t : Nat} {vc : Array Value} {fa fb : Value} {q : Rat} (h : ReI w wf gt R GA GB Pp t vc fa fb q W) (hb : Below W.heap.size W W') : ReI w wf gt R GA GB Pp t vc fa fb q W' := by
 obtain ⟨s, A, n, c, tt, C, m, d, h, h2⟩ := h;exact ⟨s, A, n, c, tt, C, m, d, h.step hb, h2.trans (hb.mono h2.size)⟩
theorem ReI.grown {w wf : World} {B gt : Nat} (hB : w.heap.size ≤ B) (hgt : gt < B) (hwf : wf.heap.size ≤ B) (R GA GB Pp t : Nat) (vc : Array Value) (fa fb : Value) (q : Rat) : Grown B (ReI w wf gt R GA GB Pp t vc fa fb q) := fun W W' row ⟨s, A, n, c, tt, C, m, d, h, h2⟩ hg hr =>
 ⟨s, A, n, c, tt, C, m, d, Grown.env hB ((((((((Grown.tt B).and (Grown.blk _ _ _ _)).and (Grown.at_ _ _ _ _ hgt)).and (Grown.blk _ _ _ _)).and (Grown.blk _ _ _ _)).and (Grown.blk _ _ _ _)).and (Grown.fv _ _ _ _ _ _ _ _)).and (Grown.blk _ _ _ _)) W W' row h hg hr, h2.grown hg h2.size (fun q e => Nat.le_trans hwf (hr q (by first | exact e | exact e.symm)).1)⟩
theorem Env.wfb {w W wf : World} {P : World → Prop} (h : Env w P W) (hb : Below wf.heap.size wf W) : Env w (fun V => P V ∧ Below wf.heap.size wf V) W := h.and (fun _ _ hb h => h.trans (hb.mono h.size)) hb
theorem wfb_st4 {wf W : World} {Pp : Nat} (h : Below wf.heap.size wf W) (hp : wf.heap.size ≤ Pp) (a b c d : Value) : Below wf.heap.size wf ((((W.setCell ⟨Pp, 0, none⟩ a).setCell ⟨Pp, 1, none⟩ b).setCell ⟨Pp, 2, none⟩ c).setCell ⟨Pp, 3, none⟩ d) :=
 (((h.setCell (p := ⟨Pp, 0, none⟩) hp a).setCell (p := ⟨Pp, 1, none⟩) hp b).setCell (p := ⟨Pp, 2, none⟩) hp c).setCell (p := ⟨Pp, 3, none⟩) hp d
theorem vretr1_v {b : Bh} {x : Ct} {w : World} {G cap gt : Nat} {h : Nat → Nat → Q8} (hb : b.rd w) (hx : x.rd w) (hok : x.ok b) (N : Nat) (hN : Cnt b.v (b.rt x.E x.Y) N) (h80 : N ≤ 80) (hC : ColB G N cap h w) (hQ : ColQ h N (fun _ _ => True) (colq b.v (b.rt x.E x.Y) N) w) (t : Nat) (ht : t < N) (hat : At gt 0 (.int .i64 (t : Int)) w) :
  Calls Tryz.prog 63 #[.agg (x.Q G N cap), .pointer (some ⟨gt, 0, none⟩)] w (FR (b.val x N t) w) := by
 have hp0 := Ct.prem hx hok;have hl3 := Ct.net_len hx hok;have hvl := Ct.vl hb hx hok hN h80
 have hlb : ∀ k, k < x.n → -9223372036854775808 ≤ x.l k ∧ x.l k ≤ 9223372036854775807 := fun k hk => by have := hok.2.2.2.2.1.2 k hk; omega
 have hkb : ∀ k, k < x.m → -9223372036854775808 ≤ x.k k ∧ x.k k ≤ 9223372036854775807 := fun k hk => by have := hok.2.2.2.2.2.2 k hk; omega
 obtain ⟨hpf, -⟩ := hp0;have hT := hok.2.2.1.1;have lt0 := hat.1
 obtain ⟨v, hv⟩ : ∃ v, v = b.v := ⟨_, rfl⟩
 obtain ⟨f, hf⟩ : ∃ f, f = b.rt x.E x.Y := ⟨_, rfl⟩
 unfold Bh.val;rw [← hv, ← hf] at hN hQ hvl ⊢;have hE := (((Env.start w).at_ hat.1 hat.2).blk 80 (x.Q G N cap) (g := w.heap.size) rfl).blk 29 qz4 (g := w.heap.size + 1) (by simp);replace hE : Env w (fun V => (((True ∧ Blk 80 w.heap.size (x.Q G N cap) V) ∧ At gt 0 (.int .i64 (t : Int)) V) ∧ Blk 29 (w.heap.size + 1) qz4 V)) _ := (((Env.again hE.bel).blkI hE.here.1.2).atI hE.h2).blkI hE.here.2
 obtain ⟨W0, hW0⟩ : ∃ W0, W0 = (w.alloc (.cells (x.Q G N cap) 80)).alloc (.cells qz4 29) := ⟨_, rfl⟩
 rw [← hW0] at hE;have HW0 := Lib.hid hW0;clear hW0;have Hhb := Lib.hid hb;clear hb;have Hhx := Lib.hid hx;clear hx;have Hhok := Lib.hid hok;clear hok;have HhN := Lib.hid hN;clear hN;have HhC := Lib.hid hC;clear hC;have HhQ := Lib.hid hQ;clear hQ;have Hhl3 := Lib.hid hl3;clear hl3;have Hhvl := Lib.hid hvl;clear hvl;have Hhlb := Lib.hid hlb;clear hlb;have Hhkb := Lib.hid hkb;clear hkb;have Hhpf := Lib.hid hpf;clear hpf;have HhT := Lib.hid hT;clear hT;have Hhat := Lib.hid hat;clear hat;refine (callsIn_wide (n := 5)).1 ?_;have hro : Fence.wide.round = none := rfl;refine callsIn_of_wp_marks Tryz.func63 rfl trivial ?_ hro;simp only [Tryz.ntmps63, List.size_toArray, List.length_cons, List.length_nil, Nat.reduceAdd, Nat.reduceSub, Array.replicate_succ, Array.replicate_zero, List.push_toArray, List.append_toArray, List.nil_append, List.cons_append];refine wpIn_wide.2 ?_
 go_upto_region 1 with (fail)
 rw [← HW0.out];refine wp_norm ?_
 go_cut [4, 5] from 9 to 14 (fun p q wx => ∃ gl gv ga G3 G4 gD GA GB, p = .pointer (some ⟨GA, 0, none⟩) ∧ q = .pointer (some ⟨GB, 0, none⟩) ∧ (w.heap.size + 1 < GA ∧ w.heap.size + 1 < GB ∧ GA ≠ GB) ∧ Env w (fun V => (((((((True ∧ Blk 80 w.heap.size (x.Q G N cap) V) ∧ At gt 0 (.int .i64 (t : Int)) V) ∧ Blk 29 (w.heap.size + 1) qz4 V) ∧ NetC x G N cap gl gv ga G3 G4 V) ∧ Blk 34 gD #[.slice x.B x.m x.d] V) ∧ Blk 84 GA #[.func (.func 103) #[] #[.pointer (some ⟨G3, 0, none⟩), .pointer (some ⟨G4, 0, none⟩)]] V) ∧ Blk 84 GB #[.func (.func 104) #[] #[.pointer (some ⟨gD, 0, none⟩)]] V)) wx)
 case first =>
  replace hE := hE.drew;refine wp_region_held_drew (S := fun V => (((True ∧ Blk 80 w.heap.size (x.Q G N cap) V) ∧ At gt 0 (.int .i64 (t : Int)) V) ∧ Blk 29 (w.heap.size + 1) qz4 V)) (by kernel_rfl) hE.here (fun hHeld => ?_);clear HW0;generalize W0.drew = W at hE hHeld ⊢
  refine tk 0 ?_ (hy := by
   intro w hSw;have k0 := hSw.1.1.2.cell 0;have k1 := hSw.1.1.2.cell 1;have k2 := hSw.1.1.2.cell 2;have k3 := hSw.1.1.2.cell 3;have k4 := hSw.1.1.2.cell 4;have k5 := hSw.1.1.2.cell 5;have k6 := hSw.1.1.2.cell 6;have k7 := hSw.1.1.2.cell 7;have k8 := hSw.1.1.2.cell 8;have k9 := hSw.1.1.2.cell 9;clear hSw
   first | (go_simp; done) | (go_simp; with_reducible rfl))
  try simp only [PL]
  refine tk 2 ?_ (hy := by
   intro w hSw;clear hSw
   first | (go_simp; done) | (go_simp; with_reducible rfl))
  try simp only [PL]
  refine tk 3 ?_ (hy := by
   intro w hSw;clear hSw
   first | (go_simp; done) | (go_simp; with_reducible rfl))
  try simp only [PL]
  refine tk 4 ?_ (hy := by
   intro w hSw;have k8 := hSw.1.1.2.cell 8;clear hSw
   first | (go_simp; done) | (go_simp; with_reducible rfl))
  try simp only [PL]
  refine wpAnyH_ready (rs := [1, 6, 7]) (by kernel_rfl) (by simp) (AllReadyH.cons rfl (fun K hK => ?_) (AllReadyH.cons rfl (fun K hK => ?_) (AllReadyH.cons rfl (fun K hK => ?_) (AllReadyH.nil))))
  all_goals go_simp
  all_goals first
   |
    go_at_call 53
    try have lA := hA.lt
    try have lB := hB.lt
    refine (vnet_c (x := x) (G := G) (N := N) (cap := cap) (Hhpf.out.below hE.bel)).mono ?_
    rintro e W ⟨gl, gv, ga, G3, G4, rfl, b3, b4, hNC, hb⟩
    try replace hA := Blk.stable _ _ _ _ _ hb hA
    try replace hB := Blk.stable _ _ _ _ _ hb hB
    try have nA3 : gA ≠ G3 := by omega
    try have nA4 : gA ≠ G4 := by omega
    try have nB3 : gB ≠ G3 := by omega
    try have nB4 : gB ≠ G4 := by omega
    replace hE := hE.step hb;clear hb b3 b4
    try clear lA
    try clear lB
    go_wp2_with fail
    refine hK.out _ _ hE.here (fun hHeld => ?_);clear hK K hHeld;try simp only [PL]
   |
    have blt := hE.here.2.lt
    try have l3 := hNC.2.2.2.1.lt
    try have l4 := hNC.2.2.2.2.lt
    have hb := belAlloc W (.cells #[.nilFunc] 84)
    try replace hNC := NetC.below hNC hb
    try replace hD := Blk.stable _ _ _ _ _ hb hD
    have hA := Blk.new W 84 #[.nilFunc]
    obtain ⟨gA, egA⟩ : ∃ g, g = W.heap.size := ⟨_, rfl⟩
    rw [← egA] at blt hA ⊢
    try rw [← egA] at l3 l4
    replace hE := hE.step hb;clear hb
    generalize W.alloc (.cells #[.nilFunc] 84) = W at *
    try have nA3 : gA ≠ G3 := by omega
    try have nA4 : gA ≠ G4 := by omega
    try clear l3 l4
    have bA : w.heap.size + 1 < gA := blt;clear egA blt;refine hK.out _ _ hE.here (fun hHeld => ?_);clear hK K hHeld;try simp only [PL]
  refine wpAnyH_ready (rs := [5, 6, 7]) (by kernel_rfl) (by simp) (AllReadyH.cons rfl (fun K hK => ?_) (AllReadyH.cons rfl (fun K hK => ?_) (AllReadyH.cons rfl (fun K hK => ?_) (AllReadyH.nil))))
  rotate_left 3
  refine wpAnyH_ready (rs := [1, 7]) (by kernel_rfl) (by simp) (AllReadyH.cons rfl (fun K hK => ?_) (AllReadyH.cons rfl (fun K hK => ?_) (AllReadyH.nil)))
  rotate_left 2
  refine wpAnyH_ready (rs := [1, 6]) (by kernel_rfl) (by simp) (AllReadyH.cons rfl (fun K hK => ?_) (AllReadyH.cons rfl (fun K hK => ?_) (AllReadyH.nil)))
  rotate_left 2
  all_goals go_simp
  all_goals first
   |
    go_at_call 53
    try have lA := hA.lt
    try have lB := hB.lt
    refine (vnet_c (x := x) (G := G) (N := N) (cap := cap) (Hhpf.out.below hE.bel)).mono ?_
    rintro e W ⟨gl, gv, ga, G3, G4, rfl, b3, b4, hNC, hb⟩
    try replace hA := Blk.stable _ _ _ _ _ hb hA
    try replace hB := Blk.stable _ _ _ _ _ hb hB
    try have nA3 : gA ≠ G3 := by omega
    try have nA4 : gA ≠ G4 := by omega
    try have nB3 : gB ≠ G3 := by omega
    try have nB4 : gB ≠ G4 := by omega
    replace hE := hE.step hb;clear hb b3 b4
    try clear lA
    try clear lB
    go_wp2_with fail
    refine hK.out _ _ hE.here (fun hHeld => ?_);clear hK K hHeld;try simp only [PL]
   |
    go_at_call 54
    refine (vlisted_v _ _ _ _).mono ?_
    rintro e _ ⟨rfl, rfl⟩
    have hb := belAlloc W (.cells #[.slice x.B x.m x.d] 34)
    try replace hNC := NetC.below hNC hb
    try replace hA := Blk.stable _ _ _ _ _ hb hA
    try replace hB := Blk.stable _ _ _ _ _ hb hB
    have hD := Blk.new W 34 #[.slice x.B x.m x.d]
    obtain ⟨gD, egl⟩ : ∃ g, g = W.heap.size := ⟨_, rfl⟩
    rw [← egl] at hD ⊢;replace hE := hE.step hb;clear hb
    generalize W.alloc (.cells #[.slice x.B x.m x.d] 34) = W at *
    clear egl;go_wp2_with fail
    refine hK.out _ _ hE.here (fun hHeld => ?_);clear hK K hHeld;try simp only [PL]
   |
    have hlt := hA.lt;have blt := hE.here.2.lt
    try have l3 := hNC.2.2.2.1.lt
    try have l4 := hNC.2.2.2.2.lt
    have hb := belAlloc W (.cells #[.nilFunc] 84)
    try replace hNC := NetC.below hNC hb
    try replace hD := Blk.stable _ _ _ _ _ hb hD
    try replace hA := Blk.stable _ _ _ _ _ hb hA
    have hB := Blk.new W 84 #[.nilFunc]
    obtain ⟨gB, egB⟩ : ∃ g, g = W.heap.size := ⟨_, rfl⟩
    rw [← egB] at hlt blt hB ⊢
    try rw [← egB] at l3 l4
    replace hE := hE.step hb;clear hb
    generalize W.alloc (.cells #[.nilFunc] 84) = W at *
    try have nB3 : gB ≠ G3 := by omega
    try have nB4 : gB ≠ G4 := by omega
    try clear l3 l4
    have nAB : gA ≠ gB := by omega
    have nBA : gB ≠ gA := by omega
    have bB : w.heap.size + 1 < gB := blt;clear egB hlt blt;refine hK.out _ _ hE.here (fun hHeld => ?_);clear hK K hHeld;try simp only [PL]
   |
    have blt := hE.here.2.lt
    try have l3 := hNC.2.2.2.1.lt
    try have l4 := hNC.2.2.2.2.lt
    have hb := belAlloc W (.cells #[.nilFunc] 84)
    try replace hNC := NetC.below hNC hb
    try replace hD := Blk.stable _ _ _ _ _ hb hD
    have hA := Blk.new W 84 #[.nilFunc]
    obtain ⟨gA, egA⟩ : ∃ g, g = W.heap.size := ⟨_, rfl⟩
    rw [← egA] at blt hA ⊢
    try rw [← egA] at l3 l4
    replace hE := hE.step hb;clear hb
    generalize W.alloc (.cells #[.nilFunc] 84) = W at *
    try have nA3 : gA ≠ G3 := by omega
    try have nA4 : gA ≠ G4 := by omega
    try clear l3 l4
    have bA : w.heap.size + 1 < gA := blt;clear egA blt;refine hK.out _ _ hE.here (fun hHeld => ?_);clear hK K hHeld;try simp only [PL]
  refine wpAnyH_ready (rs := [6, 7]) (by kernel_rfl) (by simp) (AllReadyH.cons rfl (fun K hK => ?_) (AllReadyH.cons rfl (fun K hK => ?_) (AllReadyH.nil)))
  rotate_left 2
  refine wpAnyH_ready (rs := [5, 7]) (by kernel_rfl) (by simp) (AllReadyH.cons rfl (fun K hK => ?_) (AllReadyH.cons rfl (fun K hK => ?_) (AllReadyH.nil)))
  rotate_left 2
  refine wpAnyH_ready (rs := [5, 6]) (by kernel_rfl) (by simp) (AllReadyH.cons rfl (fun K hK => ?_) (AllReadyH.cons rfl (fun K hK => ?_) (AllReadyH.nil)))
  rotate_left 2
  refine wpAnyH_ready (rs := [5, 7]) (by kernel_rfl) (by simp) (AllReadyH.cons rfl (fun K hK => ?_) (AllReadyH.cons rfl (fun K hK => ?_) (AllReadyH.nil)))
  rotate_left 2
  refine r1 1 (fun K hK => ?_)
  rotate_left 1
  refine wpAnyH_ready (rs := [5, 6]) (by kernel_rfl) (by simp) (AllReadyH.cons rfl (fun K hK => ?_) (AllReadyH.cons rfl (fun K hK => ?_) (AllReadyH.nil)))
  rotate_left 2
  refine r1 1 (fun K hK => ?_)
  rotate_left 1
  all_goals go_simp
  all_goals first
   |
    go_at_call 53
    try have lA := hA.lt
    try have lB := hB.lt
    refine (vnet_c (x := x) (G := G) (N := N) (cap := cap) (Hhpf.out.below hE.bel)).mono ?_
    rintro e W ⟨gl, gv, ga, G3, G4, rfl, b3, b4, hNC, hb⟩
    try replace hA := Blk.stable _ _ _ _ _ hb hA
    try replace hB := Blk.stable _ _ _ _ _ hb hB
    try have nA3 : gA ≠ G3 := by omega
    try have nA4 : gA ≠ G4 := by omega
    try have nB3 : gB ≠ G3 := by omega
    try have nB4 : gB ≠ G4 := by omega
    replace hE := hE.step hb;clear hb b3 b4
    try clear lA
    try clear lB
    go_wp2_with fail
    refine hK.out _ _ hE.here (fun hHeld => ?_);clear hK K hHeld;try simp only [PL]
   |
    go_at_call 54
    refine (vlisted_v _ _ _ _).mono ?_
    rintro e _ ⟨rfl, rfl⟩
    have hb := belAlloc W (.cells #[.slice x.B x.m x.d] 34)
    try replace hNC := NetC.below hNC hb
    try replace hA := Blk.stable _ _ _ _ _ hb hA
    try replace hB := Blk.stable _ _ _ _ _ hb hB
    have hD := Blk.new W 34 #[.slice x.B x.m x.d]
    obtain ⟨gD, egl⟩ : ∃ g, g = W.heap.size := ⟨_, rfl⟩
    rw [← egl] at hD ⊢;replace hE := hE.step hb;clear hb
    generalize W.alloc (.cells #[.slice x.B x.m x.d] 34) = W at *
    clear egl;go_wp2_with fail
    refine hK.out _ _ hE.here (fun hHeld => ?_);clear hK K hHeld;try simp only [PL]
   |
    have hlt := hA.lt;have blt := hE.here.2.lt
    try have l3 := hNC.2.2.2.1.lt
    try have l4 := hNC.2.2.2.2.lt
    have hb := belAlloc W (.cells #[.nilFunc] 84)
    try replace hNC := NetC.below hNC hb
    try replace hD := Blk.stable _ _ _ _ _ hb hD
    try replace hA := Blk.stable _ _ _ _ _ hb hA
    have hB := Blk.new W 84 #[.nilFunc]
    obtain ⟨gB, egB⟩ : ∃ g, g = W.heap.size := ⟨_, rfl⟩
    rw [← egB] at hlt blt hB ⊢
    try rw [← egB] at l3 l4
    replace hE := hE.step hb;clear hb
    generalize W.alloc (.cells #[.nilFunc] 84) = W at *
    try have nB3 : gB ≠ G3 := by omega
    try have nB4 : gB ≠ G4 := by omega
    try clear l3 l4
    have nAB : gA ≠ gB := by omega
    have nBA : gB ≠ gA := by omega
    have bB : w.heap.size + 1 < gB := blt;clear egB hlt blt;refine hK.out _ _ hE.here (fun hHeld => ?_);clear hK K hHeld;try simp only [PL]
   |
    have blt := hE.here.2.lt
    try have l3 := hNC.2.2.2.1.lt
    try have l4 := hNC.2.2.2.2.lt
    have hb := belAlloc W (.cells #[.nilFunc] 84)
    try replace hNC := NetC.below hNC hb
    try replace hD := Blk.stable _ _ _ _ _ hb hD
    have hA := Blk.new W 84 #[.nilFunc]
    obtain ⟨gA, egA⟩ : ∃ g, g = W.heap.size := ⟨_, rfl⟩
    rw [← egA] at blt hA ⊢
    try rw [← egA] at l3 l4
    replace hE := hE.step hb;clear hb
    generalize W.alloc (.cells #[.nilFunc] 84) = W at *
    try have nA3 : gA ≠ G3 := by omega
    try have nA4 : gA ≠ G4 := by omega
    try clear l3 l4
    have bA : w.heap.size + 1 < gA := blt;clear egA blt;refine hK.out _ _ hE.here (fun hHeld => ?_);clear hK K hHeld;try simp only [PL]
  refine r1 7 (fun K hK => ?_)
  rotate_left 1
  refine r1 6 (fun K hK => ?_)
  rotate_left 1
  refine r1 7 (fun K hK => ?_)
  rotate_left 1
  refine r1 5 (fun K hK => ?_)
  rotate_left 1
  refine r1 6 (fun K hK => ?_)
  rotate_left 1
  refine r1 5 (fun K hK => ?_)
  rotate_left 1
  refine r1 7 (fun K hK => ?_)
  rotate_left 1
  refine r1 5 (fun K hK => ?_)
  rotate_left 1
  refine r1 5 (fun K hK => ?_)
  rotate_left 1
  refine r1 6 (fun K hK => ?_)
  rotate_left 1
  refine r1 5 (fun K hK => ?_)
  rotate_left 1
  refine r1 5 (fun K hK => ?_)
  rotate_left 1
  all_goals go_simp
  all_goals first
   |
    go_at_call 54
    refine (vlisted_v _ _ _ _).mono ?_
    rintro e _ ⟨rfl, rfl⟩
    have hb := belAlloc W (.cells #[.slice x.B x.m x.d] 34)
    try replace hNC := NetC.below hNC hb
    try replace hA := Blk.stable _ _ _ _ _ hb hA
    try replace hB := Blk.stable _ _ _ _ _ hb hB
    have hD := Blk.new W 34 #[.slice x.B x.m x.d]
    obtain ⟨gD, egl⟩ : ∃ g, g = W.heap.size := ⟨_, rfl⟩
    rw [← egl] at hD ⊢;replace hE := hE.step hb;clear hb
    generalize W.alloc (.cells #[.slice x.B x.m x.d] 34) = W at *
    clear egl;go_wp2_with fail
    refine hK.out _ _ hE.here (fun hHeld => ?_);clear hK K hHeld;try simp only [PL]
   |
    have hlt := hA.lt;have blt := hE.here.2.lt
    try have l3 := hNC.2.2.2.1.lt
    try have l4 := hNC.2.2.2.2.lt
    have hb := belAlloc W (.cells #[.nilFunc] 84)
    try replace hNC := NetC.below hNC hb
    try replace hD := Blk.stable _ _ _ _ _ hb hD
    try replace hA := Blk.stable _ _ _ _ _ hb hA
    have hB := Blk.new W 84 #[.nilFunc]
    obtain ⟨gB, egB⟩ : ∃ g, g = W.heap.size := ⟨_, rfl⟩
    rw [← egB] at hlt blt hB ⊢
    try rw [← egB] at l3 l4
    replace hE := hE.step hb;clear hb
    generalize W.alloc (.cells #[.nilFunc] 84) = W at *
    try have nB3 : gB ≠ G3 := by omega
    try have nB4 : gB ≠ G4 := by omega
    try clear l3 l4
    have nAB : gA ≠ gB := by omega
    have nBA : gB ≠ gA := by omega
    have bB : w.heap.size + 1 < gB := blt;clear egB hlt blt;refine hK.out _ _ hE.here (fun hHeld => ?_);clear hK K hHeld;try simp only [PL]
  have s6 : True := trivial
  rotate_left 1
  have s7 : True := trivial
  rotate_left 1
  have s6 : True := trivial
  rotate_left 1
  have s6 : True := trivial
  rotate_left 1
  have s7 : True := trivial
  rotate_left 1
  have s7 : True := trivial
  rotate_left 1
  have s6 : True := trivial
  rotate_left 1
  have s6 : True := trivial
  rotate_left 1
  have s6 : True := trivial
  rotate_left 1
  have s7 : True := trivial
  rotate_left 1
  have s7 : True := trivial
  rotate_left 1
  have s7 : True := trivial
  rotate_left 1
  all_goals refine r1 8 (fun K hK => ?_)
  all_goals first
   |
    have _sx := s6;have x0 := hA.c1;have f0 := hA.frozen 0;obtain ⟨iE, iN, iD, iX, iY⟩ := ret_st hE hNC hD hA hB lt0 bA nBA nA3 nA4 (.func (.func 103) #[] #[.pointer (some ⟨G3, 0, none⟩), .pointer (some ⟨G4, 0, none⟩)]);go_simp;refine hK.out _ _ iE.here (fun hHeld => ?_);clear hK K hHeld x0 f0 hE hNC hD hA hB _sx
    generalize W.setCell ⟨gA, 0, none⟩ (.func (.func 103) #[] #[.pointer (some ⟨G3, 0, none⟩), .pointer (some ⟨G4, 0, none⟩)]) = W at *
    have hE := iE;have hNC := iN;have hD := iD;have hA := iX;have hB := iY;clear iE iN iD iX iY;try simp only [PL]
   |
    have _sx := s7;have x0 := hB.c1;have f0 := hB.frozen 0;obtain ⟨iE, iN, iD, iX, iY⟩ := ret_st hE hNC hD hB hA lt0 bB nAB nB3 nB4 (.func (.func 103) #[] #[.pointer (some ⟨G3, 0, none⟩), .pointer (some ⟨G4, 0, none⟩)]);go_simp;refine hK.out _ _ iE.here (fun hHeld => ?_);clear hK K hHeld x0 f0 hE hNC hD hA hB _sx
    generalize W.setCell ⟨gB, 0, none⟩ (.func (.func 103) #[] #[.pointer (some ⟨G3, 0, none⟩), .pointer (some ⟨G4, 0, none⟩)]) = W at *
    have hE := iE;have hNC := iN;have hD := iD;have hB := iX;have hA := iY;clear iE iN iD iX iY;try simp only [PL]
  all_goals refine r1 9 (fun K hK => ?_)
  all_goals first
   |
    have _sx := s7;have x0 := hA.c1;have f0 := hA.frozen 0;obtain ⟨iE, iN, iD, iX, iY⟩ := ret_st hE hNC hD hA hB lt0 bA nBA nA3 nA4 (.func (.func 104) #[] #[.pointer (some ⟨gD, 0, none⟩)]);go_simp;refine hK.out _ _ iE.here (fun hHeld => ?_);clear hK K hHeld x0 f0 hE hNC hD hA hB _sx
    generalize W.setCell ⟨gA, 0, none⟩ (.func (.func 104) #[] #[.pointer (some ⟨gD, 0, none⟩)]) = W at *
    have hE := iE;have hNC := iN;have hD := iD;have hA := iX;have hB := iY;clear iE iN iD iX iY;try simp only [PL]
   |
    have _sx := s6;have x0 := hB.c1;have f0 := hB.frozen 0;obtain ⟨iE, iN, iD, iX, iY⟩ := ret_st hE hNC hD hB hA lt0 bB nAB nB3 nB4 (.func (.func 104) #[] #[.pointer (some ⟨gD, 0, none⟩)]);go_simp;refine hK.out _ _ iE.here (fun hHeld => ?_);clear hK K hHeld x0 f0 hE hNC hD hA hB _sx
    generalize W.setCell ⟨gB, 0, none⟩ (.func (.func 104) #[] #[.pointer (some ⟨gD, 0, none⟩)]) = W at *
    have hE := iE;have hNC := iN;have hD := iD;have hB := iX;have hA := iY;clear iE iN iD iX iY;try simp only [PL]
  all_goals refine wpAnyH_done (by kernel_rfl) ?_ _
  all_goals go_wp2_with fail
  all_goals go_meet
  all_goals first
   | exact ⟨gl, gv, ga, G3, G4, gD, gA, gB, rfl, rfl, ⟨bA, bB, nAB⟩, (((hE.netc hNC).blkI hD).blkI hA).blkI hB⟩
   | exact ⟨gl, gv, ga, G3, G4, gD, gB, gA, rfl, rfl, ⟨bB, bA, nBA⟩, (((hE.netc hNC).blkI hD).blkI hB).blkI hA⟩
 case rest =>
 clear hE HW0;obtain ⟨gl, gv, ga, G3, G4, gD, GA, GB, rfl, rfl, ⟨bA, bB, nAB⟩, hE⟩ := hcut;have hpn := pay_net (M := N) (hE.h3) (Hhpf.out.below hE.bel) HhT.out (RdI.below Hhx.out.2.1 hE.bel) Hhlb.out (by omega) (fun k _ => (Hhl3.out k).1) (fun k _ => (Hhl3.out k).2.1) (fun k _ => (Hhl3.out k).2.2);change PayC _ x.L N _ at hpn;have hpd := pay_listed (l := x.k) (N := N) (hE.h2) (RdI.below Hhx.out.2.2 hE.bel) Hhkb.out (by omega);change PayC _ x.K N _ at hpd;replace hE := (((((((Env.again hE.bel).blkI (hE.h6)).atI (hE.h5)).blkI (hE.h4)).blkI (hE.h2)).blkI (hE.here.1.2)).blkI (hE.here.2));replace hE := (hE.pay hpn).pay hpd;clear hpn hpd;have k1 := (hE.h3).c1;have k2 := (hE.h2).c1;have k3 := (hE.h7).cell 0;have k4 := (hE.h7).cell 1;have k5 := (hE.h7).cell 2;have k6 := (hE.h7).cell 3;have k7 := (hE.h7).cell 4;have k8 := (hE.h7).cell 5;have k9 := (hE.h7).cell 6;have k10 := (hE.h7).cell 7;have k11 := (hE.h7).cell 8;have k12 := (hE.h7).cell 9;go_wp2_with fail
 have hc := vvalue_v (x := x) (h := h) (ColP.below HhC.out hE.bel) (ColQ.stable _ _ _ _ _ _ hE.bel HhQ.out) HhN.out h80 (hE.here.1.2) (hE.here.2) Hhvl.out 0 HhN.out.pos;rw [va_zero] at hc;refine hE.fr (hc) ?_;clear hE k1 k2 k3 k4 k5 k6 k7 k8 k9 k10 k11 k12;intro sp Ap np cp tp Bp mp dp w13 hE;clear hc;have HPN := Lib.hid (hE.h2);have HPD := Lib.hid (hE.here.1.2);replace hE := ((((((((Env.again hE.bel).blkI (hE.h8)).atI (hE.h7)).blkI (hE.h6)).blkI (hE.h5)).blkI (hE.h4)).blkI (hE.h3)).fv (hE.here.2))
 go_upto_region 3 with (fail)
 have hwf : Below w13.heap.size w13 (w13.alloc (.cells (qf4 sp Ap np cp tp Bp mp dp) 29)) := belAlloc _ _
 obtain ⟨Pp, hPp⟩ : ∃ g, g = w13.heap.size := ⟨_, rfl⟩
 have hq0 : w.heap.size < Pp := by rw [hPp]; exact (hE.h6).lt
 have hq2 : w.heap.size + 1 < Pp := by rw [hPp]; exact (hE.h4).lt
 have hq3 : gD < Pp := by rw [hPp]; exact (hE.h3).lt
 have hq4 : GA < Pp := by rw [hPp]; exact (hE.h2).lt
 have hq5 : GB < Pp := by rw [hPp]; exact (hE.here.1.2).lt
 replace hE := hE.blk 29 (qf4 sp Ap np cp tp Bp mp dp) (g := Pp) hPp.symm;generalize w13.alloc (.cells (qf4 sp Ap np cp tp Bp mp dp) 29) = Wa at hE hwf ⊢;rw [← hPp];have HPp := Lib.hid hPp;clear hPp;have k14 := (hE.h6).2;have k15 := (hE.h7).cell 0;have k16 := (hE.h7).cell 1;have k17 := (hE.h7).cell 2;have k18 := (hE.h7).cell 3;have k19 := (hE.h7).cell 4;have k20 := (hE.h7).cell 5;have k21 := (hE.h7).cell 6;have k22 := (hE.h7).cell 7;have k23 := (hE.h7).cell 8;have k24 := (hE.h7).cell 9;go_wp2_with fail
 refine (vbefore_v (x := x) (G := G) (N := N) (cap := cap) _ _).mono ?_;clear k14 k15 k16 k17 k18 k19 k20 k21 k22 k23 k24
 rintro e _ ⟨rfl, rfl⟩
 go_wp2_with fail
 have hBl : Pp < Wa.heap.size := (hE.here.2).lt;have hE := (hE.blk 80 (x.Q G N cap) (g := Wa.heap.size) rfl).blk 3 #[.int .i64 (t : Int)] (g := Wa.heap.size + 1) (by simp);have hwf2 : Below w13.heap.size w13 ((Wa.alloc (.cells (x.Q G N cap) 80)).alloc (.cells #[.int .i64 (t : Int)] 3)) := (hwf.alloc hwf.size _).alloc (by simp; have := hwf.size; omega) _;generalize hBv : Wa.heap.size = Bv at hE hBl ⊢
 have hsz : ((Wa.alloc (.cells (x.Q G N cap) 80)).alloc (.cells #[.int .i64 (t : Int)] 3)).heap.size = Bv + 2 := by simp [hBv]
 generalize (Wa.alloc (.cells (x.Q G N cap) 80)).alloc (.cells #[.int .i64 (t : Int)] 3) = Wr at hE hsz hwf2 ⊢;clear hBv hwf;have hPe1 : w13.heap.size ≤ Pp := Nat.le_of_eq HPp.out.symm;have hPe2 : Pp ≤ w13.heap.size := Nat.le_of_eq HPp.out
 have hsw : w.heap.size ≤ Wr.heap.size := by omega
 have hcs : Pp ≤ Wr.heap.size := by omega
 have hSF : ∀ k, k < N → sf (yr v f x.L x.K) N k - yr v f x.L x.K k = sf (yr v f x.L x.K) N (k + 1) := fun k hk => by have := sf_step (yr v f x.L x.K) hk; grind
 have HhSF := Lib.hid hSF;clear hSF;refine (wpIn_wide (n := 5)).1 ?_
 refine rangeV (n := 5) hro (by decide) (gf := 109) (lb := #[.pointer (some ⟨Bv + 1, 0, none⟩), .pointer (some ⟨Bv, 0, none⟩)]) rfl trivial (enters_of Tryz.func109 (by kernel_rfl) rfl)
  (bef_seq (5 - 1) (by decide) Bv (Bv + 1) Pp (by omega) HhC.out HhQ.out h80 (Nat.le_of_lt ht) Wr hE.bel (hE.here.1.2) (hE.here.2)) (fun h1 h2 => ⟨KpB.t h1.1 h2.1, KpB.t h1.2 h2.2⟩) (fun W l o o' a b c d => ⟨KpB.b hcs (by omega) W l o o' a b c d, KpB.b hcs (by omega) W l o o' a b c d⟩) (Below.refl _ _) (fun _ => rfl)
  (fun pre W => (ReI w w13 gt (w.heap.size + 1) GA GB Pp t (x.Q G N cap) (.func (.func 103) #[] #[.pointer (some ⟨G3, 0, none⟩), .pointer (some ⟨G4, 0, none⟩)]) (.func (.func 104) #[] #[.pointer (some ⟨gD, 0, none⟩)]) (sf (yr v f x.L x.K) N pre.length) W ∧ Bv + 1 < W.heap.size) ∧ Pp ≤ W.heap.size) (fun _ _ _ => False)
  (fun s W W' row h hg hr => ⟨⟨ReI.grown hsw (by omega) (by omega) _ _ _ _ _ _ _ _ _ W W' row h.1.1 hg hr, Nat.lt_of_lt_of_le h.1.2 hg.size⟩, Nat.le_trans h.2 hg.size⟩) (fun _ _ _ _ _ h _ _ => h)
  ⟨⟨⟨_, _, _, _, _, _, _, _, ((((((((Env.again hE.bel).blkI (hE.h9)).atI (hE.h8)).blkI (hE.h7)).blkI (hE.h5)).blkI (hE.h4)).fv (hE.h3)).blkI (hE.h2)), hwf2⟩, by omega⟩, hcs⟩
  (CAx (colq v f N) Pp (fun gc yv rv => { tmps := #[.agg (x.Q G N cap), .pointer (some ⟨gt, 0, none⟩), .pointer (some ⟨w.heap.size, 0, none⟩), .pointer (some ⟨w.heap.size + 1, 0, none⟩), .pointer (some ⟨GA, 0, none⟩), .pointer (some ⟨GB, 0, none⟩), .pointer (some ⟨Pp, 0, none⟩), yv, .pointer (some ⟨gc, 0, none⟩), u9, u10, u11, u12, u13, u14, .agg (x.Q G N cap), .func (.func 103) #[] #[.pointer (some ⟨G3, 0, none⟩), .pointer (some ⟨G4, 0, none⟩)], .func (.func 104) #[] #[.pointer (some ⟨gD, 0, none⟩)], .agg (qf4 sp Ap np cp tp Bp mp dp), .agg (x.Q G N cap), .int .i64 (t : Int), .func (.func 109) #[] #[.pointer (some ⟨Bv + 1, 0, none⟩), .pointer (some ⟨Bv, 0, none⟩)], yv, rv, undef, undef, undef, undef, undef, undef, undef, undef, undef, undef, undef, undef, undef, undef, undef], defers := [] })) (fun pre x a' => fun _ W W' row h hg hr => CAx.grown W W' row h hg hr) ?assign ?body ?done ?stop
 case assign =>
  rintro l pre ⟨xk, xx⟩ W K ⟨⟨hI, hBs⟩, hcW⟩ ⟨hxk, hxf⟩ hK
  dsimp only at hxk hxf
  subst hxk;obtain ⟨V, hst, hld2, hba, -, hbk⟩ := col_store W xx;have hT1 := (Trail.refl (B := Wr.heap.size) (n₀ := Pp) (Bs := Bv) W (by omega) hcW).step hba;have hT2 := (Trail.refl (B := Wr.heap.size) (n₀ := Pp) (Bs := Bv + 1) W hBs hcW).step hba
  have hfin := fun a hax => hK a V hT1.keeps ⟨hT1.kp, hT2.kp⟩ ⟨⟨ReI.step hI hba, Nat.lt_of_lt_of_le hBs hba.size⟩, Nat.le_trans hcW hba.size⟩ ⟨rfl, W.heap.size, hax, by omega, hbk.lt, ⟨(hxf 0 (by decide) trivial).below hba, (hxf 3 (by decide) trivial).below hba⟩, hbk⟩
  have HF := Lib.hid hfin;clear hfin hK hI hxf hbk hT1 hT2 hba hld2
  dsimp only [Cl.vals]
  gi_wp2_with (refine wpListIn_st hst rfl rfl rfl rfl ?_)
  exact HF.out _ rfl
 case body =>
  rintro l pre ⟨xk, xx⟩ a' W ⟨⟨⟨sq, Aq, nq, cq, tq, Bq, mq, dq, hE, hwW⟩, hBs⟩, hcW⟩ ⟨hxk, gx, rfl, hg1, hg2, ⟨hx0, hx3⟩, hxb⟩ hlen
  dsimp only at hxk hx0 hx3 hxb hg1 hg2
  subst hxk;have hE := (((((hE.fv hx0).fv hx3).blkI hxb).trail (Trail.refl (B := Wr.heap.size) (n₀ := Pp) (Bs := Bv) W (by omega) hcW)).trail (Trail.refl (B := Wr.heap.size) (n₀ := Pp) (Bs := Bv + 1) W hBs hcW)).wfb hwW;clear hx0 hx3 hxb
  have hmx : Tryz.prog.follows .mixedOrders = true := by kernel_rfl
  have hlen2 : (pre ++ [Cl.mk pre.length xx]).length = pre.length + 1 := by simp
  have Hlen2 := Lib.hid hlen2;clear hlen2
  have hkN : pre.length < N := by omega
  refine wpIn_block ?_;refine wpIn_region_any (by assumption) ?_;replace hE := hE.drew;change wpAnyIn _ _ _ _ _ _ _ _ _ (W.drew);generalize W.drew = wd at hE ⊢;refine wpAnyIn_ready (rs := [0, 1, 2, 3, 4]) (by kernel_rfl) (by simp) ?rr25;refine AllReadyIn.cons rfl (fun K hK => ?_) ?_
  ·
   obtain ⟨k26, k27, k28, k29⟩ := (hE.h6).c4;go_simp;refine hK _ _ ?_;clear hK K;try simp only [PL]
   clear k26 k27 k28 k29;refine wpAnyIn_relist (l' := #[true, false, false, false, false, false, false, false]) (by kernel_rfl) ?_;refine ?c1_0;refine wpAnyIn_ready (rs := [1, 2, 3, 4]) (by kernel_rfl) (by simp) ?rr30;refine AllReadyIn.cons rfl (fun K hK => ?_) ?_
   ·
    go_simp;refine hK _ _ ?_;clear hK K;try simp only [PL]
    refine wpAnyIn_relist (l' := #[true, true, false, false, false, false, false, false]) (by kernel_rfl) ?_;refine ?c1_01;refine wpAnyIn_ready (rs := [2, 3, 4]) (by kernel_rfl) (by simp) ?rr31;refine AllReadyIn.cons rfl (fun K hK => ?_) ?_
    ·
     refine Eq.mpr (if_pos (by rfl)) ?_;refine ld_stepIn (x := .tmp 8) (col_ldB (hE.h3)) rfl rfl ?_;refine hK _ _ ?_;clear hK K;try simp only [PL]
     refine wpAnyIn_relist (l' := #[true, true, true, false, false, false, false, false]) (by kernel_rfl) ?_;refine ?c1_012;refine wpAnyIn_ready (rs := [3, 4]) (by kernel_rfl) (by simp) ?rr32;refine AllReadyIn.cons rfl (fun K hK => ?_) ?_
     ·
      have k33 := (hE.h9).c1;go_simp;refine hK _ _ ?_;clear hK K;try simp only [PL]
      clear k33;refine wpAnyIn_relist (l' := #[true, true, true, true, false, false, false, false]) (by kernel_rfl) ?_;refine ?c1_0123;refine wpAnyIn_ready (rs := [4]) (by kernel_rfl) (by simp) ?rr34;refine AllReadyIn.cons rfl (fun K hK => ?_) ?_
      ·
       have k35 := (hE.h8).c1;go_simp;refine hK _ _ ?_;clear hK K;try simp only [PL]
       clear k35;refine wpAnyIn_relist (l' := #[true, true, true, true, true, false, false, false]) (by kernel_rfl) ?_;refine ?c1_01234;refine wpAnyIn_ready (rs := [5]) (by kernel_rfl) (by simp) ?rr36;refine AllReadyIn.cons rfl (fun K hK => ?_) ?_
       ·
        go_simp;skip
        first | refine ⟨trivial, fun _ => by omega, (CallsIn.inRound l (callsIn_wide.2 ((show Calls _ _ _ _ (FR (yr v f x.L x.K pre.length) _) from vyear_v (x := xx) (q0 := dd v f pre.length) (q3 := cc v f pre.length) (L := x.L) (U := x.K) (N := N) (hE.h5) (hE.h4) (HPN.out.below (hE.here.2)) (HPD.out.below (hE.here.2)) pre.length (Nat.le_of_lt hkN) (Hhvl.out.l _ hkN) (Hhvl.out.k _ hkN) (Hhvl.out.d _ hkN) (Hhvl.out.c _ hkN) (Hhvl.out.ld _ hkN) (Hhvl.out.kc _ hkN) (Hhvl.out.y _ hkN))))).mono ?_⟩ | refine ⟨trivial, (CallsIn.inRound l (callsIn_wide.2 ((show Calls _ _ _ _ (FR (yr v f x.L x.K pre.length) _) from vyear_v (x := xx) (q0 := dd v f pre.length) (q3 := cc v f pre.length) (L := x.L) (U := x.K) (N := N) (hE.h5) (hE.h4) (HPN.out.below (hE.here.2)) (HPD.out.below (hE.here.2)) pre.length (Nat.le_of_lt hkN) (Hhvl.out.l _ hkN) (Hhvl.out.k _ hkN) (Hhvl.out.d _ hkN) (Hhvl.out.c _ hkN) (Hhvl.out.ld _ hkN) (Hhvl.out.kc _ hkN) (Hhvl.out.y _ hkN))))).mono ?_⟩ | refine ⟨trivial, trivial, (CallsIn.inRound l (callsIn_wide.2 ((show Calls _ _ _ _ (FR (yr v f x.L x.K pre.length) _) from vyear_v (x := xx) (q0 := dd v f pre.length) (q3 := cc v f pre.length) (L := x.L) (U := x.K) (N := N) (hE.h5) (hE.h4) (HPN.out.below (hE.here.2)) (HPD.out.below (hE.here.2)) pre.length (Nat.le_of_lt hkN) (Hhvl.out.l _ hkN) (Hhvl.out.k _ hkN) (Hhvl.out.d _ hkN) (Hhvl.out.c _ hkN) (Hhvl.out.ld _ hkN) (Hhvl.out.kc _ hkN) (Hhvl.out.y _ hkN))))).mono ?_⟩ | refine ⟨trivial, trivial, fun _ => by omega, (CallsIn.inRound l (callsIn_wide.2 ((show Calls _ _ _ _ (FR (yr v f x.L x.K pre.length) _) from vyear_v (x := xx) (q0 := dd v f pre.length) (q3 := cc v f pre.length) (L := x.L) (U := x.K) (N := N) (hE.h5) (hE.h4) (HPN.out.below (hE.here.2)) (HPD.out.below (hE.here.2)) pre.length (Nat.le_of_lt hkN) (Hhvl.out.l _ hkN) (Hhvl.out.k _ hkN) (Hhvl.out.d _ hkN) (Hhvl.out.c _ hkN) (Hhvl.out.ld _ hkN) (Hhvl.out.kc _ hkN) (Hhvl.out.y _ hkN))))).mono ?_⟩
        rintro e w37 ⟨sy, Ay, ny, cy, ty, By, my, dy, rfl, hy, hb⟩
        replace hE := hE.step hb;clear hb;replace hE := hE.fv hy;clear hy;refine hK _ _ ?_;clear hK K;try simp only [PL]
        refine wpAnyIn_ready (rs := [6]) (by kernel_rfl) (by simp) ?rr38;refine AllReadyIn.cons rfl (fun K hK => ?_) ?_
        ·
         go_simp;have hc := vminus_v (ca := cq) (da := dq) (cb := cy) (db := dy) (hE.h8) (hE.here.2) (Hhvl.out.s _ N (Nat.le_refl _)) (Hhvl.out.y _ hkN) (by rw [HhSF.out _ hkN]; exact Hhvl.out.s _ N (Nat.le_refl _));rw [HhSF.out _ hkN] at hc;skip
         first | refine ⟨trivial, fun _ => by omega, (CallsIn.inRound l (callsIn_wide.2 (hc))).mono ?_⟩ | refine ⟨trivial, (CallsIn.inRound l (callsIn_wide.2 (hc))).mono ?_⟩ | refine ⟨trivial, trivial, (CallsIn.inRound l (callsIn_wide.2 (hc))).mono ?_⟩ | refine ⟨trivial, trivial, fun _ => by omega, (CallsIn.inRound l (callsIn_wide.2 (hc))).mono ?_⟩
         rintro e w39 ⟨sz, Az, nz, cz, tz, Bz, mz, dz, rfl, hz, hb⟩
         replace hE := hE.step hb;clear hb;replace hE := hE.fv hz;clear hz;clear hc;refine hK _ _ ?_;clear hK K;try simp only [PL]
         refine wpAnyIn_ready (rs := [7]) (by kernel_rfl) (by simp) ?rr40;refine AllReadyIn.cons rfl (fun K hK => ?_) ?_
         ·
          have hgl41 : w.heap.size ≤ Pp := by omega
          obtain ⟨x41_0, x41_1, x41_2, x41_3⟩ := (hE.h8).c4;obtain ⟨f41_0, f41_1, f41_2, f41_3⟩ := hE.h8.f4;replace hE := ((((((((((((((((Env.again (bel4 hE.bel hgl41 (.bool sz) (.slice Az nz cz) (.bool tz) (.slice Bz mz dz))).blkI ((hE.here.1.1.1.1.1.1.1.1.1.1.1.1.1.1.2).far4 (by omega) _ _ _ _)).atI ((hE.h13).far4 (by first | omega | exact At.apart (hE.h13) (hE.h8) rfl) _ _ _ _)).blkI ((hE.h12).far4 (by omega) _ _ _ _)).blkI ((hE.h11).far4 (by omega) _ _ _ _)).blkI ((hE.h10).far4 (by omega) _ _ _ _)).fv ((hE.h9).sep4 hE.h8 rfl _ _ _ _ rfl rfl rfl)).blkI ((hE.h8).s4 _ _ _ _)).fv ((hE.h7).sep4 hE.h8 rfl _ _ _ _ rfl rfl rfl)).fv ((hE.h6).sep4 hE.h8 rfl _ _ _ _ rfl rfl rfl)).blkI ((hE.h5).far4 (by omega) _ _ _ _)).trail ((hE.h4).set4 ⟨by omega, by omega, by omega⟩ _ _ _ _)).trail ((hE.h3).set4 ⟨by omega, by omega, by omega⟩ _ _ _ _)).wfb (wfb_st4 (hE.h2) (by omega) _ _ _ _)).fv ((hE.here.1.2).sep4 hE.h8 rfl _ _ _ _ rfl rfl rfl)).fv ((hE.here.2).sep4 hE.h8 rfl _ _ _ _ rfl rfl rfl));go_simp;clear x41_0 x41_1 x41_2 x41_3 f41_0 f41_1 f41_2 f41_3 hgl41;generalize ((((w39.setCell ⟨Pp, 0, none⟩ (.bool sz)).setCell ⟨Pp, 1, none⟩ (.slice Az nz cz)).setCell ⟨Pp, 2, none⟩ (.bool tz)).setCell ⟨Pp, 3, none⟩ (.slice Bz mz dz)) = W41 at hE ⊢;refine hK _ _ ?_;clear hK K;try simp only [PL]
          refine wpAnyIn_done (by kernel_rfl) ?_ _;refine ⟨(hE.h4).keeps, ⟨(hE.h4).kp, (hE.h3).kp⟩, ⟨⟨?_, (hE.h3).hs⟩, ?_⟩⟩
          ·
           show ReI w w13 gt (w.heap.size + 1) GA GB Pp t (x.Q G N cap) (.func (.func 103) #[] #[.pointer (some ⟨G3, 0, none⟩), .pointer (some ⟨G4, 0, none⟩)]) (.func (.func 104) #[] #[.pointer (some ⟨gD, 0, none⟩)]) (sf (yr v f x.L x.K) N (pre ++ [Cl.mk pre.length xx]).length) _;rw [Hlen2.out];exact ⟨_, _, _, _, _, _, _, _, ((((((((Env.again hE.bel).blkI (hE.here.1.1.1.1.1.1.1.1.1.1.1.1.1.1.2)).atI (hE.h13)).blkI (hE.h12)).blkI (hE.h11)).blkI (hE.h10)).fv (hE.here.2)).blkI (hE.h8)), hE.h2⟩
          ·
           show Pp ≤ _;exact Nat.le_trans hcW (hE.h4).keeps.size
         exact AllReadyIn.nil
        exact AllReadyIn.nil
       exact AllReadyIn.nil
      exact AllReadyIn.nil
     refine AllReadyIn.cons rfl (fun K hK => ?_) ?_
     ·
      have k42 := (hE.h8).c1;go_simp;refine hK _ _ ?_;clear hK K;try simp only [PL]
      clear k42;refine wpAnyIn_relist (l' := #[true, true, true, false, true, false, false, false]) (by kernel_rfl) ?_;refine ?c1_0124;refine wpAnyIn_ready (rs := [3]) (by kernel_rfl) (by simp) ?rr43;refine AllReadyIn.cons rfl (fun K hK => ?_) ?_
      ·
       have k44 := (hE.h9).c1;go_simp;refine hK _ _ ?_;clear hK K;try simp only [PL]
       clear k44;refine wpAnyIn_relist (l' := #[true, true, true, true, true, false, false, false]) (by kernel_rfl) ?_;exact ?c1_01234
      exact AllReadyIn.nil
     exact AllReadyIn.nil
    refine AllReadyIn.cons rfl (fun K hK => ?_) ?_
    ·
     have k45 := (hE.h9).c1;go_simp;refine hK _ _ ?_;clear hK K;try simp only [PL]
     clear k45;refine wpAnyIn_relist (l' := #[true, true, false, true, false, false, false, false]) (by kernel_rfl) ?_;refine ?c1_013;refine wpAnyIn_ready (rs := [2, 4]) (by kernel_rfl) (by simp) ?rr46;refine AllReadyIn.cons rfl (fun K hK => ?_) ?_
     ·
      refine Eq.mpr (if_pos (by rfl)) ?_;refine ld_stepIn (x := .tmp 8) (col_ldB (hE.h3)) rfl rfl ?_;refine hK _ _ ?_;clear hK K;try simp only [PL]
      refine wpAnyIn_relist (l' := #[true, true, true, true, false, false, false, false]) (by kernel_rfl) ?_;exact ?c1_0123
     refine AllReadyIn.cons rfl (fun K hK => ?_) ?_
     ·
      have k47 := (hE.h8).c1;go_simp;refine hK _ _ ?_;clear hK K;try simp only [PL]
      clear k47;refine wpAnyIn_relist (l' := #[true, true, false, true, true, false, false, false]) (by kernel_rfl) ?_;refine ?c1_0134;refine wpAnyIn_ready (rs := [2]) (by kernel_rfl) (by simp) ?rr48;refine AllReadyIn.cons rfl (fun K hK => ?_) ?_
      ·
       refine Eq.mpr (if_pos (by rfl)) ?_;refine ld_stepIn (x := .tmp 8) (col_ldB (hE.h3)) rfl rfl ?_;refine hK _ _ ?_;clear hK K;try simp only [PL]
       refine wpAnyIn_relist (l' := #[true, true, true, true, true, false, false, false]) (by kernel_rfl) ?_;exact ?c1_01234
      exact AllReadyIn.nil
     exact AllReadyIn.nil
    refine AllReadyIn.cons rfl (fun K hK => ?_) ?_
    ·
     have k49 := (hE.h8).c1;go_simp;refine hK _ _ ?_;clear hK K;try simp only [PL]
     clear k49;refine wpAnyIn_relist (l' := #[true, true, false, false, true, false, false, false]) (by kernel_rfl) ?_;refine ?c1_014;refine wpAnyIn_ready (rs := [2, 3]) (by kernel_rfl) (by simp) ?rr50;refine AllReadyIn.cons rfl (fun K hK => ?_) ?_
     ·
      refine Eq.mpr (if_pos (by rfl)) ?_;refine ld_stepIn (x := .tmp 8) (col_ldB (hE.h3)) rfl rfl ?_;refine hK _ _ ?_;clear hK K;try simp only [PL]
      refine wpAnyIn_relist (l' := #[true, true, true, false, true, false, false, false]) (by kernel_rfl) ?_;exact ?c1_0124
     refine AllReadyIn.cons rfl (fun K hK => ?_) ?_
     ·
      have k51 := (hE.h9).c1;go_simp;refine hK _ _ ?_;clear hK K;try simp only [PL]
      clear k51;refine wpAnyIn_relist (l' := #[true, true, false, true, true, false, false, false]) (by kernel_rfl) ?_;exact ?c1_0134
     exact AllReadyIn.nil
    exact AllReadyIn.nil
   refine AllReadyIn.cons rfl (fun K hK => ?_) ?_
   ·
    refine Eq.mpr (if_pos (by rfl)) ?_;refine ld_stepIn (x := .tmp 8) (col_ldB (hE.h3)) rfl rfl ?_;refine hK _ _ ?_;clear hK K;try simp only [PL]
    refine wpAnyIn_relist (l' := #[true, false, true, false, false, false, false, false]) (by kernel_rfl) ?_;refine ?c1_02;refine wpAnyIn_ready (rs := [1, 3, 4]) (by kernel_rfl) (by simp) ?rr52;refine AllReadyIn.cons rfl (fun K hK => ?_) ?_
    ·
     go_simp;refine hK _ _ ?_;clear hK K;try simp only [PL]
     refine wpAnyIn_relist (l' := #[true, true, true, false, false, false, false, false]) (by kernel_rfl) ?_;exact ?c1_012
    refine AllReadyIn.cons rfl (fun K hK => ?_) ?_
    ·
     have k53 := (hE.h9).c1;go_simp;refine hK _ _ ?_;clear hK K;try simp only [PL]
     clear k53;refine wpAnyIn_relist (l' := #[true, false, true, true, false, false, false, false]) (by kernel_rfl) ?_;refine ?c1_023;refine wpAnyIn_ready (rs := [1, 4]) (by kernel_rfl) (by simp) ?rr54;refine AllReadyIn.cons rfl (fun K hK => ?_) ?_
     ·
      go_simp;refine hK _ _ ?_;clear hK K;try simp only [PL]
      refine wpAnyIn_relist (l' := #[true, true, true, true, false, false, false, false]) (by kernel_rfl) ?_;exact ?c1_0123
     refine AllReadyIn.cons rfl (fun K hK => ?_) ?_
     ·
      have k55 := (hE.h8).c1;go_simp;refine hK _ _ ?_;clear hK K;try simp only [PL]
      clear k55;refine wpAnyIn_relist (l' := #[true, false, true, true, true, false, false, false]) (by kernel_rfl) ?_;refine ?c1_0234;refine wpAnyIn_ready (rs := [1]) (by kernel_rfl) (by simp) ?rr56;refine AllReadyIn.cons rfl (fun K hK => ?_) ?_
      ·
       go_simp;refine hK _ _ ?_;clear hK K;try simp only [PL]
       refine wpAnyIn_relist (l' := #[true, true, true, true, true, false, false, false]) (by kernel_rfl) ?_;exact ?c1_01234
      exact AllReadyIn.nil
     exact AllReadyIn.nil
    refine AllReadyIn.cons rfl (fun K hK => ?_) ?_
    ·
     have k57 := (hE.h8).c1;go_simp;refine hK _ _ ?_;clear hK K;try simp only [PL]
     clear k57;refine wpAnyIn_relist (l' := #[true, false, true, false, true, false, false, false]) (by kernel_rfl) ?_;refine ?c1_024;refine wpAnyIn_ready (rs := [1, 3]) (by kernel_rfl) (by simp) ?rr58;refine AllReadyIn.cons rfl (fun K hK => ?_) ?_
     ·
      go_simp;refine hK _ _ ?_;clear hK K;try simp only [PL]
      refine wpAnyIn_relist (l' := #[true, true, true, false, true, false, false, false]) (by kernel_rfl) ?_;exact ?c1_0124
     refine AllReadyIn.cons rfl (fun K hK => ?_) ?_
     ·
      have k59 := (hE.h9).c1;go_simp;refine hK _ _ ?_;clear hK K;try simp only [PL]
      clear k59;refine wpAnyIn_relist (l' := #[true, false, true, true, true, false, false, false]) (by kernel_rfl) ?_;exact ?c1_0234
     exact AllReadyIn.nil
    exact AllReadyIn.nil
   refine AllReadyIn.cons rfl (fun K hK => ?_) ?_
   ·
    have k60 := (hE.h9).c1;go_simp;refine hK _ _ ?_;clear hK K;try simp only [PL]
    clear k60;refine wpAnyIn_relist (l' := #[true, false, false, true, false, false, false, false]) (by kernel_rfl) ?_;refine ?c1_03;refine wpAnyIn_ready (rs := [1, 2, 4]) (by kernel_rfl) (by simp) ?rr61;refine AllReadyIn.cons rfl (fun K hK => ?_) ?_
    ·
     go_simp;refine hK _ _ ?_;clear hK K;try simp only [PL]
     refine wpAnyIn_relist (l' := #[true, true, false, true, false, false, false, false]) (by kernel_rfl) ?_;exact ?c1_013
    refine AllReadyIn.cons rfl (fun K hK => ?_) ?_
    ·
     refine Eq.mpr (if_pos (by rfl)) ?_;refine ld_stepIn (x := .tmp 8) (col_ldB (hE.h3)) rfl rfl ?_;refine hK _ _ ?_;clear hK K;try simp only [PL]
     refine wpAnyIn_relist (l' := #[true, false, true, true, false, false, false, false]) (by kernel_rfl) ?_;exact ?c1_023
    refine AllReadyIn.cons rfl (fun K hK => ?_) ?_
    ·
     have k62 := (hE.h8).c1;go_simp;refine hK _ _ ?_;clear hK K;try simp only [PL]
     clear k62;refine wpAnyIn_relist (l' := #[true, false, false, true, true, false, false, false]) (by kernel_rfl) ?_;refine ?c1_034;refine wpAnyIn_ready (rs := [1, 2]) (by kernel_rfl) (by simp) ?rr63;refine AllReadyIn.cons rfl (fun K hK => ?_) ?_
     ·
      go_simp;refine hK _ _ ?_;clear hK K;try simp only [PL]
      refine wpAnyIn_relist (l' := #[true, true, false, true, true, false, false, false]) (by kernel_rfl) ?_;exact ?c1_0134
     refine AllReadyIn.cons rfl (fun K hK => ?_) ?_
     ·
      refine Eq.mpr (if_pos (by rfl)) ?_;refine ld_stepIn (x := .tmp 8) (col_ldB (hE.h3)) rfl rfl ?_;refine hK _ _ ?_;clear hK K;try simp only [PL]
      refine wpAnyIn_relist (l' := #[true, false, true, true, true, false, false, false]) (by kernel_rfl) ?_;exact ?c1_0234
     exact AllReadyIn.nil
    exact AllReadyIn.nil
   refine AllReadyIn.cons rfl (fun K hK => ?_) ?_
   ·
    have k64 := (hE.h8).c1;go_simp;refine hK _ _ ?_;clear hK K;try simp only [PL]
    clear k64;refine wpAnyIn_relist (l' := #[true, false, false, false, true, false, false, false]) (by kernel_rfl) ?_;refine ?c1_04;refine wpAnyIn_ready (rs := [1, 2, 3]) (by kernel_rfl) (by simp) ?rr65;refine AllReadyIn.cons rfl (fun K hK => ?_) ?_
    ·
     go_simp;refine hK _ _ ?_;clear hK K;try simp only [PL]
     refine wpAnyIn_relist (l' := #[true, true, false, false, true, false, false, false]) (by kernel_rfl) ?_;exact ?c1_014
    refine AllReadyIn.cons rfl (fun K hK => ?_) ?_
    ·
     refine Eq.mpr (if_pos (by rfl)) ?_;refine ld_stepIn (x := .tmp 8) (col_ldB (hE.h3)) rfl rfl ?_;refine hK _ _ ?_;clear hK K;try simp only [PL]
     refine wpAnyIn_relist (l' := #[true, false, true, false, true, false, false, false]) (by kernel_rfl) ?_;exact ?c1_024
    refine AllReadyIn.cons rfl (fun K hK => ?_) ?_
    ·
     have k66 := (hE.h9).c1;go_simp;refine hK _ _ ?_;clear hK K;try simp only [PL]
     clear k66;refine wpAnyIn_relist (l' := #[true, false, false, true, true, false, false, false]) (by kernel_rfl) ?_;exact ?c1_034
    exact AllReadyIn.nil
   exact AllReadyIn.nil
  refine AllReadyIn.cons rfl (fun K hK => ?_) ?_
  ·
   go_simp;refine hK _ _ ?_;clear hK K;try simp only [PL]
   refine wpAnyIn_relist (l' := #[false, true, false, false, false, false, false, false]) (by kernel_rfl) ?_;refine ?c1_1;refine wpAnyIn_ready (rs := [0, 2, 3, 4]) (by kernel_rfl) (by simp) ?rr67;refine AllReadyIn.cons rfl (fun K hK => ?_) ?_
   ·
    obtain ⟨k68, k69, k70, k71⟩ := (hE.h6).c4;go_simp;refine hK _ _ ?_;clear hK K;try simp only [PL]
    clear k68 k69 k70 k71;refine wpAnyIn_relist (l' := #[true, true, false, false, false, false, false, false]) (by kernel_rfl) ?_;exact ?c1_01
   refine AllReadyIn.cons rfl (fun K hK => ?_) ?_
   ·
    refine Eq.mpr (if_pos (by rfl)) ?_;refine ld_stepIn (x := .tmp 8) (col_ldB (hE.h3)) rfl rfl ?_;refine hK _ _ ?_;clear hK K;try simp only [PL]
    refine wpAnyIn_relist (l' := #[false, true, true, false, false, false, false, false]) (by kernel_rfl) ?_;refine ?c1_12;refine wpAnyIn_ready (rs := [0, 3, 4]) (by kernel_rfl) (by simp) ?rr72;refine AllReadyIn.cons rfl (fun K hK => ?_) ?_
    ·
     obtain ⟨k73, k74, k75, k76⟩ := (hE.h6).c4;go_simp;refine hK _ _ ?_;clear hK K;try simp only [PL]
     clear k73 k74 k75 k76;refine wpAnyIn_relist (l' := #[true, true, true, false, false, false, false, false]) (by kernel_rfl) ?_;exact ?c1_012
    refine AllReadyIn.cons rfl (fun K hK => ?_) ?_
    ·
     have k77 := (hE.h9).c1;go_simp;refine hK _ _ ?_;clear hK K;try simp only [PL]
     clear k77;refine wpAnyIn_relist (l' := #[false, true, true, true, false, false, false, false]) (by kernel_rfl) ?_;refine ?c1_123;refine wpAnyIn_ready (rs := [0, 4]) (by kernel_rfl) (by simp) ?rr78;refine AllReadyIn.cons rfl (fun K hK => ?_) ?_
     ·
      obtain ⟨k79, k80, k81, k82⟩ := (hE.h6).c4;go_simp;refine hK _ _ ?_;clear hK K;try simp only [PL]
      clear k79 k80 k81 k82;refine wpAnyIn_relist (l' := #[true, true, true, true, false, false, false, false]) (by kernel_rfl) ?_;exact ?c1_0123
     refine AllReadyIn.cons rfl (fun K hK => ?_) ?_
     ·
      have k83 := (hE.h8).c1;go_simp;refine hK _ _ ?_;clear hK K;try simp only [PL]
      clear k83;refine wpAnyIn_relist (l' := #[false, true, true, true, true, false, false, false]) (by kernel_rfl) ?_;refine ?c1_1234;refine wpAnyIn_ready (rs := [0, 5]) (by kernel_rfl) (by simp) ?rr84;refine AllReadyIn.cons rfl (fun K hK => ?_) ?_
      ·
       obtain ⟨k85, k86, k87, k88⟩ := (hE.h6).c4;go_simp;refine hK _ _ ?_;clear hK K;try simp only [PL]
       clear k85 k86 k87 k88;refine wpAnyIn_relist (l' := #[true, true, true, true, true, false, false, false]) (by kernel_rfl) ?_;exact ?c1_01234
      refine AllReadyIn.cons rfl (fun K hK => ?_) ?_
      ·
       go_simp;skip
       first | refine ⟨trivial, fun _ => by omega, (CallsIn.inRound l (callsIn_wide.2 ((show Calls _ _ _ _ (FR (yr v f x.L x.K pre.length) _) from vyear_v (x := xx) (q0 := dd v f pre.length) (q3 := cc v f pre.length) (L := x.L) (U := x.K) (N := N) (hE.h5) (hE.h4) (HPN.out.below (hE.here.2)) (HPD.out.below (hE.here.2)) pre.length (Nat.le_of_lt hkN) (Hhvl.out.l _ hkN) (Hhvl.out.k _ hkN) (Hhvl.out.d _ hkN) (Hhvl.out.c _ hkN) (Hhvl.out.ld _ hkN) (Hhvl.out.kc _ hkN) (Hhvl.out.y _ hkN))))).mono ?_⟩ | refine ⟨trivial, (CallsIn.inRound l (callsIn_wide.2 ((show Calls _ _ _ _ (FR (yr v f x.L x.K pre.length) _) from vyear_v (x := xx) (q0 := dd v f pre.length) (q3 := cc v f pre.length) (L := x.L) (U := x.K) (N := N) (hE.h5) (hE.h4) (HPN.out.below (hE.here.2)) (HPD.out.below (hE.here.2)) pre.length (Nat.le_of_lt hkN) (Hhvl.out.l _ hkN) (Hhvl.out.k _ hkN) (Hhvl.out.d _ hkN) (Hhvl.out.c _ hkN) (Hhvl.out.ld _ hkN) (Hhvl.out.kc _ hkN) (Hhvl.out.y _ hkN))))).mono ?_⟩ | refine ⟨trivial, trivial, (CallsIn.inRound l (callsIn_wide.2 ((show Calls _ _ _ _ (FR (yr v f x.L x.K pre.length) _) from vyear_v (x := xx) (q0 := dd v f pre.length) (q3 := cc v f pre.length) (L := x.L) (U := x.K) (N := N) (hE.h5) (hE.h4) (HPN.out.below (hE.here.2)) (HPD.out.below (hE.here.2)) pre.length (Nat.le_of_lt hkN) (Hhvl.out.l _ hkN) (Hhvl.out.k _ hkN) (Hhvl.out.d _ hkN) (Hhvl.out.c _ hkN) (Hhvl.out.ld _ hkN) (Hhvl.out.kc _ hkN) (Hhvl.out.y _ hkN))))).mono ?_⟩ | refine ⟨trivial, trivial, fun _ => by omega, (CallsIn.inRound l (callsIn_wide.2 ((show Calls _ _ _ _ (FR (yr v f x.L x.K pre.length) _) from vyear_v (x := xx) (q0 := dd v f pre.length) (q3 := cc v f pre.length) (L := x.L) (U := x.K) (N := N) (hE.h5) (hE.h4) (HPN.out.below (hE.here.2)) (HPD.out.below (hE.here.2)) pre.length (Nat.le_of_lt hkN) (Hhvl.out.l _ hkN) (Hhvl.out.k _ hkN) (Hhvl.out.d _ hkN) (Hhvl.out.c _ hkN) (Hhvl.out.ld _ hkN) (Hhvl.out.kc _ hkN) (Hhvl.out.y _ hkN))))).mono ?_⟩
       rintro e w89 ⟨sy, Ay, ny, cy, ty, By, my, dy, rfl, hy, hb⟩
       replace hE := hE.step hb;clear hb;replace hE := hE.fv hy;clear hy;refine hK _ _ ?_;clear hK K;try simp only [PL]
       refine wpAnyIn_ready (rs := [0]) (by kernel_rfl) (by simp) ?rr90;refine AllReadyIn.cons rfl (fun K hK => ?_) ?_
       ·
        obtain ⟨k91, k92, k93, k94⟩ := (hE.h7).c4;go_simp;refine hK _ _ ?_;clear hK K;try simp only [PL]
        clear k91 k92 k93 k94;refine wpAnyIn_ready (rs := [6]) (by kernel_rfl) (by simp) ?rr95;refine AllReadyIn.cons rfl (fun K hK => ?_) ?_
        ·
         go_simp;have hc := vminus_v (ca := cq) (da := dq) (cb := cy) (db := dy) (hE.h8) (hE.here.2) (Hhvl.out.s _ N (Nat.le_refl _)) (Hhvl.out.y _ hkN) (by rw [HhSF.out _ hkN]; exact Hhvl.out.s _ N (Nat.le_refl _));rw [HhSF.out _ hkN] at hc;skip
         first | refine ⟨trivial, fun _ => by omega, (CallsIn.inRound l (callsIn_wide.2 (hc))).mono ?_⟩ | refine ⟨trivial, (CallsIn.inRound l (callsIn_wide.2 (hc))).mono ?_⟩ | refine ⟨trivial, trivial, (CallsIn.inRound l (callsIn_wide.2 (hc))).mono ?_⟩ | refine ⟨trivial, trivial, fun _ => by omega, (CallsIn.inRound l (callsIn_wide.2 (hc))).mono ?_⟩
         rintro e w96 ⟨sz, Az, nz, cz, tz, Bz, mz, dz, rfl, hz, hb⟩
         replace hE := hE.step hb;clear hb;replace hE := hE.fv hz;clear hz;clear hc;refine hK _ _ ?_;clear hK K;try simp only [PL]
         refine wpAnyIn_ready (rs := [7]) (by kernel_rfl) (by simp) ?rr97;refine AllReadyIn.cons rfl (fun K hK => ?_) ?_
         ·
          have hgl98 : w.heap.size ≤ Pp := by omega
          obtain ⟨x98_0, x98_1, x98_2, x98_3⟩ := (hE.h8).c4;obtain ⟨f98_0, f98_1, f98_2, f98_3⟩ := hE.h8.f4;replace hE := ((((((((((((((((Env.again (bel4 hE.bel hgl98 (.bool sz) (.slice Az nz cz) (.bool tz) (.slice Bz mz dz))).blkI ((hE.here.1.1.1.1.1.1.1.1.1.1.1.1.1.1.2).far4 (by omega) _ _ _ _)).atI ((hE.h13).far4 (by first | omega | exact At.apart (hE.h13) (hE.h8) rfl) _ _ _ _)).blkI ((hE.h12).far4 (by omega) _ _ _ _)).blkI ((hE.h11).far4 (by omega) _ _ _ _)).blkI ((hE.h10).far4 (by omega) _ _ _ _)).fv ((hE.h9).sep4 hE.h8 rfl _ _ _ _ rfl rfl rfl)).blkI ((hE.h8).s4 _ _ _ _)).fv ((hE.h7).sep4 hE.h8 rfl _ _ _ _ rfl rfl rfl)).fv ((hE.h6).sep4 hE.h8 rfl _ _ _ _ rfl rfl rfl)).blkI ((hE.h5).far4 (by omega) _ _ _ _)).trail ((hE.h4).set4 ⟨by omega, by omega, by omega⟩ _ _ _ _)).trail ((hE.h3).set4 ⟨by omega, by omega, by omega⟩ _ _ _ _)).wfb (wfb_st4 (hE.h2) (by omega) _ _ _ _)).fv ((hE.here.1.2).sep4 hE.h8 rfl _ _ _ _ rfl rfl rfl)).fv ((hE.here.2).sep4 hE.h8 rfl _ _ _ _ rfl rfl rfl));go_simp;clear x98_0 x98_1 x98_2 x98_3 f98_0 f98_1 f98_2 f98_3 hgl98;generalize ((((w96.setCell ⟨Pp, 0, none⟩ (.bool sz)).setCell ⟨Pp, 1, none⟩ (.slice Az nz cz)).setCell ⟨Pp, 2, none⟩ (.bool tz)).setCell ⟨Pp, 3, none⟩ (.slice Bz mz dz)) = W98 at hE ⊢;refine hK _ _ ?_;clear hK K;try simp only [PL]
          refine wpAnyIn_done (by kernel_rfl) ?_ _;refine ⟨(hE.h4).keeps, ⟨(hE.h4).kp, (hE.h3).kp⟩, ⟨⟨?_, (hE.h3).hs⟩, ?_⟩⟩
          ·
           show ReI w w13 gt (w.heap.size + 1) GA GB Pp t (x.Q G N cap) (.func (.func 103) #[] #[.pointer (some ⟨G3, 0, none⟩), .pointer (some ⟨G4, 0, none⟩)]) (.func (.func 104) #[] #[.pointer (some ⟨gD, 0, none⟩)]) (sf (yr v f x.L x.K) N (pre ++ [Cl.mk pre.length xx]).length) _;rw [Hlen2.out];exact ⟨_, _, _, _, _, _, _, _, ((((((((Env.again hE.bel).blkI (hE.here.1.1.1.1.1.1.1.1.1.1.1.1.1.1.2)).atI (hE.h13)).blkI (hE.h12)).blkI (hE.h11)).blkI (hE.h10)).fv (hE.here.2)).blkI (hE.h8)), hE.h2⟩
          ·
           show Pp ≤ _;exact Nat.le_trans hcW (hE.h4).keeps.size
         exact AllReadyIn.nil
        exact AllReadyIn.nil
       exact AllReadyIn.nil
      exact AllReadyIn.nil
     exact AllReadyIn.nil
    refine AllReadyIn.cons rfl (fun K hK => ?_) ?_
    ·
     have k99 := (hE.h8).c1;go_simp;refine hK _ _ ?_;clear hK K;try simp only [PL]
     clear k99;refine wpAnyIn_relist (l' := #[false, true, true, false, true, false, false, false]) (by kernel_rfl) ?_;refine ?c1_124;refine wpAnyIn_ready (rs := [0, 3]) (by kernel_rfl) (by simp) ?rr100;refine AllReadyIn.cons rfl (fun K hK => ?_) ?_
     ·
      obtain ⟨k101, k102, k103, k104⟩ := (hE.h6).c4;go_simp;refine hK _ _ ?_;clear hK K;try simp only [PL]
      clear k101 k102 k103 k104;refine wpAnyIn_relist (l' := #[true, true, true, false, true, false, false, false]) (by kernel_rfl) ?_;exact ?c1_0124
     refine AllReadyIn.cons rfl (fun K hK => ?_) ?_
     ·
      have k105 := (hE.h9).c1;go_simp;refine hK _ _ ?_;clear hK K;try simp only [PL]
      clear k105;refine wpAnyIn_relist (l' := #[false, true, true, true, true, false, false, false]) (by kernel_rfl) ?_;exact ?c1_1234
     exact AllReadyIn.nil
    exact AllReadyIn.nil
   refine AllReadyIn.cons rfl (fun K hK => ?_) ?_
   ·
    have k106 := (hE.h9).c1;go_simp;refine hK _ _ ?_;clear hK K;try simp only [PL]
    clear k106;refine wpAnyIn_relist (l' := #[false, true, false, true, false, false, false, false]) (by kernel_rfl) ?_;refine ?c1_13;refine wpAnyIn_ready (rs := [0, 2, 4]) (by kernel_rfl) (by simp) ?rr107;refine AllReadyIn.cons rfl (fun K hK => ?_) ?_
    ·
     obtain ⟨k108, k109, k110, k111⟩ := (hE.h6).c4;go_simp;refine hK _ _ ?_;clear hK K;try simp only [PL]
     clear k108 k109 k110 k111;refine wpAnyIn_relist (l' := #[true, true, false, true, false, false, false, false]) (by kernel_rfl) ?_;exact ?c1_013
    refine AllReadyIn.cons rfl (fun K hK => ?_) ?_
    ·
     refine Eq.mpr (if_pos (by rfl)) ?_;refine ld_stepIn (x := .tmp 8) (col_ldB (hE.h3)) rfl rfl ?_;refine hK _ _ ?_;clear hK K;try simp only [PL]
     refine wpAnyIn_relist (l' := #[false, true, true, true, false, false, false, false]) (by kernel_rfl) ?_;exact ?c1_123
    refine AllReadyIn.cons rfl (fun K hK => ?_) ?_
    ·
     have k112 := (hE.h8).c1;go_simp;refine hK _ _ ?_;clear hK K;try simp only [PL]
     clear k112;refine wpAnyIn_relist (l' := #[false, true, false, true, true, false, false, false]) (by kernel_rfl) ?_;refine ?c1_134;refine wpAnyIn_ready (rs := [0, 2]) (by kernel_rfl) (by simp) ?rr113;refine AllReadyIn.cons rfl (fun K hK => ?_) ?_
     ·
      obtain ⟨k114, k115, k116, k117⟩ := (hE.h6).c4;go_simp;refine hK _ _ ?_;clear hK K;try simp only [PL]
      clear k114 k115 k116 k117;refine wpAnyIn_relist (l' := #[true, true, false, true, true, false, false, false]) (by kernel_rfl) ?_;exact ?c1_0134
     refine AllReadyIn.cons rfl (fun K hK => ?_) ?_
     ·
      refine Eq.mpr (if_pos (by rfl)) ?_;refine ld_stepIn (x := .tmp 8) (col_ldB (hE.h3)) rfl rfl ?_;refine hK _ _ ?_;clear hK K;try simp only [PL]
      refine wpAnyIn_relist (l' := #[false, true, true, true, true, false, false, false]) (by kernel_rfl) ?_;exact ?c1_1234
     exact AllReadyIn.nil
    exact AllReadyIn.nil
   refine AllReadyIn.cons rfl (fun K hK => ?_) ?_
   ·
    have k118 := (hE.h8).c1;go_simp;refine hK _ _ ?_;clear hK K;try simp only [PL]
    clear k118;refine wpAnyIn_relist (l' := #[false, true, false, false, true, false, false, false]) (by kernel_rfl) ?_;refine ?c1_14;refine wpAnyIn_ready (rs := [0, 2, 3]) (by kernel_rfl) (by simp) ?rr119;refine AllReadyIn.cons rfl (fun K hK => ?_) ?_
    ·
     obtain ⟨k120, k121, k122, k123⟩ := (hE.h6).c4;go_simp;refine hK _ _ ?_;clear hK K;try simp only [PL]
     clear k120 k121 k122 k123;refine wpAnyIn_relist (l' := #[true, true, false, false, true, false, false, false]) (by kernel_rfl) ?_;exact ?c1_014
    refine AllReadyIn.cons rfl (fun K hK => ?_) ?_
    ·
     refine Eq.mpr (if_pos (by rfl)) ?_;refine ld_stepIn (x := .tmp 8) (col_ldB (hE.h3)) rfl rfl ?_;refine hK _ _ ?_;clear hK K;try simp only [PL]
     refine wpAnyIn_relist (l' := #[false, true, true, false, true, false, false, false]) (by kernel_rfl) ?_;exact ?c1_124
    refine AllReadyIn.cons rfl (fun K hK => ?_) ?_
    ·
     have k124 := (hE.h9).c1;go_simp;refine hK _ _ ?_;clear hK K;try simp only [PL]
     clear k124;refine wpAnyIn_relist (l' := #[false, true, false, true, true, false, false, false]) (by kernel_rfl) ?_;exact ?c1_134
    exact AllReadyIn.nil
   exact AllReadyIn.nil
  refine AllReadyIn.cons rfl (fun K hK => ?_) ?_
  ·
   refine Eq.mpr (if_pos (by rfl)) ?_;refine ld_stepIn (x := .tmp 8) (col_ldB (hE.h3)) rfl rfl ?_;refine hK _ _ ?_;clear hK K;try simp only [PL]
   refine wpAnyIn_relist (l' := #[false, false, true, false, false, false, false, false]) (by kernel_rfl) ?_;refine ?c1_2;refine wpAnyIn_ready (rs := [0, 1, 3, 4]) (by kernel_rfl) (by simp) ?rr125;refine AllReadyIn.cons rfl (fun K hK => ?_) ?_
   ·
    obtain ⟨k126, k127, k128, k129⟩ := (hE.h6).c4;go_simp;refine hK _ _ ?_;clear hK K;try simp only [PL]
    clear k126 k127 k128 k129;refine wpAnyIn_relist (l' := #[true, false, true, false, false, false, false, false]) (by kernel_rfl) ?_;exact ?c1_02
   refine AllReadyIn.cons rfl (fun K hK => ?_) ?_
   ·
    go_simp;refine hK _ _ ?_;clear hK K;try simp only [PL]
    refine wpAnyIn_relist (l' := #[false, true, true, false, false, false, false, false]) (by kernel_rfl) ?_;exact ?c1_12
   refine AllReadyIn.cons rfl (fun K hK => ?_) ?_
   ·
    have k130 := (hE.h9).c1;go_simp;refine hK _ _ ?_;clear hK K;try simp only [PL]
    clear k130;refine wpAnyIn_relist (l' := #[false, false, true, true, false, false, false, false]) (by kernel_rfl) ?_;refine ?c1_23;refine wpAnyIn_ready (rs := [0, 1, 4]) (by kernel_rfl) (by simp) ?rr131;refine AllReadyIn.cons rfl (fun K hK => ?_) ?_
    ·
     obtain ⟨k132, k133, k134, k135⟩ := (hE.h6).c4;go_simp;refine hK _ _ ?_;clear hK K;try simp only [PL]
     clear k132 k133 k134 k135;refine wpAnyIn_relist (l' := #[true, false, true, true, false, false, false, false]) (by kernel_rfl) ?_;exact ?c1_023
    refine AllReadyIn.cons rfl (fun K hK => ?_) ?_
    ·
     go_simp;refine hK _ _ ?_;clear hK K;try simp only [PL]
     refine wpAnyIn_relist (l' := #[false, true, true, true, false, false, false, false]) (by kernel_rfl) ?_;exact ?c1_123
    refine AllReadyIn.cons rfl (fun K hK => ?_) ?_
    ·
     have k136 := (hE.h8).c1;go_simp;refine hK _ _ ?_;clear hK K;try simp only [PL]
     clear k136;refine wpAnyIn_relist (l' := #[false, false, true, true, true, false, false, false]) (by kernel_rfl) ?_;refine ?c1_234;refine wpAnyIn_ready (rs := [0, 1]) (by kernel_rfl) (by simp) ?rr137;refine AllReadyIn.cons rfl (fun K hK => ?_) ?_
     ·
      obtain ⟨k138, k139, k140, k141⟩ := (hE.h6).c4;go_simp;refine hK _ _ ?_;clear hK K;try simp only [PL]
      clear k138 k139 k140 k141;refine wpAnyIn_relist (l' := #[true, false, true, true, true, false, false, false]) (by kernel_rfl) ?_;exact ?c1_0234
     refine AllReadyIn.cons rfl (fun K hK => ?_) ?_
     ·
      go_simp;refine hK _ _ ?_;clear hK K;try simp only [PL]
      refine wpAnyIn_relist (l' := #[false, true, true, true, true, false, false, false]) (by kernel_rfl) ?_;exact ?c1_1234
     exact AllReadyIn.nil
    exact AllReadyIn.nil
   refine AllReadyIn.cons rfl (fun K hK => ?_) ?_
   ·
    have k142 := (hE.h8).c1;go_simp;refine hK _ _ ?_;clear hK K;try simp only [PL]
    clear k142;refine wpAnyIn_relist (l' := #[false, false, true, false, true, false, false, false]) (by kernel_rfl) ?_;refine ?c1_24;refine wpAnyIn_ready (rs := [0, 1, 3]) (by kernel_rfl) (by simp) ?rr143;refine AllReadyIn.cons rfl (fun K hK => ?_) ?_
    ·
     obtain ⟨k144, k145, k146, k147⟩ := (hE.h6).c4;go_simp;refine hK _ _ ?_;clear hK K;try simp only [PL]
     clear k144 k145 k146 k147;refine wpAnyIn_relist (l' := #[true, false, true, false, true, false, false, false]) (by kernel_rfl) ?_;exact ?c1_024
    refine AllReadyIn.cons rfl (fun K hK => ?_) ?_
    ·
     go_simp;refine hK _ _ ?_;clear hK K;try simp only [PL]
     refine wpAnyIn_relist (l' := #[false, true, true, false, true, false, false, false]) (by kernel_rfl) ?_;exact ?c1_124
    refine AllReadyIn.cons rfl (fun K hK => ?_) ?_
    ·
     have k148 := (hE.h9).c1;go_simp;refine hK _ _ ?_;clear hK K;try simp only [PL]
     clear k148;refine wpAnyIn_relist (l' := #[false, false, true, true, true, false, false, false]) (by kernel_rfl) ?_;exact ?c1_234
    exact AllReadyIn.nil
   exact AllReadyIn.nil
  refine AllReadyIn.cons rfl (fun K hK => ?_) ?_
  ·
   have k149 := (hE.h9).c1;go_simp;refine hK _ _ ?_;clear hK K;try simp only [PL]
   clear k149;refine wpAnyIn_relist (l' := #[false, false, false, true, false, false, false, false]) (by kernel_rfl) ?_;refine ?c1_3;refine wpAnyIn_ready (rs := [0, 1, 2, 4]) (by kernel_rfl) (by simp) ?rr150;refine AllReadyIn.cons rfl (fun K hK => ?_) ?_
   ·
    obtain ⟨k151, k152, k153, k154⟩ := (hE.h6).c4;go_simp;refine hK _ _ ?_;clear hK K;try simp only [PL]
    clear k151 k152 k153 k154;refine wpAnyIn_relist (l' := #[true, false, false, true, false, false, false, false]) (by kernel_rfl) ?_;exact ?c1_03
   refine AllReadyIn.cons rfl (fun K hK => ?_) ?_
   ·
    go_simp;refine hK _ _ ?_;clear hK K;try simp only [PL]
    refine wpAnyIn_relist (l' := #[false, true, false, true, false, false, false, false]) (by kernel_rfl) ?_;exact ?c1_13
   refine AllReadyIn.cons rfl (fun K hK => ?_) ?_
   ·
    refine Eq.mpr (if_pos (by rfl)) ?_;refine ld_stepIn (x := .tmp 8) (col_ldB (hE.h3)) rfl rfl ?_;refine hK _ _ ?_;clear hK K;try simp only [PL]
    refine wpAnyIn_relist (l' := #[false, false, true, true, false, false, false, false]) (by kernel_rfl) ?_;exact ?c1_23
   refine AllReadyIn.cons rfl (fun K hK => ?_) ?_
   ·
    have k155 := (hE.h8).c1;go_simp;refine hK _ _ ?_;clear hK K;try simp only [PL]
    clear k155;refine wpAnyIn_relist (l' := #[false, false, false, true, true, false, false, false]) (by kernel_rfl) ?_;refine ?c1_34;refine wpAnyIn_ready (rs := [0, 1, 2]) (by kernel_rfl) (by simp) ?rr156;refine AllReadyIn.cons rfl (fun K hK => ?_) ?_
    ·
     obtain ⟨k157, k158, k159, k160⟩ := (hE.h6).c4;go_simp;refine hK _ _ ?_;clear hK K;try simp only [PL]
     clear k157 k158 k159 k160;refine wpAnyIn_relist (l' := #[true, false, false, true, true, false, false, false]) (by kernel_rfl) ?_;exact ?c1_034
    refine AllReadyIn.cons rfl (fun K hK => ?_) ?_
    ·
     go_simp;refine hK _ _ ?_;clear hK K;try simp only [PL]
     refine wpAnyIn_relist (l' := #[false, true, false, true, true, false, false, false]) (by kernel_rfl) ?_;exact ?c1_134
    refine AllReadyIn.cons rfl (fun K hK => ?_) ?_
    ·
     refine Eq.mpr (if_pos (by rfl)) ?_;refine ld_stepIn (x := .tmp 8) (col_ldB (hE.h3)) rfl rfl ?_;refine hK _ _ ?_;clear hK K;try simp only [PL]
     refine wpAnyIn_relist (l' := #[false, false, true, true, true, false, false, false]) (by kernel_rfl) ?_;exact ?c1_234
    exact AllReadyIn.nil
   exact AllReadyIn.nil
  refine AllReadyIn.cons rfl (fun K hK => ?_) ?_
  ·
   have k161 := (hE.h8).c1;go_simp;refine hK _ _ ?_;clear hK K;try simp only [PL]
   clear k161;refine wpAnyIn_relist (l' := #[false, false, false, false, true, false, false, false]) (by kernel_rfl) ?_;refine ?c1_4;refine wpAnyIn_ready (rs := [0, 1, 2, 3]) (by kernel_rfl) (by simp) ?rr162;refine AllReadyIn.cons rfl (fun K hK => ?_) ?_
   ·
    obtain ⟨k163, k164, k165, k166⟩ := (hE.h6).c4;go_simp;refine hK _ _ ?_;clear hK K;try simp only [PL]
    clear k163 k164 k165 k166;refine wpAnyIn_relist (l' := #[true, false, false, false, true, false, false, false]) (by kernel_rfl) ?_;exact ?c1_04
   refine AllReadyIn.cons rfl (fun K hK => ?_) ?_
   ·
    go_simp;refine hK _ _ ?_;clear hK K;try simp only [PL]
    refine wpAnyIn_relist (l' := #[false, true, false, false, true, false, false, false]) (by kernel_rfl) ?_;exact ?c1_14
   refine AllReadyIn.cons rfl (fun K hK => ?_) ?_
   ·
    refine Eq.mpr (if_pos (by rfl)) ?_;refine ld_stepIn (x := .tmp 8) (col_ldB (hE.h3)) rfl rfl ?_;refine hK _ _ ?_;clear hK K;try simp only [PL]
    refine wpAnyIn_relist (l' := #[false, false, true, false, true, false, false, false]) (by kernel_rfl) ?_;exact ?c1_24
   refine AllReadyIn.cons rfl (fun K hK => ?_) ?_
   ·
    have k167 := (hE.h9).c1;go_simp;refine hK _ _ ?_;clear hK K;try simp only [PL]
    clear k167;refine wpAnyIn_relist (l' := #[false, false, false, true, true, false, false, false]) (by kernel_rfl) ?_;exact ?c1_34
   exact AllReadyIn.nil
  exact AllReadyIn.nil
 case done =>
  rintro D ys W hD hS ⟨⟨hI, hBs⟩, hcW⟩ hK
  rw [hS.length] at hI;obtain ⟨sq, Aq, nq, cq, tq, Bq, mq, dq, hE, -⟩ := hI;have hE := hE.def_ hK;clear hK
  have hDR : D ≠ w.heap.size + 1 := by omega
  have hDw : w.heap.size ≤ D := by omega
  replace hE := hE.fv (show FV W (dd v f t) (h t 0).s (h t 0).A (h t 0).n (h t 0).t (h t 0).B (h t 0).m from ColQ.stable _ _ _ _ _ _ hE.bel HhQ.out t ht 0 (by decide) trivial);replace hE := hE.atI (b := G) (o := t * 24) (v := .bool (h t 0).s) ⟨ColP.lt (ColP.below HhC.out hE.bel), ColB.at2 (ColP.below HhC.out hE.bel) (j := 0) (i := 0) ht (by decide) (by decide) (by omega) rfl⟩;replace hE := hE.atI (b := G) (o := t * 24 + 1) (v := .slice (h t 0).A (h t 0).n (h t 0).c) ⟨ColP.lt (ColP.below HhC.out hE.bel), ColB.at2 (ColP.below HhC.out hE.bel) (j := 0) (i := 1) ht (by decide) (by decide) (by omega) rfl⟩;replace hE := hE.atI (b := G) (o := t * 24 + 2) (v := .bool (h t 0).t) ⟨ColP.lt (ColP.below HhC.out hE.bel), ColB.at2 (ColP.below HhC.out hE.bel) (j := 0) (i := 2) ht (by decide) (by decide) (by omega) rfl⟩;replace hE := hE.atI (b := G) (o := t * 24 + 3) (v := .slice (h t 0).B (h t 0).m (h t 0).d) ⟨ColP.lt (ColP.below HhC.out hE.bel), ColB.at2 (ColP.below HhC.out hE.bel) (j := 0) (i := 3) ht (by decide) (by decide) (by omega) rfl⟩;have hGlt : G < w.heap.size := ColP.lt HhC.out
  have hti : (t : Int) < (N : Int) := by omega
  go_upto_region 7 with (fail)
  refine wp_norm ?_;replace hE := hE.drew;refine wp_region_held_drew (S := fun V => Blk 80 (w.heap.size) (x.Q G N cap) V ∧ At gt (0) (.int .i64 (t : Int)) V ∧ Blk 29 (Pp) (qf4 sq Aq nq cq tq Bq mq dq) V ∧ At G (t * 24) (.bool (h t 0).s) V ∧ At G (t * 24 + 1) (.slice (h t 0).A (h t 0).n (h t 0).c) V ∧ At G (t * 24 + 2) (.bool (h t 0).t) V ∧ At G (t * 24 + 3) (.slice (h t 0).B (h t 0).m (h t 0).d) V) (by kernel_rfl) (⟨hE.h12, hE.h11, hE.h6, hE.h3, hE.h2, hE.here.1.2, hE.here.2⟩) (fun hHeld => ?_)
  generalize W.drew = wd at *
  refine tk 0 ?_ (hy := by
   intro w hSw;have kc0 := (hSw.2.2.1).cell 0;have kc1 := (hSw.2.2.1).cell 1;have kc2 := (hSw.2.2.1).cell 2;have kc3 := (hSw.2.2.1).cell 3;clear hSw
   first | (go_simp; done) | (go_simp; with_reducible rfl))
  try simp only [PL]
  refine tk 1 ?_
  refine tk 2 ?_ (hy := by
   intro w hSw;have kc9 := (hSw.1).cell 9;clear hSw
   first | (go_simp; done) | (go_simp; with_reducible rfl))
  try simp only [PL]
  refine tk 3 ?_ (hy := by
   intro w hSw;have kc0 := (hSw.2.1).2;clear hSw
   first | (go_simp; done) | (go_simp; with_reducible rfl))
  try simp only [PL]
  refine tk 4 ?_;refine tk 5 ?_
  refine tk 6 ?_ (hy := by
   intro w hSw;have kc0 := (hSw.2.2.2.1).2;have kc1 := (hSw.2.2.2.2.1).2;have kc2 := (hSw.2.2.2.2.2.1).2;have kc3 := (hSw.2.2.2.2.2.2).2;clear hSw
   first | (go_simp; done) | (go_simp; with_reducible rfl))
  try simp only [PL]
  refine r1 7 (fun K hK => ?_);go_simp;have hc := vover_v (ca := cq) (da := dq) (cb := (h t 0).c) (db := (h t 0).d) (hE.h7) (hE.h4) (Hhvl.out.s _ N (Nat.le_refl _)) (Hhvl.out.d t ht) (fun e => HhN.out.2 t ht (Rat.num_eq_zero.1 e)) (Hhvl.out.a t);change Calls _ _ _ _ (FR (va v f N x.L x.K t) _) at hc;refine hE.fr (hc) ?_;clear hE;intro sr Ar nr cr tr Br mr dr w168 hE;clear hc;go_wp2_with fail
  refine hK.out _ _ (⟨hE.h13, hE.h12, hE.h7, hE.h4, hE.h3, hE.h2, hE.here.1.2⟩) (fun hHeld => ?_);clear hK K;try simp only [PL]
  refine r1 8 (fun K hK => ?_)
  have hRl : w.heap.size ≤ w.heap.size + 1 := by omega
  obtain ⟨WW, hWW, hB, hV, hBel⟩ := ret_frac hE hE.h11 hRl hE.here.2 cr dr;obtain ⟨x0, x1, x2, x3⟩ := (hE.h11).c4;obtain ⟨fz0, fz1, fz2, fz3⟩ := hE.h11.f4;have HWW := Lib.hid hWW;clear hWW;go_simp;rw [← HWW.out];refine hK.out _ _ (by rw [HWW.out]; exact ⟨(hE.h13).far4 (R := w.heap.size + 1) (by omega) (.bool sr) (.slice Ar nr cr) (.bool tr) (.slice Br mr dr), (hE.h12).far4 (R := w.heap.size + 1) (by omega) (.bool sr) (.slice Ar nr cr) (.bool tr) (.slice Br mr dr), (hE.h7).far4 (R := w.heap.size + 1) (by omega) (.bool sr) (.slice Ar nr cr) (.bool tr) (.slice Br mr dr), (hE.h4).far4 (R := w.heap.size + 1) (by omega) (.bool sr) (.slice Ar nr cr) (.bool tr) (.slice Br mr dr), (hE.h3).far4 (R := w.heap.size + 1) (by omega) (.bool sr) (.slice Ar nr cr) (.bool tr) (.slice Br mr dr), (hE.h2).far4 (R := w.heap.size + 1) (by omega) (.bool sr) (.slice Ar nr cr) (.bool tr) (.slice Br mr dr), (hE.here.1.2).far4 (R := w.heap.size + 1) (by omega) (.bool sr) (.slice Ar nr cr) (.bool tr) (.slice Br mr dr)⟩) (fun hHeld => ?_);clear hK K;try simp only [PL]
  refine wpAnyH_done (by kernel_rfl) ?_ _;have hDD := (heap_set4 (R := w.heap.size + 1) hDR (.bool sr) (.slice Ar nr cr) (.bool tr) (.slice Br mr dr)).trans (hE.h6);rw [← HWW.out] at hDD;obtain ⟨hB2, hV2, hb2⟩ := leave_frac hB hV hBel hDw hDR hDD (.deferred none);go_wp2_with fail
  refine ⟨by simp, .inl ⟨_, _, rfl, run_takeDeferred hDD, ?_⟩⟩;obtain ⟨y0, y1, y2, y3⟩ := hB2.c4;exact ⟨.agg (qf4 sr Ar nr cr tr Br mr dr), by simp [results, Tryz.results63, go_sem, y0, y1, y2, y3], sr, Ar, nr, cr, tr, Br, mr, dr, rfl, hV2, hb2⟩
 case stop => exact fun D c pre W hD _ h hK => h.elim
theorem vretr_v {b : Bh} {x : Ct} {w : World} (hb : b.rd w) (hbb : b.bd) (hx : x.rd w) (hxb : x.bd) (hok : x.ok b) (N : Nat) (hN : Cnt b.v (b.rt x.E x.Y) N) (h80 : N ≤ 80) (t : Nat) (ht : t < N) :
  Calls Tryz.prog 19 #[.agg b.C, .agg x.C, .int .i64 (t : Int)] w (FOK (b.val x N t) w) := by
 have Hhb := Lib.hid hb;clear hb;have Hhbb := Lib.hid hbb;clear hbb;have Hhx := Lib.hid hx;clear hx;have Hhxb := Lib.hid hxb;clear hxb;have Hhok := Lib.hid hok;clear hok;have HhN := Lib.hid hN;clear hN;have hE := (((Env.start w).blk 31 b.C (g := w.heap.size) rfl).blk 36 x.C (g := w.heap.size + 1) (by simp)).blk 3 #[.int .i64 (t : Int)] (g := w.heap.size + 1 + 1) (by simp);have hE := hE.blk 29 qz4 (g := w.heap.size + 1 + 1 + 1) (by simp)
 obtain ⟨W0, hW0⟩ : ∃ W0, W0 = ((((w.alloc (.cells b.C 31)).alloc (.cells x.C 36)).alloc (.cells #[.int .i64 (t : Int)] 3)).alloc (.cells qz4 29)) := ⟨_, rfl⟩
 rw [← hW0] at hE;have HW0 := Lib.hid hW0;clear hW0
 go_enter Tryz.func19, Tryz.ntmps19
 go_upto_region 1 with (fail)
 rw [← HW0.out];obtain ⟨k1, k2, k3, k4, k5, k6, k7⟩ := (hE.h3).c7;have k8 := (hE.here.1.2).c1;have k9 := (hE.h2).cell 0;have k10 := (hE.h2).cell 1;have k11 := (hE.h2).cell 2;have k12 := (hE.h2).cell 3;have k13 := (hE.h2).cell 4;have k14 := (hE.h2).cell 5;have k15 := (hE.h2).cell 6;have k16 := (hE.h2).cell 7;have k17 := (hE.h2).cell 8;go_wp2_with fail
 have hca := At.of_blk (hE.here.1.2) 0 rfl;refine hE.fr (vat_v (q := b.val x N t) (of := .func (.func 63) #[] #[.pointer (some ⟨w.heap.size + 1 + 1, 0, none⟩)]) (Bh.rd_below Hhb.out hE.bel) Hhbb.out (Ct.rd_below Hhx.out hE.bel) Hhxb.out Hhok.out N HhN.out h80 t ht ⟨63, #[.pointer (some ⟨w.heap.size + 1 + 1, 0, none⟩)], rfl, enters_of Tryz.func63 (by kernel_rfl) rfl, fun W G cap h hW hC hQ => vretr1_v (Bh.rd_below Hhb.out (hE.bel.trans (hW.mono hE.bel.size))) (Ct.rd_below Hhx.out (hE.bel.trans (hW.mono hE.bel.size))) Hhok.out N HhN.out h80 hC hQ t ht (At.stable _ _ _ _ _ hW hca)⟩) ?_;clear hE k1 k2 k3 k4 k5 k6 k7 k8 k9 k10 k11 k12 k13 k14 k15 k16 k17 hca;intro sq Aq nq cq tq Bq mq dq w9 hE
 have hRl : w.heap.size ≤ w.heap.size + 1 + 1 + 1 := by omega
 obtain ⟨WW, hWW, hB, hV, hBel⟩ := ret_frac hE hE.here.1.2 hRl hE.here.2 cq dq;obtain ⟨x0, x1, x2, x3⟩ := (hE.here.1.2).c4;obtain ⟨fz0, fz1, fz2, fz3⟩ := hE.here.1.2.f4;have HWW := Lib.hid hWW;clear hWW;go_wp2_with fail
 clear x0 x1 x2 x3;rw [← HWW.out];obtain ⟨y0, y1, y2, y3⟩ := hB.c4;refine bodyPost_ret (v := .tuple #[.agg (qf4 sq Aq nq cq tq Bq mq dq), .int .i64 0]) (by simp [results, Tryz.results19, go_sem, y0, y1, y2, y3]) rfl ?_;exact ⟨sq, Aq, nq, cq, tq, Bq, mq, dq, rfl, hV, hBel⟩
end Go.Proofs.YtclbiihcbfnjmaaGreat
