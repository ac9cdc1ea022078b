/-
  Several texts in one: The walk of frac.lowest.
-/
import Derived.Test.YtjgihmmeimfheaaGreatK3
import Derived.Test.YtjgihmmeimfheaaGreatK18
import Derived.Test.YtjgihmmeimfheaaGreatK20
namespace Go.Proofs.YtjgihmmeimfheaaGreat
open Go.RowKit

theorem low_pos {n d : Int} (hd : 0 < d) : (Rat.divInt n d).num = n.fdiv ((Nat.gcd n.natAbs d.natAbs : Nat) : Int) ∧ (((Rat.divInt n d).den : Nat) : Int) = d.fdiv ((Nat.gcd n.natAbs d.natAbs : Nat) : Int) := by
 have h := low_num (n := n) hd
 rw [Int.fdiv_eq_ediv_of_nonneg _ (by omega), Int.fdiv_eq_ediv_of_nonneg _ (by omega)]
 exact h
theorem gcd_ne {n d : Int} (hd : d ≠ 0) : ((Nat.gcd n.natAbs d.natAbs : Nat) : Int) ≠ 0 := by
 have := Nat.gcd_pos_of_pos_right n.natAbs (show 0 < d.natAbs by omega)
 omega
theorem gcd_len {a b : Int} {s t u : Bool} {A B G : Option Addr} {n m g : Nat} {w : World} (_ : WV w a s A n) (hb : WV w b t B m) (hg : WV w ((Nat.gcd a.natAbs b.natAbs : Nat) : Int) u G g) (hb0 : b ≠ 0) {k : Nat} (lb : m ≤ k) : g ≤ k := by
 rw [hg.len, Int.natAbs_natCast]
 refine Nat.le_trans (ln_mono b16_two (Nat.gcd_le_right _ (show 0 < b.natAbs by omega))) ?_
 rw [← hb.len]; exact lb
theorem neg_len {z : Int} {s t : Bool} {A B : Option Addr} {n m k : Nat} {w : World} (h : WV w z s A n) (h2 : WV w (-z) t B m) (hk : n ≤ k) : m ≤ k := by
 rw [h2.len, Int.natAbs_neg, ← h.len]; exact hk
set_option linter.unusedSimpArgs false in
set_option maxRecDepth 100000 in
set_option maxHeartbeats 4000000 in
theorem flowest_v {a b : Int} {sa sb : Bool} {Aa Ab : Option Addr} {na ca nb cb : Nat} {w : World} (ha : WV w a sa Aa na) (hb : WV w b sb Ab nb) (la : na ≤ 1024) (lb : nb ≤ 1024) (hb0 : b ≠ 0) :
  Calls Tryz.prog 50 #[.agg #[.bool sa, .slice Aa na ca], .agg #[.bool sb, .slice Ab nb cb]] w (FR (Rat.divInt a b) w) := by
 cases sb with
 | true =>
  have hd : b < 0 := of_decide_eq_true hb.sgn.symm
  have hE := ((((Env.start w).wv ha).wv hb).blk 27 #[.bool sa, .slice Aa na ca] (g := w.heap.size) rfl).blk 27 #[.bool true, .slice Ab nb cb] (g := w.heap.size + 1) (by simp)
  have hE := hE.blk 85 #[.bool false, .slice none 0 0, .bool false, .slice none 0 0] (g := w.heap.size + 1 + 1) (by simp)
  obtain ⟨W0, hW0⟩ : ∃ W0, W0 = (((w.alloc (.cells #[.bool sa, .slice Aa na ca] 27)).alloc (.cells #[.bool true, .slice Ab nb cb] 27)).alloc (.cells #[.bool false, .slice none 0 0, .bool false, .slice none 0 0] 85)) := ⟨_, rfl⟩
  rw [← hW0] at hE
  have HW0 := Lib.hid hW0
  clear hW0
  go_enter Tryz.func50, Tryz.ntmps50
  go_upto_region 1 with (fail)
  rw [← HW0.out]
  obtain ⟨k1, k2⟩ := (hE.here.1.2).c2
  go_upto_region 2 with (fail)
  clear k1 k2
  go_cut [] from 8 to 11 (fun wx => ∃ sx Ax nx cx sy Ay ny cy, Env w (fun V => (((((((True ∧ WV V a sa Aa na) ∧ WV V b true Ab nb) ∧ Blk 27 (w.heap.size) #[.bool sx, .slice Ax nx cx] V) ∧ Blk 27 (w.heap.size + 1) #[.bool sy, .slice Ay ny cy] V) ∧ Blk 85 (w.heap.size + 1 + 1) #[.bool false, .slice none 0 0, .bool false, .slice none 0 0] V) ∧ WV V (-a) sx Ax nx) ∧ WV V (-b) sy Ay ny)) wx)
  case first =>
   replace hE := hE.drew
   refine wp_region_held_drew (S := fun w' => True) (by kernel_rfl) (trivial) (fun hHeld => ?_)
   refine wpAnyH_ready (rs := [0, 2]) (by kernel_rfl) (by simp) (AllReadyH.cons rfl (fun K hK => ?_) (AllReadyH.cons rfl (fun K hK => ?_) (AllReadyH.nil)))
   ·
    obtain ⟨k3, k4⟩ := (hE.h2).c2
    go_simp
    clear k3 k4
    refine hK.out _ _ (trivial) (fun hHeld => ?_)
    clear hK K
    try simp only [PL]
    refine wpAnyH_ready (rs := [1, 2]) (by kernel_rfl) (by simp) (AllReadyH.cons rfl (fun K hK => ?_) (AllReadyH.cons rfl (fun K hK => ?_) (AllReadyH.nil)))
    ·
     go_simp
     have hc := fopposite_v (c := ca) hE.h4 la
     refine hc.mono ?_
     clear hc
     rintro e w5 ⟨sx, Ax, nx, cx, rfl, hx, hb⟩
     replace hE := hE.step hb
     clear hb
     replace hE := hE.wv hx
     clear hx
     go_wp2_with fail
     refine hK.out _ _ (trivial) (fun hHeld => ?_)
     clear hK K
     try simp only [PL]
     refine r1 2 (fun K hK => ?_)
     obtain ⟨k6, k7⟩ := (hE.h2).c2
     go_simp
     clear k6 k7
     refine hK.out _ _ (trivial) (fun hHeld => ?_)
     clear hK K
     try simp only [PL]
     refine r1 3 (fun K hK => ?_)
     go_simp
     have hc := fopposite_v (c := cb) hE.h4 lb
     refine hc.mono ?_
     clear hc
     rintro e w8 ⟨sy, Ay, ny, cy, rfl, hy, hb⟩
     replace hE := hE.step hb
     clear hb
     replace hE := hE.wv hy
     clear hy
     go_wp2_with fail
     refine hK.out _ _ (trivial) (fun hHeld => ?_)
     clear hK K
     try simp only [PL]
     refine r1 4 (fun K hK => ?_)
     have hgl9 : w.heap.size ≤ w.heap.size := by omega
     obtain ⟨x9_0, x9_1⟩ := (hE.h4).c2
     obtain ⟨f9_0, f9_1⟩ := hE.h4.f2
     replace hE := ((((((((Env.again (bel2 hE.bel hgl9 (.bool sx) (.slice Ax nx cx))).wv ((hE.h6).sep2 hE.h4 rfl (.bool sx) (.slice Ax nx cx) rfl)).wv ((hE.h5).sep2 hE.h4 rfl (.bool sx) (.slice Ax nx cx) rfl)).blkI ((hE.h4).s2 (.bool sx) (.slice Ax nx cx))).blkI ((hE.h3).far2 (R := w.heap.size) (by omega) (.bool sx) (.slice Ax nx cx))).blkI ((hE.h2).far2 (R := w.heap.size) (by omega) (.bool sx) (.slice Ax nx cx))).wv ((hE.here.1.2).sep2 hE.h4 rfl (.bool sx) (.slice Ax nx cx) rfl)).wv ((hE.here.2).sep2 hE.h4 rfl (.bool sx) (.slice Ax nx cx) rfl))
     go_simp
     clear x9_0 x9_1 f9_0 f9_1 hgl9
     generalize ((w8.setCell ⟨w.heap.size, 0, none⟩ (.bool sx)).setCell ⟨w.heap.size, 1, none⟩ (.slice Ax nx cx)) = W9 at hE ⊢
     refine hK.out _ _ (trivial) (fun hHeld => ?_)
     clear hK K
     try simp only [PL]
     refine r1 5 (fun K hK => ?_)
     have hgl10 : w.heap.size ≤ w.heap.size + 1 := by omega
     obtain ⟨x10_0, x10_1⟩ := (hE.h3).c2
     obtain ⟨f10_0, f10_1⟩ := hE.h3.f2
     replace hE := ((((((((Env.again (bel2 hE.bel hgl10 (.bool sy) (.slice Ay ny cy))).wv ((hE.h6).sep2 hE.h3 rfl (.bool sy) (.slice Ay ny cy) rfl)).wv ((hE.h5).sep2 hE.h3 rfl (.bool sy) (.slice Ay ny cy) rfl)).blkI ((hE.h4).far2 (R := w.heap.size + 1) (by omega) (.bool sy) (.slice Ay ny cy))).blkI ((hE.h3).s2 (.bool sy) (.slice Ay ny cy))).blkI ((hE.h2).far2 (R := w.heap.size + 1) (by omega) (.bool sy) (.slice Ay ny cy))).wv ((hE.here.1.2).sep2 hE.h3 rfl (.bool sy) (.slice Ay ny cy) rfl)).wv ((hE.here.2).sep2 hE.h3 rfl (.bool sy) (.slice Ay ny cy) rfl))
     go_simp
     clear x10_0 x10_1 f10_0 f10_1 hgl10
     generalize ((W9.setCell ⟨w.heap.size + 1, 0, none⟩ (.bool sy)).setCell ⟨w.heap.size + 1, 1, none⟩ (.slice Ay ny cy)) = W10 at hE ⊢
     refine hK.out _ _ (trivial) (fun hHeld => ?_)
     clear hK K
     try simp only [PL]
     refine wpAnyH_done (by kernel_rfl) ?_ _
     go_wp2_with fail
     go_meet
     exact ⟨sx, Ax, nx, cx, sy, Ay, ny, cy, hE⟩
    ·
     obtain ⟨k11, k12⟩ := (hE.here.1.2).c2
     go_simp
     clear k11 k12
     refine hK.out _ _ (trivial) (fun hHeld => ?_)
     clear hK K
     try simp only [PL]
     refine r1 1 (fun K hK => ?_)
     go_simp
     have hc := fopposite_v (c := ca) hE.h4 la
     refine hc.mono ?_
     clear hc
     rintro e w13 ⟨sx, Ax, nx, cx, rfl, hx, hb⟩
     replace hE := hE.step hb
     clear hb
     replace hE := hE.wv hx
     clear hx
     go_wp2_with fail
     refine hK.out _ _ (trivial) (fun hHeld => ?_)
     clear hK K
     try simp only [PL]
     refine r1 3 (fun K hK => ?_)
     go_simp
     have hc := fopposite_v (c := cb) hE.h4 lb
     refine hc.mono ?_
     clear hc
     rintro e w14 ⟨sy, Ay, ny, cy, rfl, hy, hb⟩
     replace hE := hE.step hb
     clear hb
     replace hE := hE.wv hy
     clear hy
     go_wp2_with fail
     refine hK.out _ _ (trivial) (fun hHeld => ?_)
     clear hK K
     try simp only [PL]
     refine r1 4 (fun K hK => ?_)
     have hgl15 : w.heap.size ≤ w.heap.size := by omega
     obtain ⟨x15_0, x15_1⟩ := (hE.h4).c2
     obtain ⟨f15_0, f15_1⟩ := hE.h4.f2
     replace hE := ((((((((Env.again (bel2 hE.bel hgl15 (.bool sx) (.slice Ax nx cx))).wv ((hE.h6).sep2 hE.h4 rfl (.bool sx) (.slice Ax nx cx) rfl)).wv ((hE.h5).sep2 hE.h4 rfl (.bool sx) (.slice Ax nx cx) rfl)).blkI ((hE.h4).s2 (.bool sx) (.slice Ax nx cx))).blkI ((hE.h3).far2 (R := w.heap.size) (by omega) (.bool sx) (.slice Ax nx cx))).blkI ((hE.h2).far2 (R := w.heap.size) (by omega) (.bool sx) (.slice Ax nx cx))).wv ((hE.here.1.2).sep2 hE.h4 rfl (.bool sx) (.slice Ax nx cx) rfl)).wv ((hE.here.2).sep2 hE.h4 rfl (.bool sx) (.slice Ax nx cx) rfl))
     go_simp
     clear x15_0 x15_1 f15_0 f15_1 hgl15
     generalize ((w14.setCell ⟨w.heap.size, 0, none⟩ (.bool sx)).setCell ⟨w.heap.size, 1, none⟩ (.slice Ax nx cx)) = W15 at hE ⊢
     refine hK.out _ _ (trivial) (fun hHeld => ?_)
     clear hK K
     try simp only [PL]
     refine r1 5 (fun K hK => ?_)
     have hgl16 : w.heap.size ≤ w.heap.size + 1 := by omega
     obtain ⟨x16_0, x16_1⟩ := (hE.h3).c2
     obtain ⟨f16_0, f16_1⟩ := hE.h3.f2
     replace hE := ((((((((Env.again (bel2 hE.bel hgl16 (.bool sy) (.slice Ay ny cy))).wv ((hE.h6).sep2 hE.h3 rfl (.bool sy) (.slice Ay ny cy) rfl)).wv ((hE.h5).sep2 hE.h3 rfl (.bool sy) (.slice Ay ny cy) rfl)).blkI ((hE.h4).far2 (R := w.heap.size + 1) (by omega) (.bool sy) (.slice Ay ny cy))).blkI ((hE.h3).s2 (.bool sy) (.slice Ay ny cy))).blkI ((hE.h2).far2 (R := w.heap.size + 1) (by omega) (.bool sy) (.slice Ay ny cy))).wv ((hE.here.1.2).sep2 hE.h3 rfl (.bool sy) (.slice Ay ny cy) rfl)).wv ((hE.here.2).sep2 hE.h3 rfl (.bool sy) (.slice Ay ny cy) rfl))
     go_simp
     clear x16_0 x16_1 f16_0 f16_1 hgl16
     generalize ((W15.setCell ⟨w.heap.size + 1, 0, none⟩ (.bool sy)).setCell ⟨w.heap.size + 1, 1, none⟩ (.slice Ay ny cy)) = W16 at hE ⊢
     refine hK.out _ _ (trivial) (fun hHeld => ?_)
     clear hK K
     try simp only [PL]
     refine wpAnyH_done (by kernel_rfl) ?_ _
     go_wp2_with fail
     go_meet
     exact ⟨sx, Ax, nx, cx, sy, Ay, ny, cy, hE⟩
   ·
    obtain ⟨k17, k18⟩ := (hE.here.1.2).c2
    go_simp
    clear k17 k18
    refine hK.out _ _ (trivial) (fun hHeld => ?_)
    clear hK K
    try simp only [PL]
    refine r1 0 (fun K hK => ?_)
    obtain ⟨k19, k20⟩ := (hE.h2).c2
    go_simp
    clear k19 k20
    refine hK.out _ _ (trivial) (fun hHeld => ?_)
    clear hK K
    try simp only [PL]
    refine r1 1 (fun K hK => ?_)
    go_simp
    have hc := fopposite_v (c := ca) hE.h4 la
    refine hc.mono ?_
    clear hc
    rintro e w21 ⟨sx, Ax, nx, cx, rfl, hx, hb⟩
    replace hE := hE.step hb
    clear hb
    replace hE := hE.wv hx
    clear hx
    go_wp2_with fail
    refine hK.out _ _ (trivial) (fun hHeld => ?_)
    clear hK K
    try simp only [PL]
    refine r1 3 (fun K hK => ?_)
    go_simp
    have hc := fopposite_v (c := cb) hE.h4 lb
    refine hc.mono ?_
    clear hc
    rintro e w22 ⟨sy, Ay, ny, cy, rfl, hy, hb⟩
    replace hE := hE.step hb
    clear hb
    replace hE := hE.wv hy
    clear hy
    go_wp2_with fail
    refine hK.out _ _ (trivial) (fun hHeld => ?_)
    clear hK K
    try simp only [PL]
    refine r1 4 (fun K hK => ?_)
    have hgl23 : w.heap.size ≤ w.heap.size := by omega
    obtain ⟨x23_0, x23_1⟩ := (hE.h4).c2
    obtain ⟨f23_0, f23_1⟩ := hE.h4.f2
    replace hE := ((((((((Env.again (bel2 hE.bel hgl23 (.bool sx) (.slice Ax nx cx))).wv ((hE.h6).sep2 hE.h4 rfl (.bool sx) (.slice Ax nx cx) rfl)).wv ((hE.h5).sep2 hE.h4 rfl (.bool sx) (.slice Ax nx cx) rfl)).blkI ((hE.h4).s2 (.bool sx) (.slice Ax nx cx))).blkI ((hE.h3).far2 (R := w.heap.size) (by omega) (.bool sx) (.slice Ax nx cx))).blkI ((hE.h2).far2 (R := w.heap.size) (by omega) (.bool sx) (.slice Ax nx cx))).wv ((hE.here.1.2).sep2 hE.h4 rfl (.bool sx) (.slice Ax nx cx) rfl)).wv ((hE.here.2).sep2 hE.h4 rfl (.bool sx) (.slice Ax nx cx) rfl))
    go_simp
    clear x23_0 x23_1 f23_0 f23_1 hgl23
    generalize ((w22.setCell ⟨w.heap.size, 0, none⟩ (.bool sx)).setCell ⟨w.heap.size, 1, none⟩ (.slice Ax nx cx)) = W23 at hE ⊢
    refine hK.out _ _ (trivial) (fun hHeld => ?_)
    clear hK K
    try simp only [PL]
    refine r1 5 (fun K hK => ?_)
    have hgl24 : w.heap.size ≤ w.heap.size + 1 := by omega
    obtain ⟨x24_0, x24_1⟩ := (hE.h3).c2
    obtain ⟨f24_0, f24_1⟩ := hE.h3.f2
    replace hE := ((((((((Env.again (bel2 hE.bel hgl24 (.bool sy) (.slice Ay ny cy))).wv ((hE.h6).sep2 hE.h3 rfl (.bool sy) (.slice Ay ny cy) rfl)).wv ((hE.h5).sep2 hE.h3 rfl (.bool sy) (.slice Ay ny cy) rfl)).blkI ((hE.h4).far2 (R := w.heap.size + 1) (by omega) (.bool sy) (.slice Ay ny cy))).blkI ((hE.h3).s2 (.bool sy) (.slice Ay ny cy))).blkI ((hE.h2).far2 (R := w.heap.size + 1) (by omega) (.bool sy) (.slice Ay ny cy))).wv ((hE.here.1.2).sep2 hE.h3 rfl (.bool sy) (.slice Ay ny cy) rfl)).wv ((hE.here.2).sep2 hE.h3 rfl (.bool sy) (.slice Ay ny cy) rfl))
    go_simp
    clear x24_0 x24_1 f24_0 f24_1 hgl24
    generalize ((W23.setCell ⟨w.heap.size + 1, 0, none⟩ (.bool sy)).setCell ⟨w.heap.size + 1, 1, none⟩ (.slice Ay ny cy)) = W24 at hE ⊢
    refine hK.out _ _ (trivial) (fun hHeld => ?_)
    clear hK K
    try simp only [PL]
    refine wpAnyH_done (by kernel_rfl) ?_ _
    go_wp2_with fail
    go_meet
    exact ⟨sx, Ax, nx, cx, sy, Ay, ny, cy, hE⟩
  case rest =>
  clear hE
  obtain ⟨sx, Ax, nx, cx, sy, Ay, ny, cy, hE⟩ := hcut
  have la2 := neg_len hE.h6 hE.here.1.2 la
  have lb2 := neg_len hE.h5 hE.here.2 lb
  clear la lb
  have la := la2
  have lb := lb2
  clear la2 lb2
  go_upto_region 3 with (fail)
  obtain ⟨k25, k26⟩ := (hE.h4).c2
  obtain ⟨k27, k28⟩ := (hE.h3).c2
  go_wp2_with fail
  have hc := fdivisor_v (ca := cx) (cb := cy) hE.here.1.2 hE.here.2 la lb
  refine hc.mono ?_
  clear hc
  clear k25 k26 k27 k28
  rintro e w29 ⟨sg, Ag, ng, cg, rfl, hg, hb⟩
  replace hE := hE.step hb
  clear hb
  replace hE := hE.wv hg
  clear hg
  have lg := gcd_len hE.h2 hE.here.1.2 hE.here.2 (show ((-b)) ≠ 0 by omega) lb
  go_upto_region 4 with (fail)
  obtain ⟨g30, hg30⟩ : ∃ g30, g30 = w29.heap.size := ⟨_, rfl⟩
  have hl30_2 : w.heap.size < g30 := by rw [hg30]; exact (hE.h5).lt
  have hl30_3 : w.heap.size + 1 < g30 := by rw [hg30]; exact (hE.h4).lt
  have hl30_4 : w.heap.size + 1 + 1 < g30 := by rw [hg30]; exact (hE.h3).lt
  replace hE := hE.blk 27 #[.bool sg, .slice Ag ng cg] (g := g30) hg30.symm
  generalize w29.alloc (.cells #[.bool sg, .slice Ag ng cg] 27) = W30 at hE ⊢
  rw [← hg30]
  clear hg30
  obtain ⟨k31, k32⟩ := (hE.h6).c2
  obtain ⟨k33, k34⟩ := (hE.here.2).c2
  go_wp2_with fail
  have hc := fdivide_v (ca := cx) (cb := cg) hE.h3 hE.here.1.2 la lg (gcd_ne (show ((-b)) ≠ 0 by omega))
  refine hc.mono ?_
  clear hc
  clear k31 k32 k33 k34
  rintro e w35 ⟨sp, Ap, np, cp, sr, Ar, nr, cr, rfl, hp, hr, hb⟩
  replace hE := hE.step hb
  clear hb
  replace hE := hE.wv hp
  clear hp
  replace hE := hE.wv hr
  clear hr
  have hgl36 : w.heap.size ≤ w.heap.size := by omega
  obtain ⟨x36_0, x36_1⟩ := (hE.h8).c2
  obtain ⟨f36_0, f36_1⟩ := hE.h8.f2
  replace hE := ((((((((((((Env.again (bel2 hE.bel hgl36 (.bool sp) (.slice Ap np cp))).wv ((hE.h10).sep2 hE.h8 rfl (.bool sp) (.slice Ap np cp) rfl)).wv ((hE.h9).sep2 hE.h8 rfl (.bool sp) (.slice Ap np cp) rfl)).blkI ((hE.h8).s2 (.bool sp) (.slice Ap np cp))).blkI ((hE.h7).far2 (R := w.heap.size) (by omega) (.bool sp) (.slice Ap np cp))).blkI ((hE.h6).far2 (R := w.heap.size) (by omega) (.bool sp) (.slice Ap np cp))).wv ((hE.h5).sep2 hE.h8 rfl (.bool sp) (.slice Ap np cp) rfl)).wv ((hE.h4).sep2 hE.h8 rfl (.bool sp) (.slice Ap np cp) rfl)).wv ((hE.h3).sep2 hE.h8 rfl (.bool sp) (.slice Ap np cp) rfl)).blkI ((hE.h2).far2 (R := w.heap.size) (by omega) (.bool sp) (.slice Ap np cp))).wv ((hE.here.1.2).sep2 hE.h8 rfl (.bool sp) (.slice Ap np cp) rfl)).wv ((hE.here.2).sep2 hE.h8 rfl (.bool sp) (.slice Ap np cp) rfl))
  go_upto_region 5 with (fail)
  clear x36_0 x36_1 f36_0 f36_1 hgl36
  generalize ((w35.setCell ⟨w.heap.size, 0, none⟩ (.bool sp)).setCell ⟨w.heap.size, 1, none⟩ (.slice Ap np cp)) = W36 at hE ⊢
  obtain ⟨k37, k38⟩ := (hE.h7).c2
  obtain ⟨k39, k40⟩ := (hE.h2).c2
  go_wp2_with fail
  have hc := fdivide_v (ca := cy) (cb := cg) hE.h4 hE.h3 lb lg (gcd_ne (show ((-b)) ≠ 0 by omega))
  refine hc.mono ?_
  clear hc
  clear k37 k38 k39 k40
  rintro e w41 ⟨sq, Aq, nq, cq, su, Au, nu, cu, rfl, hq, hu, hb⟩
  replace hE := hE.step hb
  clear hb
  replace hE := hE.wv hq
  clear hq
  replace hE := hE.wv hu
  clear hu
  have hgl42 : w.heap.size ≤ w.heap.size + 1 := by omega
  obtain ⟨x42_0, x42_1⟩ := (hE.h9).c2
  obtain ⟨f42_0, f42_1⟩ := hE.h9.f2
  replace hE := ((((((((((((((Env.again (bel2 hE.bel hgl42 (.bool sq) (.slice Aq nq cq))).wv ((hE.h12).sep2 hE.h9 rfl (.bool sq) (.slice Aq nq cq) rfl)).wv ((hE.h11).sep2 hE.h9 rfl (.bool sq) (.slice Aq nq cq) rfl)).blkI ((hE.h10).far2 (R := w.heap.size + 1) (by omega) (.bool sq) (.slice Aq nq cq))).blkI ((hE.h9).s2 (.bool sq) (.slice Aq nq cq))).blkI ((hE.h8).far2 (R := w.heap.size + 1) (by omega) (.bool sq) (.slice Aq nq cq))).wv ((hE.h7).sep2 hE.h9 rfl (.bool sq) (.slice Aq nq cq) rfl)).wv ((hE.h6).sep2 hE.h9 rfl (.bool sq) (.slice Aq nq cq) rfl)).wv ((hE.h5).sep2 hE.h9 rfl (.bool sq) (.slice Aq nq cq) rfl)).blkI ((hE.h4).far2 (R := w.heap.size + 1) (by omega) (.bool sq) (.slice Aq nq cq))).wv ((hE.h3).sep2 hE.h9 rfl (.bool sq) (.slice Aq nq cq) rfl)).wv ((hE.h2).sep2 hE.h9 rfl (.bool sq) (.slice Aq nq cq) rfl)).wv ((hE.here.1.2).sep2 hE.h9 rfl (.bool sq) (.slice Aq nq cq) rfl)).wv ((hE.here.2).sep2 hE.h9 rfl (.bool sq) (.slice Aq nq cq) rfl))
  go_upto_region 6 with (fail)
  clear x42_0 x42_1 f42_0 f42_1 hgl42
  generalize ((w41.setCell ⟨w.heap.size + 1, 0, none⟩ (.bool sq)).setCell ⟨w.heap.size + 1, 1, none⟩ (.slice Aq nq cq)) = W42 at hE ⊢
  obtain ⟨e1, e2⟩ := low_pos (n := (-a)) (d := (-b)) (show 0 < -b by omega)
  rw [low_neg] at e1 e2
  have hfv : FV W42 (Rat.divInt a b) sp Ap np sq Aq nq := ⟨by rw [e1]; exact hE.h3, by rw [e2]; exact hE.here.1.2⟩
  clear e1 e2
  replace hE := hE.fv hfv
  clear hfv
  obtain ⟨k43, k44⟩ := (hE.h11).c2
  obtain ⟨k45, k46⟩ := (hE.h10).c2
  have hRl : w.heap.size ≤ w.heap.size + 1 + 1 := by omega
  obtain ⟨WW, hWW, hB, hV, hBel⟩ := ret_frac hE hE.h9 hRl hE.here.2 cp cq
  obtain ⟨x0, x1, x2, x3⟩ := (hE.h9).c4
  obtain ⟨fz0, fz1, fz2, fz3⟩ := hE.h9.f4
  have HWW := Lib.hid hWW
  clear hWW
  go_wp2_with fail
  clear k43 k44 k45 k46
  rw [← HWW.out]
  obtain ⟨y0, y1, y2, y3⟩ := hB.c4
  refine bodyPost_ret (v := .agg #[.bool sp, .slice Ap np cp, .bool sq, .slice Aq nq cq]) (by simp [results, Tryz.results50, go_sem, y0, y1, y2, y3]) rfl ?_
  exact ⟨sp, Ap, np, cp, sq, Aq, nq, cq, rfl, hV, hBel⟩
 | false =>
  have hd : 0 < b := by have := of_decide_eq_false hb.sgn.symm; omega
  have hE := ((((Env.start w).wv ha).wv hb).blk 27 #[.bool sa, .slice Aa na ca] (g := w.heap.size) rfl).blk 27 #[.bool false, .slice Ab nb cb] (g := w.heap.size + 1) (by simp)
  have hE := hE.blk 85 #[.bool false, .slice none 0 0, .bool false, .slice none 0 0] (g := w.heap.size + 1 + 1) (by simp)
  obtain ⟨W0, hW0⟩ : ∃ W0, W0 = (((w.alloc (.cells #[.bool sa, .slice Aa na ca] 27)).alloc (.cells #[.bool false, .slice Ab nb cb] 27)).alloc (.cells #[.bool false, .slice none 0 0, .bool false, .slice none 0 0] 85)) := ⟨_, rfl⟩
  rw [← hW0] at hE
  have HW0 := Lib.hid hW0
  clear hW0
  go_enter Tryz.func50, Tryz.ntmps50
  go_upto_region 1 with (fail)
  rw [← HW0.out]
  obtain ⟨k1, k2⟩ := (hE.here.1.2).c2
  go_upto_region 3 with (fail)
  clear k1 k2
  obtain ⟨k3, k4⟩ := (hE.h2).c2
  obtain ⟨k5, k6⟩ := (hE.here.1.2).c2
  go_wp2_with fail
  have hc := fdivisor_v (ca := ca) (cb := cb) hE.h4 hE.h3 la lb
  refine hc.mono ?_
  clear hc
  clear k3 k4 k5 k6
  rintro e w7 ⟨sg, Ag, ng, cg, rfl, hg, hb⟩
  replace hE := hE.step hb
  clear hb
  replace hE := hE.wv hg
  clear hg
  have lg := gcd_len hE.h5 hE.h4 hE.here.2 (show (b) ≠ 0 by omega) lb
  go_upto_region 4 with (fail)
  obtain ⟨g8, hg8⟩ : ∃ g8, g8 = w7.heap.size := ⟨_, rfl⟩
  have hl8_2 : w.heap.size < g8 := by rw [hg8]; exact (hE.h3).lt
  have hl8_3 : w.heap.size + 1 < g8 := by rw [hg8]; exact (hE.h2).lt
  have hl8_4 : w.heap.size + 1 + 1 < g8 := by rw [hg8]; exact (hE.here.1.2).lt
  replace hE := hE.blk 27 #[.bool sg, .slice Ag ng cg] (g := g8) hg8.symm
  generalize w7.alloc (.cells #[.bool sg, .slice Ag ng cg] 27) = W8 at hE ⊢
  rw [← hg8]
  clear hg8
  obtain ⟨k9, k10⟩ := (hE.h4).c2
  obtain ⟨k11, k12⟩ := (hE.here.2).c2
  go_wp2_with fail
  have hc := fdivide_v (ca := ca) (cb := cg) hE.h6 hE.here.1.2 la lg (gcd_ne (show (b) ≠ 0 by omega))
  refine hc.mono ?_
  clear hc
  clear k9 k10 k11 k12
  rintro e w13 ⟨sp, Ap, np, cp, sr, Ar, nr, cr, rfl, hp, hr, hb⟩
  replace hE := hE.step hb
  clear hb
  replace hE := hE.wv hp
  clear hp
  replace hE := hE.wv hr
  clear hr
  have hgl14 : w.heap.size ≤ w.heap.size := by omega
  obtain ⟨x14_0, x14_1⟩ := (hE.h6).c2
  obtain ⟨f14_0, f14_1⟩ := hE.h6.f2
  replace hE := ((((((((((Env.again (bel2 hE.bel hgl14 (.bool sp) (.slice Ap np cp))).wv ((hE.h8).sep2 hE.h6 rfl (.bool sp) (.slice Ap np cp) rfl)).wv ((hE.h7).sep2 hE.h6 rfl (.bool sp) (.slice Ap np cp) rfl)).blkI ((hE.h6).s2 (.bool sp) (.slice Ap np cp))).blkI ((hE.h5).far2 (R := w.heap.size) (by omega) (.bool sp) (.slice Ap np cp))).blkI ((hE.h4).far2 (R := w.heap.size) (by omega) (.bool sp) (.slice Ap np cp))).wv ((hE.h3).sep2 hE.h6 rfl (.bool sp) (.slice Ap np cp) rfl)).blkI ((hE.h2).far2 (R := w.heap.size) (by omega) (.bool sp) (.slice Ap np cp))).wv ((hE.here.1.2).sep2 hE.h6 rfl (.bool sp) (.slice Ap np cp) rfl)).wv ((hE.here.2).sep2 hE.h6 rfl (.bool sp) (.slice Ap np cp) rfl))
  go_upto_region 5 with (fail)
  clear x14_0 x14_1 f14_0 f14_1 hgl14
  generalize ((w13.setCell ⟨w.heap.size, 0, none⟩ (.bool sp)).setCell ⟨w.heap.size, 1, none⟩ (.slice Ap np cp)) = W14 at hE ⊢
  obtain ⟨k15, k16⟩ := (hE.h5).c2
  obtain ⟨k17, k18⟩ := (hE.h2).c2
  go_wp2_with fail
  have hc := fdivide_v (ca := cb) (cb := cg) hE.h7 hE.h3 lb lg (gcd_ne (show (b) ≠ 0 by omega))
  refine hc.mono ?_
  clear hc
  clear k15 k16 k17 k18
  rintro e w19 ⟨sq, Aq, nq, cq, su, Au, nu, cu, rfl, hq, hu, hb⟩
  replace hE := hE.step hb
  clear hb
  replace hE := hE.wv hq
  clear hq
  replace hE := hE.wv hu
  clear hu
  have hgl20 : w.heap.size ≤ w.heap.size + 1 := by omega
  obtain ⟨x20_0, x20_1⟩ := (hE.h7).c2
  obtain ⟨f20_0, f20_1⟩ := hE.h7.f2
  replace hE := ((((((((((((Env.again (bel2 hE.bel hgl20 (.bool sq) (.slice Aq nq cq))).wv ((hE.h10).sep2 hE.h7 rfl (.bool sq) (.slice Aq nq cq) rfl)).wv ((hE.h9).sep2 hE.h7 rfl (.bool sq) (.slice Aq nq cq) rfl)).blkI ((hE.h8).far2 (R := w.heap.size + 1) (by omega) (.bool sq) (.slice Aq nq cq))).blkI ((hE.h7).s2 (.bool sq) (.slice Aq nq cq))).blkI ((hE.h6).far2 (R := w.heap.size + 1) (by omega) (.bool sq) (.slice Aq nq cq))).wv ((hE.h5).sep2 hE.h7 rfl (.bool sq) (.slice Aq nq cq) rfl)).blkI ((hE.h4).far2 (R := w.heap.size + 1) (by omega) (.bool sq) (.slice Aq nq cq))).wv ((hE.h3).sep2 hE.h7 rfl (.bool sq) (.slice Aq nq cq) rfl)).wv ((hE.h2).sep2 hE.h7 rfl (.bool sq) (.slice Aq nq cq) rfl)).wv ((hE.here.1.2).sep2 hE.h7 rfl (.bool sq) (.slice Aq nq cq) rfl)).wv ((hE.here.2).sep2 hE.h7 rfl (.bool sq) (.slice Aq nq cq) rfl))
  go_upto_region 6 with (fail)
  clear x20_0 x20_1 f20_0 f20_1 hgl20
  generalize ((w19.setCell ⟨w.heap.size + 1, 0, none⟩ (.bool sq)).setCell ⟨w.heap.size + 1, 1, none⟩ (.slice Aq nq cq)) = W20 at hE ⊢
  obtain ⟨e1, e2⟩ := low_pos (n := a) (d := b) hd
  have hfv : FV W20 (Rat.divInt a b) sp Ap np sq Aq nq := ⟨by rw [e1]; exact hE.h3, by rw [e2]; exact hE.here.1.2⟩
  clear e1 e2
  replace hE := hE.fv hfv
  clear hfv
  obtain ⟨k21, k22⟩ := (hE.h9).c2
  obtain ⟨k23, k24⟩ := (hE.h8).c2
  have hRl : w.heap.size ≤ w.heap.size + 1 + 1 := by omega
  obtain ⟨WW, hWW, hB, hV, hBel⟩ := ret_frac hE hE.h7 hRl hE.here.2 cp cq
  obtain ⟨x0, x1, x2, x3⟩ := (hE.h7).c4
  obtain ⟨fz0, fz1, fz2, fz3⟩ := hE.h7.f4
  have HWW := Lib.hid hWW
  clear hWW
  go_wp2_with fail
  clear k21 k22 k23 k24
  rw [← HWW.out]
  obtain ⟨y0, y1, y2, y3⟩ := hB.c4
  refine bodyPost_ret (v := .agg #[.bool sp, .slice Ap np cp, .bool sq, .slice Aq nq cq]) (by simp [results, Tryz.results50, go_sem, y0, y1, y2, y3]) rfl ?_
  exact ⟨sp, Ap, np, cp, sq, Aq, nq, cq, rfl, hV, hBel⟩
end Go.Proofs.YtjgihmmeimfheaaGreat
