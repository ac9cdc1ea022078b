/-
  Several texts in one: The walk of frac.opposite. The walks of frac.divide and frac.lowest. The walk of frac.lowest.
-/
import Derived.Test.YtjgihmmeimfheaaGreatK3
import Derived.Test.YtjgihmmeimfheaaGreatK8
import Derived.Deep.RegionWith
set_option linter.unusedSimpArgs false
set_option maxRecDepth 100000
set_option maxHeartbeats 4000000
namespace Go.Proofs.YtjgihmmeimfheaaGreat
section
open Go.RowKit

theorem clone_v {z : Int} {s : Bool} {A : Option Addr} {n c : Nat} {w : World} (ha : WV w z s A n) (la : n ≤ 1024) :
  Calls Tryz.prog 69 #[.slice A n c] w fun e w' => ∃ A' c', e = .returned (.slice A' n c') ∧ Num16 w' A' z.natAbs ∧ Below w.heap.size w w' := by
 have hr : Rd w.heap.size .u16 w A n (dgt b16 z.natAbs) := by have := ha.2.2; unfold Num16 at this; rwa [← ha.len] at this
 refine (clone16_any A n c _ w hr (by omega)).mono ?_
 rintro e w' ⟨v, rfl, hown, hb, -⟩
 obtain ⟨A', c', rfl, _, hro⟩ := RowO.of_own hown;refine ⟨A', c', rfl, ?_, hb⟩;unfold Num16;rw [← ha.len];exact hro.rd
theorem neg_sgn {z : Int} {s : Bool} {A : Option Addr} {n : Nat} {w : World} (ha : WV w z s A n) : (!s && decide (0 < n)) = decide (-z < 0) := by
 rw [ha.sgn, ha.len]
 by_cases h1 : z < 0
 · rw [decide_eq_true h1, decide_eq_false (show ¬ -z < 0 by omega)]; rfl
 ·
  rw [decide_eq_false h1]
  by_cases h2 : z = 0
  ·
   subst h2;show decide (0 < ln b16 0) = decide (-(0 : Int) < 0);rw [ln_zero]; rfl
  · rw [decide_eq_true ((ln_pos b16_two).2 (show 0 < z.natAbs by omega)), decide_eq_true (show -z < 0 by omega)]; rfl
theorem fopposite_v {z : Int} {s : Bool} {A : Option Addr} {n c : Nat} {w : World} (ha : WV w z s A n) (la : n ≤ 1024) :
  Calls Tryz.prog 52 #[.agg #[.bool s, .slice A n c]] w (WR (-z) w) := by
 have hsg := neg_sgn ha
 cases s with
 | true =>
  have HS := Lib.hid (show false = decide (-z < 0) from hsg);clear hsg;have hE := ((Env.start w).wv ha).blk 27 #[.bool true, .slice A n c] (g := w.heap.size) rfl;have hE := hE.blk 27 #[.bool false, .slice none 0 0] (g := w.heap.size + 1) (by simp)
  obtain ⟨W0, hW0⟩ : ∃ W0, W0 = ((w.alloc (.cells #[.bool true, .slice A n c] 27)).alloc (.cells #[.bool false, .slice none 0 0] 27)) := ⟨_, rfl⟩
  rw [← hW0] at hE;have HW0 := Lib.hid hW0;clear hW0
  go_enter Tryz.func52, Tryz.ntmps52
  go_upto_region 1 with (fail)
  rw [← HW0.out];replace hE := hE.drew;refine wp_region_held_drew (S := fun w' => w'.cell? ⟨w.heap.size, 0, none⟩ = some (.bool true) ∧ w'.cell? ⟨w.heap.size, 1, none⟩ = some (.slice A n c)) (by kernel_rfl) (hE.here.1.2.c2) (fun hHeld => ?_);refine tk 0 ?_;refine tk 1 ?_;refine tk 2 ?_;refine tk 3 ?_;refine tu 4 ?_;refine tu 5 ?_;refine tu 6 ?_;refine tu 7 ?_;refine tk 8 ?_;refine tk 9 ?_;refine tk 10 ?_;refine r1 11 (fun K hK => ?_);go_simp;have hc := clone_v (c := c) hE.h2 la;refine hc.mono ?_;clear hc
  rintro e w2 ⟨A2, c2, rfl, hn2, hb⟩
  replace hE := hE.step hb;clear hb;have h2 : WV w2 (-z) false A2 n := ⟨HS.out, by rw [Int.natAbs_neg]; exact (hE.h2).len, by rw [Int.natAbs_neg]; exact hn2⟩;replace hE := hE.wv h2;clear h2 hn2;go_wp2_with fail
  refine hK.out _ _ (hE.h2.c2) (fun hHeld => ?_);clear hK K;try simp only [PL]
  refine tk 12 ?_;refine r1 13 (fun K hK => ?_)
  have hRl : w.heap.size ≤ w.heap.size + 1 := by omega
  obtain ⟨WW, hWW, hB, hV, hBel⟩ := ret_whole hE hE.here.1.2 hRl hE.here.2 c2;obtain ⟨x0, x1⟩ := (hE.here.1.2).c2;obtain ⟨fz0, fz1⟩ := hE.here.1.2.f2;have HWW := Lib.hid hWW;clear hWW;have q1 := (hE.h2).far2 (R := w.heap.size + 1) (by omega) (.bool false) (.slice A2 n c2);rw [← HWW.out] at q1;go_simp;rw [← HWW.out];refine hK.out _ _ (q1.c2) (fun hHeld => ?_);clear hK K;try simp only [PL]
  refine wpAnyH_done (by kernel_rfl) ?_ _;go_wp2_with fail
  obtain ⟨y0, y1⟩ := hB.c2;refine bodyPost_ret (v := .agg #[.bool false, .slice A2 n c2]) (by simp [results, Tryz.results52, go_sem, y0, y1]) rfl ?_;exact ⟨false, A2, n, c2, rfl, hV, hBel⟩
 | false =>
  rw [show (!false && decide (0 < n)) = decide (0 < n) from rfl] at hsg;have HS := Lib.hid (show decide (0 < n) = decide (-z < 0) from hsg);clear hsg;have hE := ((Env.start w).wv ha).blk 27 #[.bool false, .slice A n c] (g := w.heap.size) rfl;have hE := hE.blk 27 #[.bool false, .slice none 0 0] (g := w.heap.size + 1) (by simp)
  obtain ⟨W0, hW0⟩ : ∃ W0, W0 = ((w.alloc (.cells #[.bool false, .slice A n c] 27)).alloc (.cells #[.bool false, .slice none 0 0] 27)) := ⟨_, rfl⟩
  rw [← hW0] at hE;have HW0 := Lib.hid hW0;clear hW0
  go_enter Tryz.func52, Tryz.ntmps52
  go_upto_region 1 with (fail)
  rw [← HW0.out];replace hE := hE.drew;refine wp_region_held_drew (S := fun w' => w'.cell? ⟨w.heap.size, 0, none⟩ = some (.bool false) ∧ w'.cell? ⟨w.heap.size, 1, none⟩ = some (.slice A n c)) (by kernel_rfl) (hE.here.1.2.c2) (fun hHeld => ?_);refine tk 0 ?_;refine tk 1 ?_;refine tk 2 ?_;refine tk 3 ?_;refine tk 4 ?_;refine tk 5 ?_;refine tk 6 ?_;refine tk 7 ?_;refine tk 8 ?_;refine tk 9 ?_;refine tk 10 ?_;refine r1 11 (fun K hK => ?_);go_simp;have hc := clone_v (c := c) hE.h2 la;refine hc.mono ?_;clear hc
  rintro e w2 ⟨A2, c2, rfl, hn2, hb⟩
  replace hE := hE.step hb;clear hb;have h2 : WV w2 (-z) (decide (0 < n)) A2 n := ⟨HS.out, by rw [Int.natAbs_neg]; exact (hE.h2).len, by rw [Int.natAbs_neg]; exact hn2⟩;replace hE := hE.wv h2;clear h2 hn2;go_wp2_with fail
  refine hK.out _ _ (hE.h2.c2) (fun hHeld => ?_);clear hK K;try simp only [PL]
  refine tk 12 ?_;refine r1 13 (fun K hK => ?_)
  have hRl : w.heap.size ≤ w.heap.size + 1 := by omega
  obtain ⟨WW, hWW, hB, hV, hBel⟩ := ret_whole hE hE.here.1.2 hRl hE.here.2 c2;obtain ⟨x0, x1⟩ := (hE.here.1.2).c2;obtain ⟨fz0, fz1⟩ := hE.here.1.2.f2;have HWW := Lib.hid hWW;clear hWW;have q1 := (hE.h2).far2 (R := w.heap.size + 1) (by omega) (.bool (decide (0 < n))) (.slice A2 n c2);rw [← HWW.out] at q1;go_simp;rw [← HWW.out];refine hK.out _ _ (q1.c2) (fun hHeld => ?_);clear hK K;try simp only [PL]
  refine wpAnyH_done (by kernel_rfl) ?_ _;go_wp2_with fail
  obtain ⟨y0, y1⟩ := hB.c2;refine bodyPost_ret (v := .agg #[.bool (decide (0 < n)), .slice A2 n c2]) (by simp [results, Tryz.results52, go_sem, y0, y1]) rfl ?_;exact ⟨(decide (0 < n)), A2, n, c2, rfl, hV, hBel⟩
end
section
open Go.RowKit

def WR2 (q r : Int) (w : World) (e : Ending) (w' : World) : Prop := ∃ s A n c t B m d, e = .returned (.tuple #[.agg #[.bool s, .slice A n c], .agg #[.bool t, .slice B m d]]) ∧ WV w' q s A n ∧ WV w' r t B m ∧ Below w.heap.size w w'
def FR (q : Rat) (w : World) (e : Ending) (w' : World) : Prop := ∃ s A n c t B m d, e = .returned (.agg #[.bool s, .slice A n c, .bool t, .slice B m d]) ∧ FV w' q s A n t B m ∧ Below w.heap.size w w'
theorem ret_frac {w W : World} {P : World → Prop} {R : Nat} {T : TypeId} {q : Rat} {s t : Bool} {A B : Option Addr} {n m : Nat} (hE : Env w P W) (hR : Blk T R #[.bool false, .slice none 0 0, .bool false, .slice none 0 0] W) (hl : w.heap.size ≤ R) (hv : FV W q s A n t B m) (c d : Nat) :
  ∃ W', W' = (((W.setCell ⟨R, 0, none⟩ (.bool s)).setCell ⟨R, 1, none⟩ (.slice A n c)).setCell ⟨R, 2, none⟩ (.bool t)).setCell ⟨R, 3, none⟩ (.slice B m d) ∧ Blk T R #[.bool s, .slice A n c, .bool t, .slice B m d] W' ∧ FV W' q s A n t B m ∧ Below w.heap.size w W' :=
 ⟨_, rfl, hR.s4 _ _ _ _, hv.sep4 hR rfl _ _ _ _ rfl rfl rfl, bel4 hE.bel hl _ _ _ _⟩
theorem Blk.same {t : TypeId} {g i : Nat} {cs : Array Value} {W : World} {v : Value} (h : Blk t g cs W) (hi : cs[i]? = some v) : W.setCell ⟨g, i, none⟩ v = W := by
 have hm : (W.setCell ⟨g, i, none⟩ v).heap = W.heap := by
  refine Array.ext_getElem? fun j => ?_
  by_cases e : g = j
  ·
   subst e;have h2 := h.set_ i v;unfold Blk at h h2;rw [h, h2]
   congr 2
   refine Array.ext_getElem? fun k => ?_
   rw [Array.getElem?_setIfInBounds]
   by_cases e2 : i = k
   ·
    subst e2;rw [if_pos rfl, if_pos (Array.getElem?_eq_some_iff.1 hi).1, hi]
   · rw [if_neg e2]
  · exact Below.heap_setCell W ⟨g, i, none⟩ v j (fun e2 => e e2.symm)
 show ({ W with heap := (W.setCell ⟨g, i, none⟩ v).heap } : World) = W;rw [hm]
theorem fdivide_v {a b : Int} {sa sb : Bool} {Aa Ab : Option Addr} {na ca nb cb : Nat} {w : World} (ha : WV w a sa Aa na) (hb : WV w b sb Ab nb) (la : na ≤ 1024) (lb : nb ≤ 1024) (hb0 : b ≠ 0) :
  Calls Tryz.prog 54 #[.agg #[.bool sa, .slice Aa na ca], .agg #[.bool sb, .slice Ab nb cb]] w (WR2 (a.fdiv b) (a.fmod b) w) := by
 have hE := ((((Env.start w).wv ha).wv hb).blk 27 #[.bool sa, .slice Aa na ca] (g := w.heap.size) rfl).blk 27 #[.bool sb, .slice Ab nb cb] (g := w.heap.size + 1) (by simp);have hE := hE.blk 27 #[.bool false, .slice none 0 0] (g := w.heap.size + 1 + 1) (by simp);have hE := hE.blk 27 #[.bool false, .slice none 0 0] (g := w.heap.size + 1 + 1 + 1) (by simp)
 obtain ⟨W0, hW0⟩ : ∃ W0, W0 = ((((w.alloc (.cells #[.bool sa, .slice Aa na ca] 27)).alloc (.cells #[.bool sb, .slice Ab nb cb] 27)).alloc (.cells #[.bool false, .slice none 0 0] 27)).alloc (.cells #[.bool false, .slice none 0 0] 27)) := ⟨_, rfl⟩
 rw [← hW0] at hE;have HW0 := Lib.hid hW0;clear hW0
 go_enter Tryz.func54, Tryz.ntmps54
 go_upto_region 1 with (fail)
 rw [← HW0.out];obtain ⟨k1, k2⟩ := (hE.h3).c2;obtain ⟨k3, k4⟩ := (hE.h2).c2;go_wp2_with fail
 refine (divMod_v (c := ca) (d := cb) hE.h5 hE.h4 la lb hb0).mono ?_;clear k1 k2 k3 k4
 rintro e w5 ⟨sq, Aq, nq, cq, sr, Ar, nr, cr, rfl, hq, hr, hb⟩
 replace hE := hE.step hb;clear hb;replace hE := (hE.wv hq.v).wv hr.v;clear hq hr;obtain ⟨x0, x1⟩ := (hE.h3).c2;obtain ⟨z0, z1⟩ := (hE.h2).c2;have f0 := (hE.h3).frozen 0;have f1 := (hE.h3).frozen 1;have g0 := (hE.h2).frozen 0;have g1 := (hE.h2).frozen 1;have hB4 := (hE.h3).s2 (.bool sq) (.slice Aq nq cq);have hB5 := (hE.h2).far2 (R := w.heap.size + 1 + 1) (by omega) (.bool sq) (.slice Aq nq cq);have hQ := (hE.here.1.2).sep2 (hE.h3) rfl (.bool sq) (.slice Aq nq cq) rfl;have hR := (hE.here.2).sep2 (hE.h3) rfl (.bool sq) (.slice Aq nq cq) rfl;have hBel := bel2 (bel2 hE.bel (show w.heap.size ≤ w.heap.size + 1 + 1 by omega) (.bool sq) (.slice Aq nq cq)) (show w.heap.size ≤ w.heap.size + 1 + 1 + 1 by omega) (.bool sr) (.slice Ar nr cr);replace hQ := hQ.sep2 hB5 rfl (.bool sr) (.slice Ar nr cr) rfl;replace hR := hR.sep2 hB5 rfl (.bool sr) (.slice Ar nr cr) rfl;replace hB4 := hB4.far2 (R := w.heap.size + 1 + 1 + 1) (by omega) (.bool sr) (.slice Ar nr cr);replace hB5 := hB5.s2 (.bool sr) (.slice Ar nr cr)
 go_upto_region 2 with (fail)
 clear x0 x1 z0 z1 f0 f1 g0 g1
 generalize ((((w5.setCell ⟨w.heap.size + 1 + 1, 0, none⟩ (.bool sq)).setCell ⟨w.heap.size + 1 + 1, 1, none⟩ (.slice Aq nq cq)).setCell ⟨w.heap.size + 1 + 1 + 1, 0, none⟩ (.bool sr)).setCell ⟨w.heap.size + 1 + 1 + 1, 1, none⟩ (.slice Ar nr cr)) = WW at *
 have s1 : WW.drew.setCell ⟨w.heap.size + 1 + 1, 0, none⟩ (.bool sq) = WW.drew := Blk.same (W := WW.drew) hB4 rfl;have s2 : WW.drew.setCell ⟨w.heap.size + 1 + 1, 1, none⟩ (.slice Aq nq cq) = WW.drew := Blk.same (W := WW.drew) hB4 rfl;have s3 : WW.drew.setCell ⟨w.heap.size + 1 + 1 + 1, 0, none⟩ (.bool sr) = WW.drew := Blk.same (W := WW.drew) hB5 rfl;have s4 : WW.drew.setCell ⟨w.heap.size + 1 + 1 + 1, 1, none⟩ (.slice Ar nr cr) = WW.drew := Blk.same (W := WW.drew) hB5 rfl;obtain ⟨y0, y1⟩ := hB4.c2;obtain ⟨y2, y3⟩ := hB5.c2;have f0 := hB4.frozen 0;have f1 := hB4.frozen 1;have g0 := hB5.frozen 0;have g1 := hB5.frozen 1
 go_region_held3 (fun w' => w'.cell? ⟨w.heap.size + 1 + 1, 0, none⟩ = some (.bool sq) ∧ w'.cell? ⟨w.heap.size + 1 + 1, 1, none⟩ = some (.slice Aq nq cq) ∧ w'.cell? ⟨w.heap.size + 1 + 1 + 1, 0, none⟩ = some (.bool sr) ∧ w'.cell? ⟨w.heap.size + 1 + 1 + 1, 1, none⟩ = some (.slice Ar nr cr)) (first | exact ⟨y0, y1, y2, y3⟩ | (simp only [s1, s2, s3, s4]; exact ⟨y0, y1, y2, y3⟩)) (fail)
 go_wp2_with fail
 refine bodyPost_ret (v := .tuple #[.agg #[.bool sq, .slice Aq nq cq], .agg #[.bool sr, .slice Ar nr cr]]) (by simp [results, Tryz.results54, go_sem, y0, y1, y2, y3]) rfl ?_;exact ⟨sq, Aq, nq, cq, sr, Ar, nr, cr, rfl, hQ, hR, hBel.drew⟩
end
section
open Go.RowKit

theorem low_pos {n d : Int} (hd : 0 < d) : (Rat.divInt n d).num = n.fdiv ((Nat.gcd n.natAbs d.natAbs : Nat) : Int) ∧ (((Rat.divInt n d).den : Nat) : Int) = d.fdiv ((Nat.gcd n.natAbs d.natAbs : Nat) : Int) := by
 have h := low_num (n := n) hd;rw [Int.fdiv_eq_ediv_of_nonneg _ (by omega), Int.fdiv_eq_ediv_of_nonneg _ (by omega)];exact h
theorem gcd_ne {n d : Int} (hd : d ≠ 0) : ((Nat.gcd n.natAbs d.natAbs : Nat) : Int) ≠ 0 := by
 have := Nat.gcd_pos_of_pos_right n.natAbs (show 0 < d.natAbs by omega);omega
theorem gcd_len {a b : Int} {s t u : Bool} {A B G : Option Addr} {n m g : Nat} {w : World} (_ : WV w a s A n) (hb : WV w b t B m) (hg : WV w ((Nat.gcd a.natAbs b.natAbs : Nat) : Int) u G g) (hb0 : b ≠ 0) {k : Nat} (lb : m ≤ k) : g ≤ k := by
 rw [hg.len, Int.natAbs_natCast];refine Nat.le_trans (ln_mono b16_two (Nat.gcd_le_right _ (show 0 < b.natAbs by omega))) ?_;rw [← hb.len]; exact lb
theorem neg_len {z : Int} {s t : Bool} {A B : Option Addr} {n m k : Nat} {w : World} (h : WV w z s A n) (h2 : WV w (-z) t B m) (hk : n ≤ k) : m ≤ k := by
 rw [h2.len, Int.natAbs_neg, ← h.len]; exact hk
theorem flowest_v {a b : Int} {sa sb : Bool} {Aa Ab : Option Addr} {na ca nb cb : Nat} {w : World} (ha : WV w a sa Aa na) (hb : WV w b sb Ab nb) (la : na ≤ 1024) (lb : nb ≤ 1024) (hb0 : b ≠ 0) :
  Calls Tryz.prog 50 #[.agg #[.bool sa, .slice Aa na ca], .agg #[.bool sb, .slice Ab nb cb]] w (FR (Rat.divInt a b) w) := by
 cases sb with
 | true =>
  have hd : b < 0 := of_decide_eq_true hb.sgn.symm;have hE := ((((Env.start w).wv ha).wv hb).blk 27 #[.bool sa, .slice Aa na ca] (g := w.heap.size) rfl).blk 27 #[.bool true, .slice Ab nb cb] (g := w.heap.size + 1) (by simp);have hE := hE.blk 85 #[.bool false, .slice none 0 0, .bool false, .slice none 0 0] (g := w.heap.size + 1 + 1) (by simp)
  obtain ⟨W0, hW0⟩ : ∃ W0, W0 = (((w.alloc (.cells #[.bool sa, .slice Aa na ca] 27)).alloc (.cells #[.bool true, .slice Ab nb cb] 27)).alloc (.cells #[.bool false, .slice none 0 0, .bool false, .slice none 0 0] 85)) := ⟨_, rfl⟩
  rw [← hW0] at hE;have HW0 := Lib.hid hW0;clear hW0
  go_enter Tryz.func50, Tryz.ntmps50
  go_upto_region 1 with (fail)
  rw [← HW0.out];obtain ⟨k1, k2⟩ := (hE.here.1.2).c2
  go_upto_region 2 with (fail)
  clear k1 k2
  go_cut [] from 8 to 11 (fun wx => ∃ sx Ax nx cx sy Ay ny cy, Env w (fun V => (((((((True ∧ WV V a sa Aa na) ∧ WV V b true Ab nb) ∧ Blk 27 (w.heap.size) #[.bool sx, .slice Ax nx cx] V) ∧ Blk 27 (w.heap.size + 1) #[.bool sy, .slice Ay ny cy] V) ∧ Blk 85 (w.heap.size + 1 + 1) #[.bool false, .slice none 0 0, .bool false, .slice none 0 0] V) ∧ WV V (-a) sx Ax nx) ∧ WV V (-b) sy Ay ny)) wx)
  case first =>
   replace hE := hE.drew;refine wp_region_held_drew (S := fun w' => True) (by kernel_rfl) (trivial) (fun hHeld => ?_);refine wpAnyH_ready (rs := [0, 2]) (by kernel_rfl) (by simp) (AllReadyH.cons rfl (fun K hK => ?_) (AllReadyH.cons rfl (fun K hK => ?_) (AllReadyH.nil)))
   ·
    obtain ⟨k3, k4⟩ := (hE.h2).c2;go_simp;clear k3 k4;refine hK.out _ _ (trivial) (fun hHeld => ?_);clear hK K;try simp only [PL]
    refine wpAnyH_ready (rs := [1, 2]) (by kernel_rfl) (by simp) (AllReadyH.cons rfl (fun K hK => ?_) (AllReadyH.cons rfl (fun K hK => ?_) (AllReadyH.nil)))
    ·
     go_simp;have hc := fopposite_v (c := ca) hE.h4 la;refine hc.mono ?_;clear hc
     rintro e w5 ⟨sx, Ax, nx, cx, rfl, hx, hb⟩
     replace hE := hE.step hb;clear hb;replace hE := hE.wv hx;clear hx;go_wp2_with fail
     refine hK.out _ _ (trivial) (fun hHeld => ?_);clear hK K;try simp only [PL]
     refine r1 2 (fun K hK => ?_);obtain ⟨k6, k7⟩ := (hE.h2).c2;go_simp;clear k6 k7;refine hK.out _ _ (trivial) (fun hHeld => ?_);clear hK K;try simp only [PL]
     refine r1 3 (fun K hK => ?_);go_simp;have hc := fopposite_v (c := cb) hE.h4 lb;refine hc.mono ?_;clear hc
     rintro e w8 ⟨sy, Ay, ny, cy, rfl, hy, hb⟩
     replace hE := hE.step hb;clear hb;replace hE := hE.wv hy;clear hy;go_wp2_with fail
     refine hK.out _ _ (trivial) (fun hHeld => ?_);clear hK K;try simp only [PL]
     refine r1 4 (fun K hK => ?_)
     have hgl9 : w.heap.size ≤ w.heap.size := by omega
     obtain ⟨x9_0, x9_1⟩ := (hE.h4).c2;obtain ⟨f9_0, f9_1⟩ := hE.h4.f2;replace hE := ((((((((Env.again (bel2 hE.bel hgl9 (.bool sx) (.slice Ax nx cx))).wv ((hE.h6).sep2 hE.h4 rfl _ _ rfl)).wv ((hE.h5).sep2 hE.h4 rfl _ _ rfl)).blkI ((hE.h4).s2 _ _)).blkI ((hE.h3).far2 (by omega) _ _)).blkI ((hE.h2).far2 (by omega) _ _)).wv ((hE.here.1.2).sep2 hE.h4 rfl _ _ rfl)).wv ((hE.here.2).sep2 hE.h4 rfl _ _ rfl));go_simp;clear x9_0 x9_1 f9_0 f9_1 hgl9;generalize ((w8.setCell ⟨w.heap.size, 0, none⟩ (.bool sx)).setCell ⟨w.heap.size, 1, none⟩ (.slice Ax nx cx)) = W9 at hE ⊢;refine hK.out _ _ (trivial) (fun hHeld => ?_);clear hK K;try simp only [PL]
     refine r1 5 (fun K hK => ?_)
     have hgl10 : w.heap.size ≤ w.heap.size + 1 := by omega
     obtain ⟨x10_0, x10_1⟩ := (hE.h3).c2;obtain ⟨f10_0, f10_1⟩ := hE.h3.f2;replace hE := ((((((((Env.again (bel2 hE.bel hgl10 (.bool sy) (.slice Ay ny cy))).wv ((hE.h6).sep2 hE.h3 rfl _ _ rfl)).wv ((hE.h5).sep2 hE.h3 rfl _ _ rfl)).blkI ((hE.h4).far2 (R := w.heap.size + 1) (by omega) _ _)).blkI ((hE.h3).s2 _ _)).blkI ((hE.h2).far2 (R := w.heap.size + 1) (by omega) _ _)).wv ((hE.here.1.2).sep2 hE.h3 rfl _ _ rfl)).wv ((hE.here.2).sep2 hE.h3 rfl _ _ rfl));go_simp;clear x10_0 x10_1 f10_0 f10_1 hgl10;generalize ((W9.setCell ⟨w.heap.size + 1, 0, none⟩ (.bool sy)).setCell ⟨w.heap.size + 1, 1, none⟩ (.slice Ay ny cy)) = W10 at hE ⊢;refine hK.out _ _ (trivial) (fun hHeld => ?_);clear hK K;try simp only [PL]
     refine wpAnyH_done (by kernel_rfl) ?_ _;go_wp2_with fail
     go_meet
     exact ⟨sx, Ax, nx, cx, sy, Ay, ny, cy, hE⟩
    ·
     obtain ⟨k11, k12⟩ := (hE.here.1.2).c2;go_simp;clear k11 k12;refine hK.out _ _ (trivial) (fun hHeld => ?_);clear hK K;try simp only [PL]
     refine r1 1 (fun K hK => ?_);go_simp;have hc := fopposite_v (c := ca) hE.h4 la;refine hc.mono ?_;clear hc
     rintro e w13 ⟨sx, Ax, nx, cx, rfl, hx, hb⟩
     replace hE := hE.step hb;clear hb;replace hE := hE.wv hx;clear hx;go_wp2_with fail
     refine hK.out _ _ (trivial) (fun hHeld => ?_);clear hK K;try simp only [PL]
     refine r1 3 (fun K hK => ?_);go_simp;have hc := fopposite_v (c := cb) hE.h4 lb;refine hc.mono ?_;clear hc
     rintro e w14 ⟨sy, Ay, ny, cy, rfl, hy, hb⟩
     replace hE := hE.step hb;clear hb;replace hE := hE.wv hy;clear hy;go_wp2_with fail
     refine hK.out _ _ (trivial) (fun hHeld => ?_);clear hK K;try simp only [PL]
     refine r1 4 (fun K hK => ?_)
     have hgl15 : w.heap.size ≤ w.heap.size := by omega
     obtain ⟨x15_0, x15_1⟩ := (hE.h4).c2;obtain ⟨f15_0, f15_1⟩ := hE.h4.f2;replace hE := ((((((((Env.again (bel2 hE.bel hgl15 (.bool sx) (.slice Ax nx cx))).wv ((hE.h6).sep2 hE.h4 rfl _ _ rfl)).wv ((hE.h5).sep2 hE.h4 rfl _ _ rfl)).blkI ((hE.h4).s2 _ _)).blkI ((hE.h3).far2 (by omega) _ _)).blkI ((hE.h2).far2 (by omega) _ _)).wv ((hE.here.1.2).sep2 hE.h4 rfl _ _ rfl)).wv ((hE.here.2).sep2 hE.h4 rfl _ _ rfl));go_simp;clear x15_0 x15_1 f15_0 f15_1 hgl15;generalize ((w14.setCell ⟨w.heap.size, 0, none⟩ (.bool sx)).setCell ⟨w.heap.size, 1, none⟩ (.slice Ax nx cx)) = W15 at hE ⊢;refine hK.out _ _ (trivial) (fun hHeld => ?_);clear hK K;try simp only [PL]
     refine r1 5 (fun K hK => ?_)
     have hgl16 : w.heap.size ≤ w.heap.size + 1 := by omega
     obtain ⟨x16_0, x16_1⟩ := (hE.h3).c2;obtain ⟨f16_0, f16_1⟩ := hE.h3.f2;replace hE := ((((((((Env.again (bel2 hE.bel hgl16 (.bool sy) (.slice Ay ny cy))).wv ((hE.h6).sep2 hE.h3 rfl _ _ rfl)).wv ((hE.h5).sep2 hE.h3 rfl _ _ rfl)).blkI ((hE.h4).far2 (R := w.heap.size + 1) (by omega) _ _)).blkI ((hE.h3).s2 _ _)).blkI ((hE.h2).far2 (R := w.heap.size + 1) (by omega) _ _)).wv ((hE.here.1.2).sep2 hE.h3 rfl _ _ rfl)).wv ((hE.here.2).sep2 hE.h3 rfl _ _ rfl));go_simp;clear x16_0 x16_1 f16_0 f16_1 hgl16;generalize ((W15.setCell ⟨w.heap.size + 1, 0, none⟩ (.bool sy)).setCell ⟨w.heap.size + 1, 1, none⟩ (.slice Ay ny cy)) = W16 at hE ⊢;refine hK.out _ _ (trivial) (fun hHeld => ?_);clear hK K;try simp only [PL]
     refine wpAnyH_done (by kernel_rfl) ?_ _;go_wp2_with fail
     go_meet
     exact ⟨sx, Ax, nx, cx, sy, Ay, ny, cy, hE⟩
   ·
    obtain ⟨k17, k18⟩ := (hE.here.1.2).c2;go_simp;clear k17 k18;refine hK.out _ _ (trivial) (fun hHeld => ?_);clear hK K;try simp only [PL]
    refine r1 0 (fun K hK => ?_);obtain ⟨k19, k20⟩ := (hE.h2).c2;go_simp;clear k19 k20;refine hK.out _ _ (trivial) (fun hHeld => ?_);clear hK K;try simp only [PL]
    refine r1 1 (fun K hK => ?_);go_simp;have hc := fopposite_v (c := ca) hE.h4 la;refine hc.mono ?_;clear hc
    rintro e w21 ⟨sx, Ax, nx, cx, rfl, hx, hb⟩
    replace hE := hE.step hb;clear hb;replace hE := hE.wv hx;clear hx;go_wp2_with fail
    refine hK.out _ _ (trivial) (fun hHeld => ?_);clear hK K;try simp only [PL]
    refine r1 3 (fun K hK => ?_);go_simp;have hc := fopposite_v (c := cb) hE.h4 lb;refine hc.mono ?_;clear hc
    rintro e w22 ⟨sy, Ay, ny, cy, rfl, hy, hb⟩
    replace hE := hE.step hb;clear hb;replace hE := hE.wv hy;clear hy;go_wp2_with fail
    refine hK.out _ _ (trivial) (fun hHeld => ?_);clear hK K;try simp only [PL]
    refine r1 4 (fun K hK => ?_)
    have hgl23 : w.heap.size ≤ w.heap.size := by omega
    obtain ⟨x23_0, x23_1⟩ := (hE.h4).c2;obtain ⟨f23_0, f23_1⟩ := hE.h4.f2;replace hE := ((((((((Env.again (bel2 hE.bel hgl23 (.bool sx) (.slice Ax nx cx))).wv ((hE.h6).sep2 hE.h4 rfl _ _ rfl)).wv ((hE.h5).sep2 hE.h4 rfl _ _ rfl)).blkI ((hE.h4).s2 _ _)).blkI ((hE.h3).far2 (by omega) _ _)).blkI ((hE.h2).far2 (by omega) _ _)).wv ((hE.here.1.2).sep2 hE.h4 rfl _ _ rfl)).wv ((hE.here.2).sep2 hE.h4 rfl _ _ rfl));go_simp;clear x23_0 x23_1 f23_0 f23_1 hgl23;generalize ((w22.setCell ⟨w.heap.size, 0, none⟩ (.bool sx)).setCell ⟨w.heap.size, 1, none⟩ (.slice Ax nx cx)) = W23 at hE ⊢;refine hK.out _ _ (trivial) (fun hHeld => ?_);clear hK K;try simp only [PL]
    refine r1 5 (fun K hK => ?_)
    have hgl24 : w.heap.size ≤ w.heap.size + 1 := by omega
    obtain ⟨x24_0, x24_1⟩ := (hE.h3).c2;obtain ⟨f24_0, f24_1⟩ := hE.h3.f2;replace hE := ((((((((Env.again (bel2 hE.bel hgl24 (.bool sy) (.slice Ay ny cy))).wv ((hE.h6).sep2 hE.h3 rfl _ _ rfl)).wv ((hE.h5).sep2 hE.h3 rfl _ _ rfl)).blkI ((hE.h4).far2 (R := w.heap.size + 1) (by omega) _ _)).blkI ((hE.h3).s2 _ _)).blkI ((hE.h2).far2 (R := w.heap.size + 1) (by omega) _ _)).wv ((hE.here.1.2).sep2 hE.h3 rfl _ _ rfl)).wv ((hE.here.2).sep2 hE.h3 rfl _ _ rfl));go_simp;clear x24_0 x24_1 f24_0 f24_1 hgl24;generalize ((W23.setCell ⟨w.heap.size + 1, 0, none⟩ (.bool sy)).setCell ⟨w.heap.size + 1, 1, none⟩ (.slice Ay ny cy)) = W24 at hE ⊢;refine hK.out _ _ (trivial) (fun hHeld => ?_);clear hK K;try simp only [PL]
    refine wpAnyH_done (by kernel_rfl) ?_ _;go_wp2_with fail
    go_meet
    exact ⟨sx, Ax, nx, cx, sy, Ay, ny, cy, hE⟩
  case rest =>
  clear hE;obtain ⟨sx, Ax, nx, cx, sy, Ay, ny, cy, hE⟩ := hcut;have la2 := neg_len hE.h6 hE.here.1.2 la;have lb2 := neg_len hE.h5 hE.here.2 lb;clear la lb;have la := la2;have lb := lb2;clear la2 lb2
  go_upto_region 3 with (fail)
  obtain ⟨k25, k26⟩ := (hE.h4).c2;obtain ⟨k27, k28⟩ := (hE.h3).c2;go_wp2_with fail
  have hc := fdivisor_v (ca := cx) (cb := cy) hE.here.1.2 hE.here.2 la lb;refine hc.mono ?_;clear hc;clear k25 k26 k27 k28
  rintro e w29 ⟨sg, Ag, ng, cg, rfl, hg, hb⟩
  replace hE := hE.step hb;clear hb;replace hE := hE.wv hg;clear hg;have lg := gcd_len hE.h2 hE.here.1.2 hE.here.2 (show ((-b)) ≠ 0 by omega) lb
  go_upto_region 4 with (fail)
  obtain ⟨g30, hg30⟩ : ∃ g30, g30 = w29.heap.size := ⟨_, rfl⟩
  have hl30_2 : w.heap.size < g30 := by rw [hg30]; exact (hE.h5).lt
  have hl30_3 : w.heap.size + 1 < g30 := by rw [hg30]; exact (hE.h4).lt
  have hl30_4 : w.heap.size + 1 + 1 < g30 := by rw [hg30]; exact (hE.h3).lt
  replace hE := hE.blk 27 #[.bool sg, .slice Ag ng cg] (g := g30) hg30.symm;generalize w29.alloc (.cells #[.bool sg, .slice Ag ng cg] 27) = W30 at hE ⊢;rw [← hg30];clear hg30;obtain ⟨k31, k32⟩ := (hE.h6).c2;obtain ⟨k33, k34⟩ := (hE.here.2).c2;go_wp2_with fail
  have hc := fdivide_v (ca := cx) (cb := cg) hE.h3 hE.here.1.2 la lg (gcd_ne (show ((-b)) ≠ 0 by omega));refine hc.mono ?_;clear hc;clear k31 k32 k33 k34
  rintro e w35 ⟨sp, Ap, np, cp, sr, Ar, nr, cr, rfl, hp, hr, hb⟩
  replace hE := hE.step hb;clear hb;replace hE := hE.wv hp;clear hp;replace hE := hE.wv hr;clear hr
  have hgl36 : w.heap.size ≤ w.heap.size := by omega
  obtain ⟨x36_0, x36_1⟩ := (hE.h8).c2;obtain ⟨f36_0, f36_1⟩ := hE.h8.f2;replace hE := ((((((((((((Env.again (bel2 hE.bel hgl36 (.bool sp) (.slice Ap np cp))).wv ((hE.h10).sep2 hE.h8 rfl _ _ rfl)).wv ((hE.h9).sep2 hE.h8 rfl _ _ rfl)).blkI ((hE.h8).s2 _ _)).blkI ((hE.h7).far2 (by omega) _ _)).blkI ((hE.h6).far2 (by omega) _ _)).wv ((hE.h5).sep2 hE.h8 rfl _ _ rfl)).wv ((hE.h4).sep2 hE.h8 rfl _ _ rfl)).wv ((hE.h3).sep2 hE.h8 rfl _ _ rfl)).blkI ((hE.h2).far2 (by omega) _ _)).wv ((hE.here.1.2).sep2 hE.h8 rfl _ _ rfl)).wv ((hE.here.2).sep2 hE.h8 rfl _ _ rfl))
  go_upto_region 5 with (fail)
  clear x36_0 x36_1 f36_0 f36_1 hgl36;generalize ((w35.setCell ⟨w.heap.size, 0, none⟩ (.bool sp)).setCell ⟨w.heap.size, 1, none⟩ (.slice Ap np cp)) = W36 at hE ⊢;obtain ⟨k37, k38⟩ := (hE.h7).c2;obtain ⟨k39, k40⟩ := (hE.h2).c2;go_wp2_with fail
  have hc := fdivide_v (ca := cy) (cb := cg) hE.h4 hE.h3 lb lg (gcd_ne (show ((-b)) ≠ 0 by omega));refine hc.mono ?_;clear hc;clear k37 k38 k39 k40
  rintro e w41 ⟨sq, Aq, nq, cq, su, Au, nu, cu, rfl, hq, hu, hb⟩
  replace hE := hE.step hb;clear hb;replace hE := hE.wv hq;clear hq;replace hE := hE.wv hu;clear hu
  have hgl42 : w.heap.size ≤ w.heap.size + 1 := by omega
  obtain ⟨x42_0, x42_1⟩ := (hE.h9).c2;obtain ⟨f42_0, f42_1⟩ := hE.h9.f2;replace hE := ((((((((((((((Env.again (bel2 hE.bel hgl42 (.bool sq) (.slice Aq nq cq))).wv ((hE.h12).sep2 hE.h9 rfl _ _ rfl)).wv ((hE.h11).sep2 hE.h9 rfl _ _ rfl)).blkI ((hE.h10).far2 (R := w.heap.size + 1) (by omega) _ _)).blkI ((hE.h9).s2 _ _)).blkI ((hE.h8).far2 (R := w.heap.size + 1) (by omega) _ _)).wv ((hE.h7).sep2 hE.h9 rfl _ _ rfl)).wv ((hE.h6).sep2 hE.h9 rfl _ _ rfl)).wv ((hE.h5).sep2 hE.h9 rfl _ _ rfl)).blkI ((hE.h4).far2 (R := w.heap.size + 1) (by omega) _ _)).wv ((hE.h3).sep2 hE.h9 rfl _ _ rfl)).wv ((hE.h2).sep2 hE.h9 rfl _ _ rfl)).wv ((hE.here.1.2).sep2 hE.h9 rfl _ _ rfl)).wv ((hE.here.2).sep2 hE.h9 rfl _ _ rfl))
  go_upto_region 6 with (fail)
  clear x42_0 x42_1 f42_0 f42_1 hgl42;generalize ((w41.setCell ⟨w.heap.size + 1, 0, none⟩ (.bool sq)).setCell ⟨w.heap.size + 1, 1, none⟩ (.slice Aq nq cq)) = W42 at hE ⊢;obtain ⟨e1, e2⟩ := low_pos (n := (-a)) (d := (-b)) (show 0 < -b by omega);rw [low_neg] at e1 e2;have hfv : FV W42 (Rat.divInt a b) sp Ap np sq Aq nq := ⟨by rw [e1]; exact hE.h3, by rw [e2]; exact hE.here.1.2⟩;clear e1 e2;replace hE := hE.fv hfv;clear hfv;obtain ⟨k43, k44⟩ := (hE.h11).c2;obtain ⟨k45, k46⟩ := (hE.h10).c2
  have hRl : w.heap.size ≤ w.heap.size + 1 + 1 := by omega
  obtain ⟨WW, hWW, hB, hV, hBel⟩ := ret_frac hE hE.h9 hRl hE.here.2 cp cq;obtain ⟨x0, x1, x2, x3⟩ := (hE.h9).c4;obtain ⟨fz0, fz1, fz2, fz3⟩ := hE.h9.f4;have HWW := Lib.hid hWW;clear hWW;go_wp2_with fail
  clear k43 k44 k45 k46;rw [← HWW.out];obtain ⟨y0, y1, y2, y3⟩ := hB.c4;refine bodyPost_ret (v := .agg #[.bool sp, .slice Ap np cp, .bool sq, .slice Aq nq cq]) (by simp [results, Tryz.results50, go_sem, y0, y1, y2, y3]) rfl ?_;exact ⟨sp, Ap, np, cp, sq, Aq, nq, cq, rfl, hV, hBel⟩
 | false =>
  have hd : 0 < b := by have := of_decide_eq_false hb.sgn.symm; omega
  have hE := ((((Env.start w).wv ha).wv hb).blk 27 #[.bool sa, .slice Aa na ca] (g := w.heap.size) rfl).blk 27 #[.bool false, .slice Ab nb cb] (g := w.heap.size + 1) (by simp);have hE := hE.blk 85 #[.bool false, .slice none 0 0, .bool false, .slice none 0 0] (g := w.heap.size + 1 + 1) (by simp)
  obtain ⟨W0, hW0⟩ : ∃ W0, W0 = (((w.alloc (.cells #[.bool sa, .slice Aa na ca] 27)).alloc (.cells #[.bool false, .slice Ab nb cb] 27)).alloc (.cells #[.bool false, .slice none 0 0, .bool false, .slice none 0 0] 85)) := ⟨_, rfl⟩
  rw [← hW0] at hE;have HW0 := Lib.hid hW0;clear hW0
  go_enter Tryz.func50, Tryz.ntmps50
  go_upto_region 1 with (fail)
  rw [← HW0.out];obtain ⟨k1, k2⟩ := (hE.here.1.2).c2
  go_upto_region 3 with (fail)
  clear k1 k2;obtain ⟨k3, k4⟩ := (hE.h2).c2;obtain ⟨k5, k6⟩ := (hE.here.1.2).c2;go_wp2_with fail
  have hc := fdivisor_v (ca := ca) (cb := cb) hE.h4 hE.h3 la lb;refine hc.mono ?_;clear hc;clear k3 k4 k5 k6
  rintro e w7 ⟨sg, Ag, ng, cg, rfl, hg, hb⟩
  replace hE := hE.step hb;clear hb;replace hE := hE.wv hg;clear hg;have lg := gcd_len hE.h5 hE.h4 hE.here.2 (show (b) ≠ 0 by omega) lb
  go_upto_region 4 with (fail)
  obtain ⟨g8, hg8⟩ : ∃ g8, g8 = w7.heap.size := ⟨_, rfl⟩
  have hl8_2 : w.heap.size < g8 := by rw [hg8]; exact (hE.h3).lt
  have hl8_3 : w.heap.size + 1 < g8 := by rw [hg8]; exact (hE.h2).lt
  have hl8_4 : w.heap.size + 1 + 1 < g8 := by rw [hg8]; exact (hE.here.1.2).lt
  replace hE := hE.blk 27 #[.bool sg, .slice Ag ng cg] (g := g8) hg8.symm;generalize w7.alloc (.cells #[.bool sg, .slice Ag ng cg] 27) = W8 at hE ⊢;rw [← hg8];clear hg8;obtain ⟨k9, k10⟩ := (hE.h4).c2;obtain ⟨k11, k12⟩ := (hE.here.2).c2;go_wp2_with fail
  have hc := fdivide_v (ca := ca) (cb := cg) hE.h6 hE.here.1.2 la lg (gcd_ne (show (b) ≠ 0 by omega));refine hc.mono ?_;clear hc;clear k9 k10 k11 k12
  rintro e w13 ⟨sp, Ap, np, cp, sr, Ar, nr, cr, rfl, hp, hr, hb⟩
  replace hE := hE.step hb;clear hb;replace hE := hE.wv hp;clear hp;replace hE := hE.wv hr;clear hr
  have hgl14 : w.heap.size ≤ w.heap.size := by omega
  obtain ⟨x14_0, x14_1⟩ := (hE.h6).c2;obtain ⟨f14_0, f14_1⟩ := hE.h6.f2;replace hE := ((((((((((Env.again (bel2 hE.bel hgl14 (.bool sp) (.slice Ap np cp))).wv ((hE.h8).sep2 hE.h6 rfl _ _ rfl)).wv ((hE.h7).sep2 hE.h6 rfl _ _ rfl)).blkI ((hE.h6).s2 _ _)).blkI ((hE.h5).far2 (by omega) _ _)).blkI ((hE.h4).far2 (by omega) _ _)).wv ((hE.h3).sep2 hE.h6 rfl _ _ rfl)).blkI ((hE.h2).far2 (by omega) _ _)).wv ((hE.here.1.2).sep2 hE.h6 rfl _ _ rfl)).wv ((hE.here.2).sep2 hE.h6 rfl _ _ rfl))
  go_upto_region 5 with (fail)
  clear x14_0 x14_1 f14_0 f14_1 hgl14;generalize ((w13.setCell ⟨w.heap.size, 0, none⟩ (.bool sp)).setCell ⟨w.heap.size, 1, none⟩ (.slice Ap np cp)) = W14 at hE ⊢;obtain ⟨k15, k16⟩ := (hE.h5).c2;obtain ⟨k17, k18⟩ := (hE.h2).c2;go_wp2_with fail
  have hc := fdivide_v (ca := cb) (cb := cg) hE.h7 hE.h3 lb lg (gcd_ne (show (b) ≠ 0 by omega));refine hc.mono ?_;clear hc;clear k15 k16 k17 k18
  rintro e w19 ⟨sq, Aq, nq, cq, su, Au, nu, cu, rfl, hq, hu, hb⟩
  replace hE := hE.step hb;clear hb;replace hE := hE.wv hq;clear hq;replace hE := hE.wv hu;clear hu
  have hgl20 : w.heap.size ≤ w.heap.size + 1 := by omega
  obtain ⟨x20_0, x20_1⟩ := (hE.h7).c2;obtain ⟨f20_0, f20_1⟩ := hE.h7.f2;replace hE := ((((((((((((Env.again (bel2 hE.bel hgl20 (.bool sq) (.slice Aq nq cq))).wv ((hE.h10).sep2 hE.h7 rfl _ _ rfl)).wv ((hE.h9).sep2 hE.h7 rfl _ _ rfl)).blkI ((hE.h8).far2 (R := w.heap.size + 1) (by omega) _ _)).blkI ((hE.h7).s2 _ _)).blkI ((hE.h6).far2 (R := w.heap.size + 1) (by omega) _ _)).wv ((hE.h5).sep2 hE.h7 rfl _ _ rfl)).blkI ((hE.h4).far2 (R := w.heap.size + 1) (by omega) _ _)).wv ((hE.h3).sep2 hE.h7 rfl _ _ rfl)).wv ((hE.h2).sep2 hE.h7 rfl _ _ rfl)).wv ((hE.here.1.2).sep2 hE.h7 rfl _ _ rfl)).wv ((hE.here.2).sep2 hE.h7 rfl _ _ rfl))
  go_upto_region 6 with (fail)
  clear x20_0 x20_1 f20_0 f20_1 hgl20;generalize ((w19.setCell ⟨w.heap.size + 1, 0, none⟩ (.bool sq)).setCell ⟨w.heap.size + 1, 1, none⟩ (.slice Aq nq cq)) = W20 at hE ⊢;obtain ⟨e1, e2⟩ := low_pos (n := a) (d := b) hd;have hfv : FV W20 (Rat.divInt a b) sp Ap np sq Aq nq := ⟨by rw [e1]; exact hE.h3, by rw [e2]; exact hE.here.1.2⟩;clear e1 e2;replace hE := hE.fv hfv;clear hfv;obtain ⟨k21, k22⟩ := (hE.h9).c2;obtain ⟨k23, k24⟩ := (hE.h8).c2
  have hRl : w.heap.size ≤ w.heap.size + 1 + 1 := by omega
  obtain ⟨WW, hWW, hB, hV, hBel⟩ := ret_frac hE hE.h7 hRl hE.here.2 cp cq;obtain ⟨x0, x1, x2, x3⟩ := (hE.h7).c4;obtain ⟨fz0, fz1, fz2, fz3⟩ := hE.h7.f4;have HWW := Lib.hid hWW;clear hWW;go_wp2_with fail
  clear k21 k22 k23 k24;rw [← HWW.out];obtain ⟨y0, y1, y2, y3⟩ := hB.c4;refine bodyPost_ret (v := .agg #[.bool sp, .slice Ap np cp, .bool sq, .slice Aq nq cq]) (by simp [results, Tryz.results50, go_sem, y0, y1, y2, y3]) rfl ?_;exact ⟨sp, Ap, np, cp, sq, Aq, nq, cq, rfl, hV, hBel⟩
end
end Go.Proofs.YtjgihmmeimfheaaGreat
