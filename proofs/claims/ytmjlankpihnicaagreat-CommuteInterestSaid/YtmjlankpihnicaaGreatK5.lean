/-
  Several texts in one: The walk of frac.opposite. The walks of frac.divide and frac.lowest. The walk of frac.lowest. The walks of the reference's Trim and Less. The walk of the reference's Times. The walks of the reference's Half and short: an absolute value is halved, or divided by one limb. Plain laws of division bit by bit, and of lengths of doubled numbers. The walks of the reference's Valid, fits and Neg. The walk of the reference's Product. The walk of the reference's Plus. The walk of the reference's Minus.
-/
import Derived.Test.YtmjlankpihnicaaGreatK1
import Derived.Test.YtmjlankpihnicaaGreatK4
import Derived.Deep.RegionWith
import Derived.Test.YtmjlankpihnicaaGreatK3
import Derived.Test.YtmjlankpihnicaaGreatK2
import Derived.Deep.CutRange
namespace Go.Proofs.YtmjlankpihnicaaGreat
open Go.RowKit

theorem clone_v {z : Int} {s : Bool} {A : Option Addr} {n c : Nat} {w : World} (ha : WV w z s A n) (la : n ≤ 1024) :
    Calls Tryz.prog 94 #[.slice A n c] w fun e w' => ∃ A' c', e = .returned (.slice A' n c') ∧ Num16 w' A' z.natAbs ∧ Below w.heap.size w w' := by
  have hr : Rd w.heap.size .u16 w A n (dgt b16 z.natAbs) := by have := ha.2.2; unfold Num16 at this; rwa [← ha.len] at this
  refine (clone16_any A n c _ w hr (by omega)).mono ?_
  rintro e w' ⟨v, rfl, hown, hb, -⟩
  obtain ⟨A', c', rfl, _, hro⟩ := RowO.of_own hown
  refine ⟨A', c', rfl, ?_, hb⟩
  unfold Num16
  rw [← ha.len]
  exact hro.rd
theorem neg_sgn {z : Int} {s : Bool} {A : Option Addr} {n : Nat} {w : World} (ha : WV w z s A n) : (!s && decide (0 < n)) = decide (-z < 0) := by
  rw [ha.sgn, ha.len]
  by_cases h1 : z < 0
  · rw [decide_eq_true h1, decide_eq_false (show ¬ -z < 0 by omega)]; rfl
  · rw [decide_eq_false h1]
    by_cases h2 : z = 0
    · subst h2
      show decide (0 < ln b16 0) = decide (-(0 : Int) < 0)
      rw [ln_zero]; rfl
    · rw [decide_eq_true ((ln_pos b16_two).2 (show 0 < z.natAbs by omega)), decide_eq_true (show -z < 0 by omega)]; rfl
set_option linter.unusedSimpArgs false in
set_option maxRecDepth 100000 in
set_option maxHeartbeats 2000000 in
theorem fopposite_v {z : Int} {s : Bool} {A : Option Addr} {n c : Nat} {w : World} (ha : WV w z s A n) (la : n ≤ 1024) :
    Calls Tryz.prog 97 #[.agg #[.bool s, .slice A n c]] w (WR (-z) w) := by
  have hsg := neg_sgn ha
  cases s with
  | true =>
    have HS := Lib.hid (show false = decide (-z < 0) from hsg)
    clear hsg
    have hE := ((Env.start w).wv ha).blk 27 #[.bool true, .slice A n c] (g := w.heap.size) rfl
    have hE := hE.blk 27 #[.bool false, .slice none 0 0] (g := w.heap.size + 1) (by simp)
    obtain ⟨W0, hW0⟩ : ∃ W0, W0 = ((w.alloc (.cells #[.bool true, .slice A n c] 27)).alloc (.cells #[.bool false, .slice none 0 0] 27)) := ⟨_, rfl⟩
    rw [← hW0] at hE
    have HW0 := Lib.hid hW0
    clear hW0
    go_enter Tryz.func97, Tryz.ntmps97
    go_upto_region 1 with (fail)
    rw [← HW0.out]
    replace hE := hE.drew
    refine wp_region_held_drew (S := fun w' => w'.cell? ⟨w.heap.size, 0, none⟩ = some (.bool true) ∧ w'.cell? ⟨w.heap.size, 1, none⟩ = some (.slice A n c)) (by kernel_rfl) (hE.here.1.2.c2) (fun hHeld => ?_)
    refine tk 0 ?_
    try simp only [PL]
    refine tk 1 ?_
    try simp only [PL]
    refine tk 2 ?_
    try simp only [PL]
    refine tk 3 ?_
    try simp only [PL]
    refine tu 4 ?_
    try simp only [PL]
    refine tu 5 ?_
    try simp only [PL]
    refine tu 6 ?_
    try simp only [PL]
    refine tu 7 ?_
    try simp only [PL]
    refine tk 8 ?_
    try simp only [PL]
    refine tk 9 ?_
    try simp only [PL]
    refine tk 10 ?_
    try simp only [PL]
    refine r1 11 (fun K hK => ?_)
    go_simp
    have hc := clone_v (c := c) hE.here.1.1.2 la
    refine hc.mono ?_
    clear hc
    rintro e w2 ⟨A2, c2, rfl, hn2, hb⟩
    replace hE := hE.step hb
    clear hb
    have h2 : WV w2 (-z) false A2 n := ⟨HS.out, by rw [Int.natAbs_neg]; exact (hE.here.1.1.2).len, by rw [Int.natAbs_neg]; exact hn2⟩
    replace hE := hE.wv h2
    clear h2 hn2
    go_wp2_with fail
    refine hK.out _ _ (hE.here.1.1.2.c2) (fun hHeld => ?_)
    clear hK K
    try simp only [PL]
    refine tk 12 ?_
    try simp only [PL]
    refine r1 13 (fun K hK => ?_)
    have hRl : w.heap.size ≤ w.heap.size + 1 := by omega
    obtain ⟨WW, hWW, hB, hV, hBel⟩ := ret_whole hE hE.here.1.2 hRl hE.here.2 c2
    obtain ⟨x0, x1⟩ := (hE.here.1.2).c2
    obtain ⟨fz0, fz1⟩ := hE.here.1.2.f2
    have HWW := Lib.hid hWW
    clear hWW
    have q1 := (hE.here.1.1.2).far2 (R := w.heap.size + 1) (by omega) (.bool false) (.slice A2 n c2)
    rw [← HWW.out] at q1
    go_simp
    rw [← HWW.out]
    refine hK.out _ _ (q1.c2) (fun hHeld => ?_)
    clear hK K
    try simp only [PL]
    refine wpAnyH_done (by kernel_rfl) ?_ _
    go_wp2_with fail
    obtain ⟨y0, y1⟩ := hB.c2
    refine bodyPost_ret (v := .agg #[.bool false, .slice A2 n c2]) (by simp [results, Tryz.results97, go_sem, y0, y1]) rfl ?_
    exact ⟨false, A2, n, c2, rfl, hV, hBel⟩
  | false =>
    rw [show (!false && decide (0 < n)) = decide (0 < n) from rfl] at hsg
    have HS := Lib.hid (show decide (0 < n) = decide (-z < 0) from hsg)
    clear hsg
    have hE := ((Env.start w).wv ha).blk 27 #[.bool false, .slice A n c] (g := w.heap.size) rfl
    have hE := hE.blk 27 #[.bool false, .slice none 0 0] (g := w.heap.size + 1) (by simp)
    obtain ⟨W0, hW0⟩ : ∃ W0, W0 = ((w.alloc (.cells #[.bool false, .slice A n c] 27)).alloc (.cells #[.bool false, .slice none 0 0] 27)) := ⟨_, rfl⟩
    rw [← hW0] at hE
    have HW0 := Lib.hid hW0
    clear hW0
    go_enter Tryz.func97, Tryz.ntmps97
    go_upto_region 1 with (fail)
    rw [← HW0.out]
    replace hE := hE.drew
    refine wp_region_held_drew (S := fun w' => w'.cell? ⟨w.heap.size, 0, none⟩ = some (.bool false) ∧ w'.cell? ⟨w.heap.size, 1, none⟩ = some (.slice A n c)) (by kernel_rfl) (hE.here.1.2.c2) (fun hHeld => ?_)
    refine tk 0 ?_
    try simp only [PL]
    refine tk 1 ?_
    try simp only [PL]
    refine tk 2 ?_
    try simp only [PL]
    refine tk 3 ?_
    try simp only [PL]
    refine tk 4 ?_
    try simp only [PL]
    refine tk 5 ?_
    try simp only [PL]
    refine tk 6 ?_
    try simp only [PL]
    refine tk 7 ?_
    try simp only [PL]
    refine tk 8 ?_
    try simp only [PL]
    refine tk 9 ?_
    try simp only [PL]
    refine tk 10 ?_
    try simp only [PL]
    refine r1 11 (fun K hK => ?_)
    go_simp
    have hc := clone_v (c := c) hE.here.1.1.2 la
    refine hc.mono ?_
    clear hc
    rintro e w2 ⟨A2, c2, rfl, hn2, hb⟩
    replace hE := hE.step hb
    clear hb
    have h2 : WV w2 (-z) (decide (0 < n)) A2 n := ⟨HS.out, by rw [Int.natAbs_neg]; exact (hE.here.1.1.2).len, by rw [Int.natAbs_neg]; exact hn2⟩
    replace hE := hE.wv h2
    clear h2 hn2
    go_wp2_with fail
    refine hK.out _ _ (hE.here.1.1.2.c2) (fun hHeld => ?_)
    clear hK K
    try simp only [PL]
    refine tk 12 ?_
    try simp only [PL]
    refine r1 13 (fun K hK => ?_)
    have hRl : w.heap.size ≤ w.heap.size + 1 := by omega
    obtain ⟨WW, hWW, hB, hV, hBel⟩ := ret_whole hE hE.here.1.2 hRl hE.here.2 c2
    obtain ⟨x0, x1⟩ := (hE.here.1.2).c2
    obtain ⟨fz0, fz1⟩ := hE.here.1.2.f2
    have HWW := Lib.hid hWW
    clear hWW
    have q1 := (hE.here.1.1.2).far2 (R := w.heap.size + 1) (by omega) (.bool (decide (0 < n))) (.slice A2 n c2)
    rw [← HWW.out] at q1
    go_simp
    rw [← HWW.out]
    refine hK.out _ _ (q1.c2) (fun hHeld => ?_)
    clear hK K
    try simp only [PL]
    refine wpAnyH_done (by kernel_rfl) ?_ _
    go_wp2_with fail
    obtain ⟨y0, y1⟩ := hB.c2
    refine bodyPost_ret (v := .agg #[.bool (decide (0 < n)), .slice A2 n c2]) (by simp [results, Tryz.results97, go_sem, y0, y1]) rfl ?_
    exact ⟨(decide (0 < n)), A2, n, c2, rfl, hV, hBel⟩
end Go.Proofs.YtmjlankpihnicaaGreat
namespace Go.Proofs.YtmjlankpihnicaaGreat
open Go.RowKit

/-- The call returned the numbers q and r. -/
def WR2 (q r : Int) (w : World) (e : Ending) (w' : World) : Prop := ∃ s A n c t B m d, e = .returned (.tuple #[.agg #[.bool s, .slice A n c], .agg #[.bool t, .slice B m d]]) ∧ WV w' q s A n ∧ WV w' r t B m ∧ Below w.heap.size w w'
/-- The call returned the fraction q. -/
def FR (q : Rat) (w : World) (e : Ending) (w' : World) : Prop := ∃ s A n c t B m d, e = .returned (.agg #[.bool s, .slice A n c, .bool t, .slice B m d]) ∧ FV w' q s A n t B m ∧ Below w.heap.size w w'
theorem ret_frac {w W : World} {P : World → Prop} {R : Nat} {T : TypeId} {q : Rat} {s t : Bool} {A B : Option Addr} {n m : Nat} (hE : Env w P W) (hR : Blk T R #[.bool false, .slice none 0 0, .bool false, .slice none 0 0] W) (hl : w.heap.size ≤ R) (hv : FV W q s A n t B m) (c d : Nat) :
    ∃ W', W' = (((W.setCell ⟨R, 0, none⟩ (.bool s)).setCell ⟨R, 1, none⟩ (.slice A n c)).setCell ⟨R, 2, none⟩ (.bool t)).setCell ⟨R, 3, none⟩ (.slice B m d) ∧ Blk T R #[.bool s, .slice A n c, .bool t, .slice B m d] W' ∧ FV W' q s A n t B m ∧ Below w.heap.size w W' :=
  ⟨_, rfl, hR.s4 _ _ _ _, hv.sep4 hR rfl _ _ _ _ rfl rfl rfl, bel4 hE.bel hl _ _ _ _⟩
theorem Blk.same {t : TypeId} {g i : Nat} {cs : Array Value} {W : World} {v : Value} (h : Blk t g cs W) (hi : cs[i]? = some v) : W.setCell ⟨g, i, none⟩ v = W := by
  have hm : (W.setCell ⟨g, i, none⟩ v).heap = W.heap := by
    refine Array.ext_getElem? fun j => ?_
    by_cases e : g = j
    · subst e
      have h2 := h.set_ i v
      unfold Blk at h h2
      rw [h, h2]
      congr 2
      refine Array.ext_getElem? fun k => ?_
      rw [Array.getElem?_setIfInBounds]
      by_cases e2 : i = k
      · subst e2
        rw [if_pos rfl, if_pos (Array.getElem?_eq_some_iff.1 hi).1, hi]
      · rw [if_neg e2]
    · exact Below.heap_setCell W ⟨g, i, none⟩ v j (fun e2 => e e2.symm)
  show ({ W with heap := (W.setCell ⟨g, i, none⟩ v).heap } : World) = W
  rw [hm]
set_option linter.unusedSimpArgs false in
set_option maxRecDepth 100000 in
set_option maxHeartbeats 2000000 in
theorem fdivide_v {a b : Int} {sa sb : Bool} {Aa Ab : Option Addr} {na ca nb cb : Nat} {w : World} (ha : WV w a sa Aa na) (hb : WV w b sb Ab nb) (la : na ≤ 1024) (lb : nb ≤ 1024) (hb0 : b ≠ 0) :
    Calls Tryz.prog 135 #[.agg #[.bool sa, .slice Aa na ca], .agg #[.bool sb, .slice Ab nb cb]] w (WR2 (a.fdiv b) (a.fmod b) w) := by
  have hE := ((((Env.start w).wv ha).wv hb).blk 27 #[.bool sa, .slice Aa na ca] (g := w.heap.size) rfl).blk 27 #[.bool sb, .slice Ab nb cb] (g := w.heap.size + 1) (by simp)
  have hE := hE.blk 27 #[.bool false, .slice none 0 0] (g := w.heap.size + 1 + 1) (by simp)
  have hE := hE.blk 27 #[.bool false, .slice none 0 0] (g := w.heap.size + 1 + 1 + 1) (by simp)
  obtain ⟨W0, hW0⟩ : ∃ W0, W0 = ((((w.alloc (.cells #[.bool sa, .slice Aa na ca] 27)).alloc (.cells #[.bool sb, .slice Ab nb cb] 27)).alloc (.cells #[.bool false, .slice none 0 0] 27)).alloc (.cells #[.bool false, .slice none 0 0] 27)) := ⟨_, rfl⟩
  rw [← hW0] at hE
  have HW0 := Lib.hid hW0
  clear hW0
  go_enter Tryz.func135, Tryz.ntmps135
  go_upto_region 1 with (fail)
  rw [← HW0.out]
  obtain ⟨k1, k2⟩ := (hE.here.1.1.1.2).c2
  obtain ⟨k3, k4⟩ := (hE.here.1.1.2).c2
  go_wp2_with fail
  refine (divMod_v (c := ca) (d := cb) hE.here.1.1.1.1.1.2 hE.here.1.1.1.1.2 la lb hb0).mono ?_
  clear k1 k2 k3 k4
  rintro e w5 ⟨sq, Aq, nq, cq, sr, Ar, nr, cr, rfl, hq, hr, hb⟩
  replace hE := hE.step hb
  clear hb
  replace hE := (hE.wv hq.v).wv hr.v
  clear hq hr
  obtain ⟨x0, x1⟩ := (hE.here.1.1.1.2).c2
  obtain ⟨z0, z1⟩ := (hE.here.1.1.2).c2
  have f0 := (hE.here.1.1.1.2).frozen 0
  have f1 := (hE.here.1.1.1.2).frozen 1
  have g0 := (hE.here.1.1.2).frozen 0
  have g1 := (hE.here.1.1.2).frozen 1
  have hB4 := (hE.here.1.1.1.2).s2 (.bool sq) (.slice Aq nq cq)
  have hB5 := (hE.here.1.1.2).far2 (R := w.heap.size + 1 + 1) (by omega) (.bool sq) (.slice Aq nq cq)
  have hQ := (hE.here.1.2).sep2 (hE.here.1.1.1.2) rfl (.bool sq) (.slice Aq nq cq) rfl
  have hR := (hE.here.2).sep2 (hE.here.1.1.1.2) rfl (.bool sq) (.slice Aq nq cq) rfl
  have hBel := bel2 (bel2 hE.bel (show w.heap.size ≤ w.heap.size + 1 + 1 by omega) (.bool sq) (.slice Aq nq cq)) (show w.heap.size ≤ w.heap.size + 1 + 1 + 1 by omega) (.bool sr) (.slice Ar nr cr)
  replace hQ := hQ.sep2 hB5 rfl (.bool sr) (.slice Ar nr cr) rfl
  replace hR := hR.sep2 hB5 rfl (.bool sr) (.slice Ar nr cr) rfl
  replace hB4 := hB4.far2 (R := w.heap.size + 1 + 1 + 1) (by omega) (.bool sr) (.slice Ar nr cr)
  replace hB5 := hB5.s2 (.bool sr) (.slice Ar nr cr)
  go_upto_region 2 with (fail)
  clear x0 x1 z0 z1 f0 f1 g0 g1
  generalize ((((w5.setCell ⟨w.heap.size + 1 + 1, 0, none⟩ (.bool sq)).setCell ⟨w.heap.size + 1 + 1, 1, none⟩ (.slice Aq nq cq)).setCell ⟨w.heap.size + 1 + 1 + 1, 0, none⟩ (.bool sr)).setCell ⟨w.heap.size + 1 + 1 + 1, 1, none⟩ (.slice Ar nr cr)) = WW at *
  have s1 : WW.drew.setCell ⟨w.heap.size + 1 + 1, 0, none⟩ (.bool sq) = WW.drew := Blk.same (W := WW.drew) hB4 rfl
  have s2 : WW.drew.setCell ⟨w.heap.size + 1 + 1, 1, none⟩ (.slice Aq nq cq) = WW.drew := Blk.same (W := WW.drew) hB4 rfl
  have s3 : WW.drew.setCell ⟨w.heap.size + 1 + 1 + 1, 0, none⟩ (.bool sr) = WW.drew := Blk.same (W := WW.drew) hB5 rfl
  have s4 : WW.drew.setCell ⟨w.heap.size + 1 + 1 + 1, 1, none⟩ (.slice Ar nr cr) = WW.drew := Blk.same (W := WW.drew) hB5 rfl
  obtain ⟨y0, y1⟩ := hB4.c2
  obtain ⟨y2, y3⟩ := hB5.c2
  have f0 := hB4.frozen 0
  have f1 := hB4.frozen 1
  have g0 := hB5.frozen 0
  have g1 := hB5.frozen 1
  go_region_held3 (fun w' => w'.cell? ⟨w.heap.size + 1 + 1, 0, none⟩ = some (.bool sq) ∧ w'.cell? ⟨w.heap.size + 1 + 1, 1, none⟩ = some (.slice Aq nq cq) ∧ w'.cell? ⟨w.heap.size + 1 + 1 + 1, 0, none⟩ = some (.bool sr) ∧ w'.cell? ⟨w.heap.size + 1 + 1 + 1, 1, none⟩ = some (.slice Ar nr cr)) (first | exact ⟨y0, y1, y2, y3⟩ | (simp only [s1, s2, s3, s4]; exact ⟨y0, y1, y2, y3⟩)) (fail)
  go_wp2_with fail
  refine bodyPost_ret (v := .tuple #[.agg #[.bool sq, .slice Aq nq cq], .agg #[.bool sr, .slice Ar nr cr]]) (by simp [results, Tryz.results135, go_sem, y0, y1, y2, y3]) rfl ?_
  exact ⟨sq, Aq, nq, cq, sr, Ar, nr, cr, rfl, hQ, hR, hBel.drew⟩
end Go.Proofs.YtmjlankpihnicaaGreat
namespace Go.Proofs.YtmjlankpihnicaaGreat
open Go.RowKit

theorem low_pos {n d : Int} (hd : 0 < d) : (Rat.divInt n d).num = n.fdiv ((Nat.gcd n.natAbs d.natAbs : Nat) : Int) ∧ (((Rat.divInt n d).den : Nat) : Int) = d.fdiv ((Nat.gcd n.natAbs d.natAbs : Nat) : Int) := by
  have h := low_num (n := n) hd
  rw [Int.fdiv_eq_ediv_of_nonneg _ (by omega), Int.fdiv_eq_ediv_of_nonneg _ (by omega)]
  exact h
theorem gcd_ne {n d : Int} (hd : d ≠ 0) : ((Nat.gcd n.natAbs d.natAbs : Nat) : Int) ≠ 0 := by
  have := Nat.gcd_pos_of_pos_right n.natAbs (show 0 < d.natAbs by omega)
  omega
theorem gcd_len {a b : Int} {s t u : Bool} {A B G : Option Addr} {n m g : Nat} {w : World} (_ : WV w a s A n) (hb : WV w b t B m) (hg : WV w ((Nat.gcd a.natAbs b.natAbs : Nat) : Int) u G g) (hb0 : b ≠ 0) {k : Nat} (lb : m ≤ k) : g ≤ k := by
  rw [hg.len, Int.natAbs_natCast]
  refine Nat.le_trans (ln_mono b16_two (Nat.gcd_le_right _ (show 0 < b.natAbs by omega))) ?_
  rw [← hb.len]; exact lb
theorem neg_len {z : Int} {s t : Bool} {A B : Option Addr} {n m k : Nat} {w : World} (h : WV w z s A n) (h2 : WV w (-z) t B m) (hk : n ≤ k) : m ≤ k := by
  rw [h2.len, Int.natAbs_neg, ← h.len]; exact hk
set_option linter.unusedSimpArgs false in
set_option maxRecDepth 100000 in
set_option maxHeartbeats 4000000 in
theorem flowest_v {a b : Int} {sa sb : Bool} {Aa Ab : Option Addr} {na ca nb cb : Nat} {w : World} (ha : WV w a sa Aa na) (hb : WV w b sb Ab nb) (la : na ≤ 1024) (lb : nb ≤ 1024) (hb0 : b ≠ 0) :
    Calls Tryz.prog 95 #[.agg #[.bool sa, .slice Aa na ca], .agg #[.bool sb, .slice Ab nb cb]] w (FR (Rat.divInt a b) w) := by
  cases sb with
  | true =>
    have hd : b < 0 := of_decide_eq_true hb.sgn.symm
    have hE := ((((Env.start w).wv ha).wv hb).blk 27 #[.bool sa, .slice Aa na ca] (g := w.heap.size) rfl).blk 27 #[.bool true, .slice Ab nb cb] (g := w.heap.size + 1) (by simp)
    have hE := hE.blk 94 #[.bool false, .slice none 0 0, .bool false, .slice none 0 0] (g := w.heap.size + 1 + 1) (by simp)
    obtain ⟨W0, hW0⟩ : ∃ W0, W0 = (((w.alloc (.cells #[.bool sa, .slice Aa na ca] 27)).alloc (.cells #[.bool true, .slice Ab nb cb] 27)).alloc (.cells #[.bool false, .slice none 0 0, .bool false, .slice none 0 0] 94)) := ⟨_, rfl⟩
    rw [← hW0] at hE
    have HW0 := Lib.hid hW0
    clear hW0
    go_enter Tryz.func95, Tryz.ntmps95
    go_upto_region 1 with (fail)
    rw [← HW0.out]
    obtain ⟨k1, k2⟩ := (hE.here.1.2).c2
    go_upto_region 2 with (fail)
    clear k1 k2
    go_cut [] from 8 to 11 (fun wx => ∃ sx Ax nx cx sy Ay ny cy, Env w (fun V => (((((((True ∧ WV V a sa Aa na) ∧ WV V b true Ab nb) ∧ Blk 27 (w.heap.size) #[.bool sx, .slice Ax nx cx] V) ∧ Blk 27 (w.heap.size + 1) #[.bool sy, .slice Ay ny cy] V) ∧ Blk 94 (w.heap.size + 1 + 1) #[.bool false, .slice none 0 0, .bool false, .slice none 0 0] V) ∧ WV V (-a) sx Ax nx) ∧ WV V (-b) sy Ay ny)) wx)
    case first =>
      replace hE := hE.drew
      refine wp_region_held_drew (S := fun w' => True) (by kernel_rfl) (trivial) (fun hHeld => ?_)
      refine wpAnyH_ready (rs := [0, 2]) (by kernel_rfl) (by simp) (AllReadyH.cons rfl (fun K hK => ?_) (AllReadyH.cons rfl (fun K hK => ?_) (AllReadyH.nil)))
      · skip
        obtain ⟨k3, k4⟩ := (hE.here.1.1.2).c2
        go_simp
        clear k3 k4
        refine hK.out _ _ (trivial) (fun hHeld => ?_)
        clear hK K
        try simp only [PL]
        refine wpAnyH_ready (rs := [1, 2]) (by kernel_rfl) (by simp) (AllReadyH.cons rfl (fun K hK => ?_) (AllReadyH.cons rfl (fun K hK => ?_) (AllReadyH.nil)))
        · skip
          go_simp
          have hc := fopposite_v (c := ca) hE.here.1.1.1.1.2 la
          refine hc.mono ?_
          clear hc
          rintro e w5 ⟨sx, Ax, nx, cx, rfl, hx, hb⟩
          replace hE := hE.step hb
          clear hb
          replace hE := hE.wv hx
          clear hx
          go_wp2_with fail
          refine hK.out _ _ (trivial) (fun hHeld => ?_)
          clear hK K
          try simp only [PL]
          refine r1 2 (fun K hK => ?_)
          obtain ⟨k6, k7⟩ := (hE.here.1.1.2).c2
          go_simp
          clear k6 k7
          refine hK.out _ _ (trivial) (fun hHeld => ?_)
          clear hK K
          try simp only [PL]
          refine r1 3 (fun K hK => ?_)
          go_simp
          have hc := fopposite_v (c := cb) hE.here.1.1.1.1.2 lb
          refine hc.mono ?_
          clear hc
          rintro e w8 ⟨sy, Ay, ny, cy, rfl, hy, hb⟩
          replace hE := hE.step hb
          clear hb
          replace hE := hE.wv hy
          clear hy
          go_wp2_with fail
          refine hK.out _ _ (trivial) (fun hHeld => ?_)
          clear hK K
          try simp only [PL]
          refine r1 4 (fun K hK => ?_)
          have hgl9 : w.heap.size ≤ w.heap.size := by omega
          obtain ⟨x9_0, x9_1⟩ := (hE.here.1.1.1.1.2).c2
          obtain ⟨f9_0, f9_1⟩ := hE.here.1.1.1.1.2.f2
          replace hE := ((((((((Env.again (bel2 hE.bel hgl9 (.bool sx) (.slice Ax nx cx))).wv ((hE.here.1.1.1.1.1.1.2).sep2 hE.here.1.1.1.1.2 rfl (.bool sx) (.slice Ax nx cx) rfl)).wv ((hE.here.1.1.1.1.1.2).sep2 hE.here.1.1.1.1.2 rfl (.bool sx) (.slice Ax nx cx) rfl)).blkI ((hE.here.1.1.1.1.2).s2 (.bool sx) (.slice Ax nx cx))).blkI ((hE.here.1.1.1.2).far2 (R := w.heap.size) (by omega) (.bool sx) (.slice Ax nx cx))).blkI ((hE.here.1.1.2).far2 (R := w.heap.size) (by omega) (.bool sx) (.slice Ax nx cx))).wv ((hE.here.1.2).sep2 hE.here.1.1.1.1.2 rfl (.bool sx) (.slice Ax nx cx) rfl)).wv ((hE.here.2).sep2 hE.here.1.1.1.1.2 rfl (.bool sx) (.slice Ax nx cx) rfl))
          go_simp
          clear x9_0 x9_1 f9_0 f9_1 hgl9
          generalize ((w8.setCell ⟨w.heap.size, 0, none⟩ (.bool sx)).setCell ⟨w.heap.size, 1, none⟩ (.slice Ax nx cx)) = W9 at hE ⊢
          refine hK.out _ _ (trivial) (fun hHeld => ?_)
          clear hK K
          try simp only [PL]
          refine r1 5 (fun K hK => ?_)
          have hgl10 : w.heap.size ≤ w.heap.size + 1 := by omega
          obtain ⟨x10_0, x10_1⟩ := (hE.here.1.1.1.2).c2
          obtain ⟨f10_0, f10_1⟩ := hE.here.1.1.1.2.f2
          replace hE := ((((((((Env.again (bel2 hE.bel hgl10 (.bool sy) (.slice Ay ny cy))).wv ((hE.here.1.1.1.1.1.1.2).sep2 hE.here.1.1.1.2 rfl (.bool sy) (.slice Ay ny cy) rfl)).wv ((hE.here.1.1.1.1.1.2).sep2 hE.here.1.1.1.2 rfl (.bool sy) (.slice Ay ny cy) rfl)).blkI ((hE.here.1.1.1.1.2).far2 (R := w.heap.size + 1) (by omega) (.bool sy) (.slice Ay ny cy))).blkI ((hE.here.1.1.1.2).s2 (.bool sy) (.slice Ay ny cy))).blkI ((hE.here.1.1.2).far2 (R := w.heap.size + 1) (by omega) (.bool sy) (.slice Ay ny cy))).wv ((hE.here.1.2).sep2 hE.here.1.1.1.2 rfl (.bool sy) (.slice Ay ny cy) rfl)).wv ((hE.here.2).sep2 hE.here.1.1.1.2 rfl (.bool sy) (.slice Ay ny cy) rfl))
          go_simp
          clear x10_0 x10_1 f10_0 f10_1 hgl10
          generalize ((W9.setCell ⟨w.heap.size + 1, 0, none⟩ (.bool sy)).setCell ⟨w.heap.size + 1, 1, none⟩ (.slice Ay ny cy)) = W10 at hE ⊢
          refine hK.out _ _ (trivial) (fun hHeld => ?_)
          clear hK K
          try simp only [PL]
          refine wpAnyH_done (by kernel_rfl) ?_ _
          go_wp2_with fail
          go_meet
          exact ⟨sx, Ax, nx, cx, sy, Ay, ny, cy, hE⟩
        · skip
          obtain ⟨k11, k12⟩ := (hE.here.1.2).c2
          go_simp
          clear k11 k12
          refine hK.out _ _ (trivial) (fun hHeld => ?_)
          clear hK K
          try simp only [PL]
          refine r1 1 (fun K hK => ?_)
          go_simp
          have hc := fopposite_v (c := ca) hE.here.1.1.1.1.2 la
          refine hc.mono ?_
          clear hc
          rintro e w13 ⟨sx, Ax, nx, cx, rfl, hx, hb⟩
          replace hE := hE.step hb
          clear hb
          replace hE := hE.wv hx
          clear hx
          go_wp2_with fail
          refine hK.out _ _ (trivial) (fun hHeld => ?_)
          clear hK K
          try simp only [PL]
          refine r1 3 (fun K hK => ?_)
          go_simp
          have hc := fopposite_v (c := cb) hE.here.1.1.1.1.2 lb
          refine hc.mono ?_
          clear hc
          rintro e w14 ⟨sy, Ay, ny, cy, rfl, hy, hb⟩
          replace hE := hE.step hb
          clear hb
          replace hE := hE.wv hy
          clear hy
          go_wp2_with fail
          refine hK.out _ _ (trivial) (fun hHeld => ?_)
          clear hK K
          try simp only [PL]
          refine r1 4 (fun K hK => ?_)
          have hgl15 : w.heap.size ≤ w.heap.size := by omega
          obtain ⟨x15_0, x15_1⟩ := (hE.here.1.1.1.1.2).c2
          obtain ⟨f15_0, f15_1⟩ := hE.here.1.1.1.1.2.f2
          replace hE := ((((((((Env.again (bel2 hE.bel hgl15 (.bool sx) (.slice Ax nx cx))).wv ((hE.here.1.1.1.1.1.1.2).sep2 hE.here.1.1.1.1.2 rfl (.bool sx) (.slice Ax nx cx) rfl)).wv ((hE.here.1.1.1.1.1.2).sep2 hE.here.1.1.1.1.2 rfl (.bool sx) (.slice Ax nx cx) rfl)).blkI ((hE.here.1.1.1.1.2).s2 (.bool sx) (.slice Ax nx cx))).blkI ((hE.here.1.1.1.2).far2 (R := w.heap.size) (by omega) (.bool sx) (.slice Ax nx cx))).blkI ((hE.here.1.1.2).far2 (R := w.heap.size) (by omega) (.bool sx) (.slice Ax nx cx))).wv ((hE.here.1.2).sep2 hE.here.1.1.1.1.2 rfl (.bool sx) (.slice Ax nx cx) rfl)).wv ((hE.here.2).sep2 hE.here.1.1.1.1.2 rfl (.bool sx) (.slice Ax nx cx) rfl))
          go_simp
          clear x15_0 x15_1 f15_0 f15_1 hgl15
          generalize ((w14.setCell ⟨w.heap.size, 0, none⟩ (.bool sx)).setCell ⟨w.heap.size, 1, none⟩ (.slice Ax nx cx)) = W15 at hE ⊢
          refine hK.out _ _ (trivial) (fun hHeld => ?_)
          clear hK K
          try simp only [PL]
          refine r1 5 (fun K hK => ?_)
          have hgl16 : w.heap.size ≤ w.heap.size + 1 := by omega
          obtain ⟨x16_0, x16_1⟩ := (hE.here.1.1.1.2).c2
          obtain ⟨f16_0, f16_1⟩ := hE.here.1.1.1.2.f2
          replace hE := ((((((((Env.again (bel2 hE.bel hgl16 (.bool sy) (.slice Ay ny cy))).wv ((hE.here.1.1.1.1.1.1.2).sep2 hE.here.1.1.1.2 rfl (.bool sy) (.slice Ay ny cy) rfl)).wv ((hE.here.1.1.1.1.1.2).sep2 hE.here.1.1.1.2 rfl (.bool sy) (.slice Ay ny cy) rfl)).blkI ((hE.here.1.1.1.1.2).far2 (R := w.heap.size + 1) (by omega) (.bool sy) (.slice Ay ny cy))).blkI ((hE.here.1.1.1.2).s2 (.bool sy) (.slice Ay ny cy))).blkI ((hE.here.1.1.2).far2 (R := w.heap.size + 1) (by omega) (.bool sy) (.slice Ay ny cy))).wv ((hE.here.1.2).sep2 hE.here.1.1.1.2 rfl (.bool sy) (.slice Ay ny cy) rfl)).wv ((hE.here.2).sep2 hE.here.1.1.1.2 rfl (.bool sy) (.slice Ay ny cy) rfl))
          go_simp
          clear x16_0 x16_1 f16_0 f16_1 hgl16
          generalize ((W15.setCell ⟨w.heap.size + 1, 0, none⟩ (.bool sy)).setCell ⟨w.heap.size + 1, 1, none⟩ (.slice Ay ny cy)) = W16 at hE ⊢
          refine hK.out _ _ (trivial) (fun hHeld => ?_)
          clear hK K
          try simp only [PL]
          refine wpAnyH_done (by kernel_rfl) ?_ _
          go_wp2_with fail
          go_meet
          exact ⟨sx, Ax, nx, cx, sy, Ay, ny, cy, hE⟩
      · skip
        obtain ⟨k17, k18⟩ := (hE.here.1.2).c2
        go_simp
        clear k17 k18
        refine hK.out _ _ (trivial) (fun hHeld => ?_)
        clear hK K
        try simp only [PL]
        refine r1 0 (fun K hK => ?_)
        obtain ⟨k19, k20⟩ := (hE.here.1.1.2).c2
        go_simp
        clear k19 k20
        refine hK.out _ _ (trivial) (fun hHeld => ?_)
        clear hK K
        try simp only [PL]
        refine r1 1 (fun K hK => ?_)
        go_simp
        have hc := fopposite_v (c := ca) hE.here.1.1.1.1.2 la
        refine hc.mono ?_
        clear hc
        rintro e w21 ⟨sx, Ax, nx, cx, rfl, hx, hb⟩
        replace hE := hE.step hb
        clear hb
        replace hE := hE.wv hx
        clear hx
        go_wp2_with fail
        refine hK.out _ _ (trivial) (fun hHeld => ?_)
        clear hK K
        try simp only [PL]
        refine r1 3 (fun K hK => ?_)
        go_simp
        have hc := fopposite_v (c := cb) hE.here.1.1.1.1.2 lb
        refine hc.mono ?_
        clear hc
        rintro e w22 ⟨sy, Ay, ny, cy, rfl, hy, hb⟩
        replace hE := hE.step hb
        clear hb
        replace hE := hE.wv hy
        clear hy
        go_wp2_with fail
        refine hK.out _ _ (trivial) (fun hHeld => ?_)
        clear hK K
        try simp only [PL]
        refine r1 4 (fun K hK => ?_)
        have hgl23 : w.heap.size ≤ w.heap.size := by omega
        obtain ⟨x23_0, x23_1⟩ := (hE.here.1.1.1.1.2).c2
        obtain ⟨f23_0, f23_1⟩ := hE.here.1.1.1.1.2.f2
        replace hE := ((((((((Env.again (bel2 hE.bel hgl23 (.bool sx) (.slice Ax nx cx))).wv ((hE.here.1.1.1.1.1.1.2).sep2 hE.here.1.1.1.1.2 rfl (.bool sx) (.slice Ax nx cx) rfl)).wv ((hE.here.1.1.1.1.1.2).sep2 hE.here.1.1.1.1.2 rfl (.bool sx) (.slice Ax nx cx) rfl)).blkI ((hE.here.1.1.1.1.2).s2 (.bool sx) (.slice Ax nx cx))).blkI ((hE.here.1.1.1.2).far2 (R := w.heap.size) (by omega) (.bool sx) (.slice Ax nx cx))).blkI ((hE.here.1.1.2).far2 (R := w.heap.size) (by omega) (.bool sx) (.slice Ax nx cx))).wv ((hE.here.1.2).sep2 hE.here.1.1.1.1.2 rfl (.bool sx) (.slice Ax nx cx) rfl)).wv ((hE.here.2).sep2 hE.here.1.1.1.1.2 rfl (.bool sx) (.slice Ax nx cx) rfl))
        go_simp
        clear x23_0 x23_1 f23_0 f23_1 hgl23
        generalize ((w22.setCell ⟨w.heap.size, 0, none⟩ (.bool sx)).setCell ⟨w.heap.size, 1, none⟩ (.slice Ax nx cx)) = W23 at hE ⊢
        refine hK.out _ _ (trivial) (fun hHeld => ?_)
        clear hK K
        try simp only [PL]
        refine r1 5 (fun K hK => ?_)
        have hgl24 : w.heap.size ≤ w.heap.size + 1 := by omega
        obtain ⟨x24_0, x24_1⟩ := (hE.here.1.1.1.2).c2
        obtain ⟨f24_0, f24_1⟩ := hE.here.1.1.1.2.f2
        replace hE := ((((((((Env.again (bel2 hE.bel hgl24 (.bool sy) (.slice Ay ny cy))).wv ((hE.here.1.1.1.1.1.1.2).sep2 hE.here.1.1.1.2 rfl (.bool sy) (.slice Ay ny cy) rfl)).wv ((hE.here.1.1.1.1.1.2).sep2 hE.here.1.1.1.2 rfl (.bool sy) (.slice Ay ny cy) rfl)).blkI ((hE.here.1.1.1.1.2).far2 (R := w.heap.size + 1) (by omega) (.bool sy) (.slice Ay ny cy))).blkI ((hE.here.1.1.1.2).s2 (.bool sy) (.slice Ay ny cy))).blkI ((hE.here.1.1.2).far2 (R := w.heap.size + 1) (by omega) (.bool sy) (.slice Ay ny cy))).wv ((hE.here.1.2).sep2 hE.here.1.1.1.2 rfl (.bool sy) (.slice Ay ny cy) rfl)).wv ((hE.here.2).sep2 hE.here.1.1.1.2 rfl (.bool sy) (.slice Ay ny cy) rfl))
        go_simp
        clear x24_0 x24_1 f24_0 f24_1 hgl24
        generalize ((W23.setCell ⟨w.heap.size + 1, 0, none⟩ (.bool sy)).setCell ⟨w.heap.size + 1, 1, none⟩ (.slice Ay ny cy)) = W24 at hE ⊢
        refine hK.out _ _ (trivial) (fun hHeld => ?_)
        clear hK K
        try simp only [PL]
        refine wpAnyH_done (by kernel_rfl) ?_ _
        go_wp2_with fail
        go_meet
        exact ⟨sx, Ax, nx, cx, sy, Ay, ny, cy, hE⟩
    case rest =>
    clear hE
    obtain ⟨sx, Ax, nx, cx, sy, Ay, ny, cy, hE⟩ := hcut
    have la2 := neg_len hE.here.1.1.1.1.1.1.2 hE.here.1.2 la
    have lb2 := neg_len hE.here.1.1.1.1.1.2 hE.here.2 lb
    clear la lb
    have la := la2
    have lb := lb2
    clear la2 lb2
    go_upto_region 3 with (fail)
    obtain ⟨k25, k26⟩ := (hE.here.1.1.1.1.2).c2
    obtain ⟨k27, k28⟩ := (hE.here.1.1.1.2).c2
    go_wp2_with fail
    have hc := fdivisor_v (ca := cx) (cb := cy) hE.here.1.2 hE.here.2 la lb
    refine hc.mono ?_
    clear hc
    clear k25 k26 k27 k28
    rintro e w29 ⟨sg, Ag, ng, cg, rfl, hg, hb⟩
    replace hE := hE.step hb
    clear hb
    replace hE := hE.wv hg
    clear hg
    have lg := gcd_len hE.here.1.1.2 hE.here.1.2 hE.here.2 (show ((-b)) ≠ 0 by omega) lb
    go_upto_region 4 with (fail)
    obtain ⟨g30, hg30⟩ : ∃ g30, g30 = w29.heap.size := ⟨_, rfl⟩
    have hl30_2 : w.heap.size < g30 := by rw [hg30]; exact (hE.here.1.1.1.1.1.2).lt
    have hl30_3 : w.heap.size + 1 < g30 := by rw [hg30]; exact (hE.here.1.1.1.1.2).lt
    have hl30_4 : w.heap.size + 1 + 1 < g30 := by rw [hg30]; exact (hE.here.1.1.1.2).lt
    replace hE := hE.blk 27 #[.bool sg, .slice Ag ng cg] (g := g30) hg30.symm
    generalize w29.alloc (.cells #[.bool sg, .slice Ag ng cg] 27) = W30 at hE ⊢
    rw [← hg30]
    clear hg30
    obtain ⟨k31, k32⟩ := (hE.here.1.1.1.1.1.1.2).c2
    obtain ⟨k33, k34⟩ := (hE.here.2).c2
    go_wp2_with fail
    have hc := fdivide_v (ca := cx) (cb := cg) hE.here.1.1.1.2 hE.here.1.2 la lg (gcd_ne (show ((-b)) ≠ 0 by omega))
    refine hc.mono ?_
    clear hc
    clear k31 k32 k33 k34
    rintro e w35 ⟨sp, Ap, np, cp, sr, Ar, nr, cr, rfl, hp, hr, hb⟩
    replace hE := hE.step hb
    clear hb
    replace hE := hE.wv hp
    clear hp
    replace hE := hE.wv hr
    clear hr
    have hgl36 : w.heap.size ≤ w.heap.size := by omega
    obtain ⟨x36_0, x36_1⟩ := (hE.here.1.1.1.1.1.1.1.1.2).c2
    obtain ⟨f36_0, f36_1⟩ := hE.here.1.1.1.1.1.1.1.1.2.f2
    replace hE := ((((((((((((Env.again (bel2 hE.bel hgl36 (.bool sp) (.slice Ap np cp))).wv ((hE.here.1.1.1.1.1.1.1.1.1.1.2).sep2 hE.here.1.1.1.1.1.1.1.1.2 rfl (.bool sp) (.slice Ap np cp) rfl)).wv ((hE.here.1.1.1.1.1.1.1.1.1.2).sep2 hE.here.1.1.1.1.1.1.1.1.2 rfl (.bool sp) (.slice Ap np cp) rfl)).blkI ((hE.here.1.1.1.1.1.1.1.1.2).s2 (.bool sp) (.slice Ap np cp))).blkI ((hE.here.1.1.1.1.1.1.1.2).far2 (R := w.heap.size) (by omega) (.bool sp) (.slice Ap np cp))).blkI ((hE.here.1.1.1.1.1.1.2).far2 (R := w.heap.size) (by omega) (.bool sp) (.slice Ap np cp))).wv ((hE.here.1.1.1.1.1.2).sep2 hE.here.1.1.1.1.1.1.1.1.2 rfl (.bool sp) (.slice Ap np cp) rfl)).wv ((hE.here.1.1.1.1.2).sep2 hE.here.1.1.1.1.1.1.1.1.2 rfl (.bool sp) (.slice Ap np cp) rfl)).wv ((hE.here.1.1.1.2).sep2 hE.here.1.1.1.1.1.1.1.1.2 rfl (.bool sp) (.slice Ap np cp) rfl)).blkI ((hE.here.1.1.2).far2 (R := w.heap.size) (by omega) (.bool sp) (.slice Ap np cp))).wv ((hE.here.1.2).sep2 hE.here.1.1.1.1.1.1.1.1.2 rfl (.bool sp) (.slice Ap np cp) rfl)).wv ((hE.here.2).sep2 hE.here.1.1.1.1.1.1.1.1.2 rfl (.bool sp) (.slice Ap np cp) rfl))
    go_upto_region 5 with (fail)
    clear x36_0 x36_1 f36_0 f36_1 hgl36
    generalize ((w35.setCell ⟨w.heap.size, 0, none⟩ (.bool sp)).setCell ⟨w.heap.size, 1, none⟩ (.slice Ap np cp)) = W36 at hE ⊢
    obtain ⟨k37, k38⟩ := (hE.here.1.1.1.1.1.1.1.2).c2
    obtain ⟨k39, k40⟩ := (hE.here.1.1.2).c2
    go_wp2_with fail
    have hc := fdivide_v (ca := cy) (cb := cg) hE.here.1.1.1.1.2 hE.here.1.1.1.2 lb lg (gcd_ne (show ((-b)) ≠ 0 by omega))
    refine hc.mono ?_
    clear hc
    clear k37 k38 k39 k40
    rintro e w41 ⟨sq, Aq, nq, cq, su, Au, nu, cu, rfl, hq, hu, hb⟩
    replace hE := hE.step hb
    clear hb
    replace hE := hE.wv hq
    clear hq
    replace hE := hE.wv hu
    clear hu
    have hgl42 : w.heap.size ≤ w.heap.size + 1 := by omega
    obtain ⟨x42_0, x42_1⟩ := (hE.here.1.1.1.1.1.1.1.1.1.2).c2
    obtain ⟨f42_0, f42_1⟩ := hE.here.1.1.1.1.1.1.1.1.1.2.f2
    replace hE := ((((((((((((((Env.again (bel2 hE.bel hgl42 (.bool sq) (.slice Aq nq cq))).wv ((hE.here.1.1.1.1.1.1.1.1.1.1.1.1.2).sep2 hE.here.1.1.1.1.1.1.1.1.1.2 rfl (.bool sq) (.slice Aq nq cq) rfl)).wv ((hE.here.1.1.1.1.1.1.1.1.1.1.1.2).sep2 hE.here.1.1.1.1.1.1.1.1.1.2 rfl (.bool sq) (.slice Aq nq cq) rfl)).blkI ((hE.here.1.1.1.1.1.1.1.1.1.1.2).far2 (R := w.heap.size + 1) (by omega) (.bool sq) (.slice Aq nq cq))).blkI ((hE.here.1.1.1.1.1.1.1.1.1.2).s2 (.bool sq) (.slice Aq nq cq))).blkI ((hE.here.1.1.1.1.1.1.1.1.2).far2 (R := w.heap.size + 1) (by omega) (.bool sq) (.slice Aq nq cq))).wv ((hE.here.1.1.1.1.1.1.1.2).sep2 hE.here.1.1.1.1.1.1.1.1.1.2 rfl (.bool sq) (.slice Aq nq cq) rfl)).wv ((hE.here.1.1.1.1.1.1.2).sep2 hE.here.1.1.1.1.1.1.1.1.1.2 rfl (.bool sq) (.slice Aq nq cq) rfl)).wv ((hE.here.1.1.1.1.1.2).sep2 hE.here.1.1.1.1.1.1.1.1.1.2 rfl (.bool sq) (.slice Aq nq cq) rfl)).blkI ((hE.here.1.1.1.1.2).far2 (R := w.heap.size + 1) (by omega) (.bool sq) (.slice Aq nq cq))).wv ((hE.here.1.1.1.2).sep2 hE.here.1.1.1.1.1.1.1.1.1.2 rfl (.bool sq) (.slice Aq nq cq) rfl)).wv ((hE.here.1.1.2).sep2 hE.here.1.1.1.1.1.1.1.1.1.2 rfl (.bool sq) (.slice Aq nq cq) rfl)).wv ((hE.here.1.2).sep2 hE.here.1.1.1.1.1.1.1.1.1.2 rfl (.bool sq) (.slice Aq nq cq) rfl)).wv ((hE.here.2).sep2 hE.here.1.1.1.1.1.1.1.1.1.2 rfl (.bool sq) (.slice Aq nq cq) rfl))
    go_upto_region 6 with (fail)
    clear x42_0 x42_1 f42_0 f42_1 hgl42
    generalize ((w41.setCell ⟨w.heap.size + 1, 0, none⟩ (.bool sq)).setCell ⟨w.heap.size + 1, 1, none⟩ (.slice Aq nq cq)) = W42 at hE ⊢
    obtain ⟨e1, e2⟩ := low_pos (n := (-a)) (d := (-b)) (show 0 < -b by omega)
    rw [low_neg] at e1 e2
    have hfv : FV W42 (Rat.divInt a b) sp Ap np sq Aq nq := ⟨by rw [e1]; exact hE.here.1.1.1.2, by rw [e2]; exact hE.here.1.2⟩
    clear e1 e2
    replace hE := hE.fv hfv
    clear hfv
    obtain ⟨k43, k44⟩ := (hE.here.1.1.1.1.1.1.1.1.1.1.1.2).c2
    obtain ⟨k45, k46⟩ := (hE.here.1.1.1.1.1.1.1.1.1.1.2).c2
    have hRl : w.heap.size ≤ w.heap.size + 1 + 1 := by omega
    obtain ⟨WW, hWW, hB, hV, hBel⟩ := ret_frac hE hE.here.1.1.1.1.1.1.1.1.1.2 hRl hE.here.2 cp cq
    obtain ⟨x0, x1, x2, x3⟩ := (hE.here.1.1.1.1.1.1.1.1.1.2).c4
    obtain ⟨fz0, fz1, fz2, fz3⟩ := hE.here.1.1.1.1.1.1.1.1.1.2.f4
    have HWW := Lib.hid hWW
    clear hWW
    go_wp2_with fail
    clear k43 k44 k45 k46
    rw [← HWW.out]
    obtain ⟨y0, y1, y2, y3⟩ := hB.c4
    refine bodyPost_ret (v := .agg #[.bool sp, .slice Ap np cp, .bool sq, .slice Aq nq cq]) (by simp [results, Tryz.results95, go_sem, y0, y1, y2, y3]) rfl ?_
    exact ⟨sp, Ap, np, cp, sq, Aq, nq, cq, rfl, hV, hBel⟩
  | false =>
    have hd : 0 < b := by have := of_decide_eq_false hb.sgn.symm; omega
    have hE := ((((Env.start w).wv ha).wv hb).blk 27 #[.bool sa, .slice Aa na ca] (g := w.heap.size) rfl).blk 27 #[.bool false, .slice Ab nb cb] (g := w.heap.size + 1) (by simp)
    have hE := hE.blk 94 #[.bool false, .slice none 0 0, .bool false, .slice none 0 0] (g := w.heap.size + 1 + 1) (by simp)
    obtain ⟨W0, hW0⟩ : ∃ W0, W0 = (((w.alloc (.cells #[.bool sa, .slice Aa na ca] 27)).alloc (.cells #[.bool false, .slice Ab nb cb] 27)).alloc (.cells #[.bool false, .slice none 0 0, .bool false, .slice none 0 0] 94)) := ⟨_, rfl⟩
    rw [← hW0] at hE
    have HW0 := Lib.hid hW0
    clear hW0
    go_enter Tryz.func95, Tryz.ntmps95
    go_upto_region 1 with (fail)
    rw [← HW0.out]
    obtain ⟨k1, k2⟩ := (hE.here.1.2).c2
    go_upto_region 3 with (fail)
    clear k1 k2
    obtain ⟨k3, k4⟩ := (hE.here.1.1.2).c2
    obtain ⟨k5, k6⟩ := (hE.here.1.2).c2
    go_wp2_with fail
    have hc := fdivisor_v (ca := ca) (cb := cb) hE.here.1.1.1.1.2 hE.here.1.1.1.2 la lb
    refine hc.mono ?_
    clear hc
    clear k3 k4 k5 k6
    rintro e w7 ⟨sg, Ag, ng, cg, rfl, hg, hb⟩
    replace hE := hE.step hb
    clear hb
    replace hE := hE.wv hg
    clear hg
    have lg := gcd_len hE.here.1.1.1.1.1.2 hE.here.1.1.1.1.2 hE.here.2 (show (b) ≠ 0 by omega) lb
    go_upto_region 4 with (fail)
    obtain ⟨g8, hg8⟩ : ∃ g8, g8 = w7.heap.size := ⟨_, rfl⟩
    have hl8_2 : w.heap.size < g8 := by rw [hg8]; exact (hE.here.1.1.1.2).lt
    have hl8_3 : w.heap.size + 1 < g8 := by rw [hg8]; exact (hE.here.1.1.2).lt
    have hl8_4 : w.heap.size + 1 + 1 < g8 := by rw [hg8]; exact (hE.here.1.2).lt
    replace hE := hE.blk 27 #[.bool sg, .slice Ag ng cg] (g := g8) hg8.symm
    generalize w7.alloc (.cells #[.bool sg, .slice Ag ng cg] 27) = W8 at hE ⊢
    rw [← hg8]
    clear hg8
    obtain ⟨k9, k10⟩ := (hE.here.1.1.1.1.2).c2
    obtain ⟨k11, k12⟩ := (hE.here.2).c2
    go_wp2_with fail
    have hc := fdivide_v (ca := ca) (cb := cg) hE.here.1.1.1.1.1.1.2 hE.here.1.2 la lg (gcd_ne (show (b) ≠ 0 by omega))
    refine hc.mono ?_
    clear hc
    clear k9 k10 k11 k12
    rintro e w13 ⟨sp, Ap, np, cp, sr, Ar, nr, cr, rfl, hp, hr, hb⟩
    replace hE := hE.step hb
    clear hb
    replace hE := hE.wv hp
    clear hp
    replace hE := hE.wv hr
    clear hr
    have hgl14 : w.heap.size ≤ w.heap.size := by omega
    obtain ⟨x14_0, x14_1⟩ := (hE.here.1.1.1.1.1.1.2).c2
    obtain ⟨f14_0, f14_1⟩ := hE.here.1.1.1.1.1.1.2.f2
    replace hE := ((((((((((Env.again (bel2 hE.bel hgl14 (.bool sp) (.slice Ap np cp))).wv ((hE.here.1.1.1.1.1.1.1.1.2).sep2 hE.here.1.1.1.1.1.1.2 rfl (.bool sp) (.slice Ap np cp) rfl)).wv ((hE.here.1.1.1.1.1.1.1.2).sep2 hE.here.1.1.1.1.1.1.2 rfl (.bool sp) (.slice Ap np cp) rfl)).blkI ((hE.here.1.1.1.1.1.1.2).s2 (.bool sp) (.slice Ap np cp))).blkI ((hE.here.1.1.1.1.1.2).far2 (R := w.heap.size) (by omega) (.bool sp) (.slice Ap np cp))).blkI ((hE.here.1.1.1.1.2).far2 (R := w.heap.size) (by omega) (.bool sp) (.slice Ap np cp))).wv ((hE.here.1.1.1.2).sep2 hE.here.1.1.1.1.1.1.2 rfl (.bool sp) (.slice Ap np cp) rfl)).blkI ((hE.here.1.1.2).far2 (R := w.heap.size) (by omega) (.bool sp) (.slice Ap np cp))).wv ((hE.here.1.2).sep2 hE.here.1.1.1.1.1.1.2 rfl (.bool sp) (.slice Ap np cp) rfl)).wv ((hE.here.2).sep2 hE.here.1.1.1.1.1.1.2 rfl (.bool sp) (.slice Ap np cp) rfl))
    go_upto_region 5 with (fail)
    clear x14_0 x14_1 f14_0 f14_1 hgl14
    generalize ((w13.setCell ⟨w.heap.size, 0, none⟩ (.bool sp)).setCell ⟨w.heap.size, 1, none⟩ (.slice Ap np cp)) = W14 at hE ⊢
    obtain ⟨k15, k16⟩ := (hE.here.1.1.1.1.1.2).c2
    obtain ⟨k17, k18⟩ := (hE.here.1.1.2).c2
    go_wp2_with fail
    have hc := fdivide_v (ca := cb) (cb := cg) hE.here.1.1.1.1.1.1.1.2 hE.here.1.1.1.2 lb lg (gcd_ne (show (b) ≠ 0 by omega))
    refine hc.mono ?_
    clear hc
    clear k15 k16 k17 k18
    rintro e w19 ⟨sq, Aq, nq, cq, su, Au, nu, cu, rfl, hq, hu, hb⟩
    replace hE := hE.step hb
    clear hb
    replace hE := hE.wv hq
    clear hq
    replace hE := hE.wv hu
    clear hu
    have hgl20 : w.heap.size ≤ w.heap.size + 1 := by omega
    obtain ⟨x20_0, x20_1⟩ := (hE.here.1.1.1.1.1.1.1.2).c2
    obtain ⟨f20_0, f20_1⟩ := hE.here.1.1.1.1.1.1.1.2.f2
    replace hE := ((((((((((((Env.again (bel2 hE.bel hgl20 (.bool sq) (.slice Aq nq cq))).wv ((hE.here.1.1.1.1.1.1.1.1.1.1.2).sep2 hE.here.1.1.1.1.1.1.1.2 rfl (.bool sq) (.slice Aq nq cq) rfl)).wv ((hE.here.1.1.1.1.1.1.1.1.1.2).sep2 hE.here.1.1.1.1.1.1.1.2 rfl (.bool sq) (.slice Aq nq cq) rfl)).blkI ((hE.here.1.1.1.1.1.1.1.1.2).far2 (R := w.heap.size + 1) (by omega) (.bool sq) (.slice Aq nq cq))).blkI ((hE.here.1.1.1.1.1.1.1.2).s2 (.bool sq) (.slice Aq nq cq))).blkI ((hE.here.1.1.1.1.1.1.2).far2 (R := w.heap.size + 1) (by omega) (.bool sq) (.slice Aq nq cq))).wv ((hE.here.1.1.1.1.1.2).sep2 hE.here.1.1.1.1.1.1.1.2 rfl (.bool sq) (.slice Aq nq cq) rfl)).blkI ((hE.here.1.1.1.1.2).far2 (R := w.heap.size + 1) (by omega) (.bool sq) (.slice Aq nq cq))).wv ((hE.here.1.1.1.2).sep2 hE.here.1.1.1.1.1.1.1.2 rfl (.bool sq) (.slice Aq nq cq) rfl)).wv ((hE.here.1.1.2).sep2 hE.here.1.1.1.1.1.1.1.2 rfl (.bool sq) (.slice Aq nq cq) rfl)).wv ((hE.here.1.2).sep2 hE.here.1.1.1.1.1.1.1.2 rfl (.bool sq) (.slice Aq nq cq) rfl)).wv ((hE.here.2).sep2 hE.here.1.1.1.1.1.1.1.2 rfl (.bool sq) (.slice Aq nq cq) rfl))
    go_upto_region 6 with (fail)
    clear x20_0 x20_1 f20_0 f20_1 hgl20
    generalize ((w19.setCell ⟨w.heap.size + 1, 0, none⟩ (.bool sq)).setCell ⟨w.heap.size + 1, 1, none⟩ (.slice Aq nq cq)) = W20 at hE ⊢
    obtain ⟨e1, e2⟩ := low_pos (n := a) (d := b) hd
    have hfv : FV W20 (Rat.divInt a b) sp Ap np sq Aq nq := ⟨by rw [e1]; exact hE.here.1.1.1.2, by rw [e2]; exact hE.here.1.2⟩
    clear e1 e2
    replace hE := hE.fv hfv
    clear hfv
    obtain ⟨k21, k22⟩ := (hE.here.1.1.1.1.1.1.1.1.1.2).c2
    obtain ⟨k23, k24⟩ := (hE.here.1.1.1.1.1.1.1.1.2).c2
    have hRl : w.heap.size ≤ w.heap.size + 1 + 1 := by omega
    obtain ⟨WW, hWW, hB, hV, hBel⟩ := ret_frac hE hE.here.1.1.1.1.1.1.1.2 hRl hE.here.2 cp cq
    obtain ⟨x0, x1, x2, x3⟩ := (hE.here.1.1.1.1.1.1.1.2).c4
    obtain ⟨fz0, fz1, fz2, fz3⟩ := hE.here.1.1.1.1.1.1.1.2.f4
    have HWW := Lib.hid hWW
    clear hWW
    go_wp2_with fail
    clear k21 k22 k23 k24
    rw [← HWW.out]
    obtain ⟨y0, y1, y2, y3⟩ := hB.c4
    refine bodyPost_ret (v := .agg #[.bool sp, .slice Ap np cp, .bool sq, .slice Aq nq cq]) (by simp [results, Tryz.results95, go_sem, y0, y1, y2, y3]) rfl ?_
    exact ⟨sp, Ap, np, cp, sq, Aq, nq, cq, rfl, hV, hBel⟩
end Go.Proofs.YtmjlankpihnicaaGreat
namespace Go.Proofs.YtmjlankpihnicaaGreat
open Go.RowKit

theorem rtrim_round {f : Nat → Nat} {k V : Nat} (hk0 : 0 < k) (hv : vs b16 f k = V) (hx : f (k - 1) = 0) : vs b16 f (k - 1) = V := by
  have h1 := vs_succ b16 f (k - 1)
  rw [show k - 1 + 1 = k by omega, hv, hx] at h1
  omega
set_option maxHeartbeats 1000000 in
theorem rtrim_any (B : Nat) (A : Option Addr) (n c : Nat) (f : Nat → Nat) (w : World) (h : Rd B .u16 w A n f) (hf : ∀ i, i < n → f i < 65536) (hc : n ≤ c) (hn : n ≤ 100000000) :
    Calls Tryz.prog 157 #[.slice A n c] w fun e w' => e = .returned (.slice A (ln b16 (vs b16 f n)) c) ∧ w = w' := by
  have HF := Lib.hid hf
  clear hf
  go_enter Tryz.func157, Tryz.ntmps157
  go_wp2_with fail
  go_loopw [3] (fun v wr => ∃ k : Nat, k ≤ n ∧ v = .int .i64 (k : Int) ∧ Hid (vs b16 f k = vs b16 f n) ∧ wr = w) (fun v _ => (intOf v).toNat)
  case atStart => exact ⟨n, Nat.le_refl _, rfl, Lib.hid rfl, rfl⟩
  case round =>
    obtain ⟨k, hk, rfl, HV, rfl⟩ := hrel
    rcases Nat.eq_zero_or_pos k with rfl | hk0
    · go_wp2_with fail
      go_ret
      exact ⟨ret_slice (by rw [← HV.out, vs_zero, ln_zero]), rfl⟩
    · obtain ⟨b, o, rfl, hb, hcell⟩ := h (by omega)
      have hx := hcell (k - 1) (by omega)
      have t0 : (0 : Int) < (k : Int) := by omega
      have e1 : (k : Int) - 1 = ((k - 1 : Nat) : Int) := by omega
      have e2 : ((k : Int) - 1).toNat = k - 1 := by omega
      have i1 : (0 : Int) ≤ (k : Int) - 1 := by omega
      have i2 : (k : Int) - 1 < (n : Int) := by omega
      have i3 : (k : Int) ≤ (c : Int) := by omega
      clear hcell
      by_cases h0 : f (k - 1) = 0
      · have t1 : (((f (k - 1) : Nat) : Int) == 0) = true := by rw [h0]; rfl
        have HN := Lib.hid (rtrim_round hk0 HV.out h0)
        clear h0
        go_wp2_with fail
        go_roundw
        case rel => exact ⟨k - 1, by omega, rfl, HN, by first | trivial | rfl⟩
        case measure => simp [intOf]; omega
      · have t1 : (((f (k - 1) : Nat) : Int) == 0) = false := beq_eq_false_iff_ne.2 (by omega)
        have H0 := Lib.hid h0
        clear h0
        go_wp2_with fail
        go_ret
        exact ⟨ret_slice (by rw [← HV.out, ln_vs b16_two (fun j hj => HF.out j (by omega)) (.inr H0.out)]), rfl⟩
def LessPost (a b : Nat) (w : World) (e : Ending) (w' : World) : Prop := e = .returned (.bool (decide (a < b))) ∧ ∃ n, w' = w.drewN n

set_option maxHeartbeats 400000 in
theorem rless_len (A B : Option Addr) (n m c d : Nat) (w : World) (h : n ≠ m) :
    Calls Tryz.prog 140 #[.slice A n c, .slice B m d] w fun e w' => e = .returned (.bool (decide (n < m))) ∧ w = w' := by
  rcases Nat.lt_or_gt_of_ne h with h1 | h1
  · have k1 : ((n : Int) != m) = true := by simp; omega
    have k2 : decide ((n : Int) < (m : Int)) = true := decide_eq_true (by omega)
    have k3 := Lib.hid (decide_eq_true h1)
    go_enter Tryz.func140, Tryz.ntmps140
    go_wp2
    go_ret
    first | exact ⟨ret_bool k3.out.symm, rfl⟩ | exact ⟨rfl, rfl⟩
  · have k1 : ((n : Int) != m) = true := by simp; omega
    have k2 : decide ((n : Int) < (m : Int)) = false := decide_eq_false (by omega)
    have k3 := Lib.hid (decide_eq_false (show ¬ n < m by omega))
    go_enter Tryz.func140, Tryz.ntmps140
    go_wp2
    go_ret
    first | exact ⟨ret_bool k3.out.symm, rfl⟩ | exact ⟨rfl, rfl⟩

set_option maxHeartbeats 400000 in
theorem rless_same (A B : Option Addr) (n c d a b : Nat) (w : World) (ha : Rd w.heap.size .u16 w A n (dgt b16 a)) (hb : Rd w.heap.size .u16 w B n (dgt b16 b)) (hn : n ≤ 100000000) (la : a < b16 ^ n) (lb : b < b16 ^ n) :
    Calls Tryz.prog 140 #[.slice A n c, .slice B n d] w (LessPost a b w) := by
  have LA := Lib.hid la
  have LB := Lib.hid lb
  clear la lb
  have hcell : ∀ j, j < n → ∃ p q p' q', A = some ⟨p, q, none⟩ ∧ B = some ⟨p', q', none⟩ ∧ (w.cell? ⟨p, q + j, none⟩ = some (.int .u16 (dgt b16 a j : Int))) ∧ (w.cell? ⟨p', q' + j, none⟩ = some (.int .u16 (dgt b16 b j : Int))) := fun j hj => by
    obtain ⟨p, q, e, _, h1⟩ := ha (by omega)
    obtain ⟨p', q', e', _, h2⟩ := hb (by omega)
    exact ⟨p, q, p', q', e, e', h1 j hj, h2 j hj⟩
  have HC := Lib.hid hcell
  clear ha hb hcell
  go_enter Tryz.func140, Tryz.ntmps140
  go_wp2
  go_loopw [5] (fun i wr => ∃ k : Nat, k ≤ n ∧ i = .int .i64 ((k : Int) - 1) ∧ (∀ j, k ≤ j → j < n → dgt b16 a j = dgt b16 b j) ∧ ∃ m, wr = w.drewN m) (fun i _ => (intOf i + 1).toNat)
  case atStart => exact ⟨n, Nat.le_refl _, rfl, fun j h1 h2 => absurd h2 (by omega), 0, rfl⟩
  case round =>
    obtain ⟨k, hk, rfl, he, m, rfl⟩ := hrel
    have HE := Lib.hid he
    clear he
    rcases Nat.eq_zero_or_pos k with rfl | hk0
    · go_wp2
      go_ret
      exact ⟨ret_bool (decide_eq_false (show ¬ a < b from fun hh => by have := eq_of_dgt LA.out LB.out fun j hj => HE.out j (by omega) hj; omega)).symm, m, rfl⟩
    · obtain ⟨p, q, p', q', rfl, rfl, h1, h2⟩ := HC.out (k - 1) (by omega)
      have ek : ((k : Int) - 1).toNat = k - 1 := by omega
      rcases Nat.lt_trichotomy (dgt b16 a (k - 1)) (dgt b16 b (k - 1)) with hlt | heq | hgt
      · have t1 : (((dgt b16 a (k - 1) : Nat) : Int) != ((dgt b16 b (k - 1) : Nat) : Int)) = true := by simp; omega
        have t2 : ((dgt b16 a (k - 1) : Nat) : Int) < ((dgt b16 b (k - 1) : Nat) : Int) := by omega
        have t3 := Lib.hid (decide_eq_true (lt_of_dgt b16_two LA.out LB.out (by omega) (fun j h1 h2 => HE.out j (by omega) h2) hlt))
        go_wp2
        go_quiet (fail)
        go_wp2
        go_quiet (fail)
        go_wp2
        go_ret
        first | exact ⟨ret_bool t3.out.symm, _, by rw [World.drewN_drewN, World.drewN_drewN]⟩ | exact ⟨ret_bool (by rw [t3.out]; first | exact decide_eq_false (by omega) | exact decide_eq_true (by omega)), _, by rw [World.drewN_drewN, World.drewN_drewN]⟩
      · have t1 : (((dgt b16 a (k - 1) : Nat) : Int) != ((dgt b16 b (k - 1) : Nat) : Int)) = false := by simp; omega
        go_wp2
        go_quiet (fail)
        go_wp2
        go_roundw
        case rel =>
          refine ⟨k - 1, by omega, by go_num, fun j h1 h2 => ?_, _, rfl⟩
          by_cases e : j = k - 1
          · rw [e]; exact heq
          · exact HE.out j (by omega) h2
        case measure => simp [intOf]; omega
      · have t1 : (((dgt b16 a (k - 1) : Nat) : Int) != ((dgt b16 b (k - 1) : Nat) : Int)) = true := by simp; omega
        have t2 : ¬ ((dgt b16 a (k - 1) : Nat) : Int) < ((dgt b16 b (k - 1) : Nat) : Int) := by omega
        have t3 := Lib.hid (decide_eq_false (Nat.lt_asymm (lt_of_dgt b16_two LB.out LA.out (by omega) (fun j h1 h2 => (HE.out j (by omega) h2).symm) hgt)))
        go_wp2
        go_quiet (fail)
        go_wp2
        go_quiet (fail)
        go_wp2
        go_ret
        first | exact ⟨ret_bool t3.out.symm, _, by rw [World.drewN_drewN, World.drewN_drewN]⟩ | exact ⟨ret_bool (by rw [t3.out]; first | exact decide_eq_false (by omega) | exact decide_eq_true (by omega)), _, by rw [World.drewN_drewN, World.drewN_drewN]⟩
theorem rless_any (A B : Option Addr) (c d a b : Nat) (w : World) (ha : Num16 w A a) (hb : Num16 w B b) (la : ln b16 a ≤ 100000000) :
    Calls Tryz.prog 140 #[.slice A (ln b16 a) c, .slice B (ln b16 b) d] w (LessPost a b w) := by
  by_cases h : ln b16 a = ln b16 b
  · unfold Num16 at ha hb
    have h1 := lt_pow_ln b16_two a
    have h2 := lt_pow_ln b16_two b
    rw [← h] at hb h2 ⊢
    exact rless_same A B _ c d a b w ha hb la h1 h2
  · refine (rless_len A B _ _ c d w h).mono fun e w' ⟨he, hw⟩ => ⟨?_, 0, hw.symm⟩
    rw [he]
    rcases Nat.lt_or_gt_of_ne h with h1 | h1
    · have : a < b := Nat.lt_of_not_le fun hle => by have := ln_mono b16_two hle; omega
      rw [decide_eq_true h1, decide_eq_true this]
    · have : b < a := Nat.lt_of_not_le fun hle => by have := ln_mono b16_two hle; omega
      rw [decide_eq_false (show ¬ ln b16 a < ln b16 b by omega), decide_eq_false (show ¬ a < b by omega)]
end Go.Proofs.YtmjlankpihnicaaGreat
namespace Go.Proofs.YtmjlankpihnicaaGreat
open Go.RowKit

theorem mul_digit16 {a b : Nat} (ha : a < 65536) (hb : b < 65536) : a * b ≤ 4294836225 := Nat.mul_le_mul (show a ≤ 65535 by omega) (show b ≤ 65535 by omega)
theorem mul_step16 {f g : Nat → Nat} {m i k x y c V : Nat} (hi : i + k < m) (hg : ∀ j, j < m → j ≠ i + k → g j = f j) (hu : g (i + k) = (x * y + f (i + k) + c) % b16) {s : Nat}
    (h : vs b16 f m + b16 ^ (i + k) * c = V + b16 ^ i * (x * s)) : vs b16 g m + b16 ^ (i + k + 1) * ((x * y + f (i + k) + c) / b16) = V + b16 ^ i * (x * (s + b16 ^ k * y)) := by
  have h1 := vs_set (B := b16) hi hg
  have h2 : b16 ^ (i + k) * ((x * y + f (i + k) + c) % b16) + b16 ^ (i + k) * (b16 * ((x * y + f (i + k) + c) / b16)) = b16 ^ (i + k) * (x * y + f (i + k) + c) := by rw [← Nat.mul_add, Nat.mod_add_div]
  have h3 : b16 ^ i * (x * (s + b16 ^ k * y)) = b16 ^ i * (x * s) + b16 ^ (i + k) * (x * y) := by
    rw [Nat.mul_add, Nat.mul_add, Nat.pow_add, Nat.mul_assoc (b16 ^ i) (b16 ^ k), Nat.mul_left_comm x (b16 ^ k) y]
  rw [hu] at h1
  rw [h3, Nat.pow_succ, Nat.mul_assoc]
  rw [Nat.mul_add, Nat.mul_add] at h2
  generalize b16 ^ (i + k) * (b16 * ((x * y + f (i + k) + c) / b16)) = z1 at *
  generalize b16 ^ (i + k) * ((x * y + f (i + k) + c) % b16) = z2 at *
  generalize b16 ^ (i + k) * (x * y) = z3 at *
  generalize b16 ^ (i + k) * f (i + k) = z4 at *
  generalize b16 ^ (i + k) * c = z5 at *
  generalize b16 ^ i * (x * s) = z6 at *
  omega


theorem Num16.of_rd {w : World} {A : Option Addr} {n : Nat} {f : Nat → Nat} (h : Rd w.heap.size .u16 w A n f) (hf : ∀ i, i < n → f i < 65536) : Num16 w A (vs b16 f n) := by
  have hl : ln b16 (vs b16 f n) ≤ n := (ln_le b16_two).2 (vs_lt hf)
  exact (h.shorter hl).congr fun i hi => (dgt_vs hf (by omega)).symm

/-- After the first i digits of a: the words are those of their product with b. -/
def MulSt16 (H a b m i : Nat) (wr : World) : Prop := ∃ f : Nat → Nat, Row wr H 116 .u16 m m f ∧ (∀ j, f j < 65536) ∧ vs b16 f m = vs b16 (dgt b16 a) i * b ∧ ∀ j, i + ln b16 b ≤ j → f j = 0
/-- Within digit i: k digits of b done, the carry c. -/
def MulIn16 (H a b m i k c : Nat) (wr : World) : Prop := ∃ f : Nat → Nat, Row wr H 116 .u16 m m f ∧ (∀ j, f j < 65536) ∧ vs b16 f m + b16 ^ (i + k) * c = vs b16 (dgt b16 a) i * b + b16 ^ i * (dgt b16 a i * vs b16 (dgt b16 b) k) ∧ c < 65536 ∧ ∀ j, i + ln b16 b ≤ j → f j = 0

theorem MulSt16.inner {H a b m i : Nat} {wr : World} (h : MulSt16 H a b m i wr) : MulIn16 H a b m i 0 0 wr := by
  obtain ⟨f, h1, h2, h3, h4⟩ := h
  exact ⟨f, h1, h2, by simpa [vs] using h3, by decide, h4⟩
theorem MulIn16.step {H a b m i k c : Nat} {wr : World} {f : Nat → Nat} (h1 : Row wr H 116 .u16 m m f) (h2 : ∀ j, f j < 65536)
    (h3 : vs b16 f m + b16 ^ (i + k) * c = vs b16 (dgt b16 a) i * b + b16 ^ i * (dgt b16 a i * vs b16 (dgt b16 b) k)) (h4 : c < 65536) (h5 : ∀ j, i + ln b16 b ≤ j → f j = 0)
    (hk : k < ln b16 b) (hm : i + ln b16 b < m) {u v : Int} (hu : u = ((dgt b16 a i : Nat) : Int) * (dgt b16 b k : Nat) + (f (i + k) : Nat) + (c : Nat)) (hv : v = u % 65536) :
    MulIn16 H a b m i (k + 1) ((u / 65536).toNat) (wr.setCell ⟨H, i + k, none⟩ (.int .u16 v)) := by
  have e : u = ((dgt b16 a i * dgt b16 b k + f (i + k) + c : Nat) : Int) := by rw [hu, Int.natCast_add, Int.natCast_add, Int.natCast_mul]
  have hp := mul_digit16 (dgt16_lt a i) (dgt16_lt b k)
  have hf := h2 (i + k)
  have ev : v = (((dgt b16 a i * dgt b16 b k + f (i + k) + c) % b16 : Nat) : Int) := by rw [hv, e]; rfl
  have et : (u / 65536).toNat = (dgt b16 a i * dgt b16 b k + f (i + k) + c) / b16 := by rw [e]; rfl
  rw [ev, et]
  refine ⟨fun j => if j = i + k then (dgt b16 a i * dgt b16 b k + f (i + k) + c) % b16 else f j, h1.set (by simp) fun j _ hj => by simp [hj], fun j => ?_, ?_, ?_, fun j hj => ?_⟩
  · by_cases hj : j = i + k
    · simp only [hj, if_true]; exact Nat.mod_lt _ (by decide)
    · simp only [hj, if_false]; exact h2 j
  · rw [vs_succ b16 (dgt b16 b) k]
    exact mul_step16 (by omega) (fun j _ hj => by simp [hj]) (by simp) h3
  · rw [Nat.div_lt_iff_lt_mul (by decide)]
    show _ < 65536 * 65536
    omega
  · simp only [show ¬ j = i + k by omega, if_false]; exact h5 j hj
theorem MulIn16.done {H a b m i c : Nat} {wr : World} (h : MulIn16 H a b m i (ln b16 b) c wr) (hm : i + ln b16 b < m) : MulSt16 H a b m (i + 1) (wr.setCell ⟨H, i + ln b16 b, none⟩ (.int .u16 (c : Int))) := by
  obtain ⟨f, h1, h2, h3, h4, h5⟩ := h
  refine ⟨fun j => if j = i + ln b16 b then c else f j, h1.set (by simp) fun j _ hj => by simp [hj], fun j => ?_, ?_, fun j hj => ?_⟩
  · by_cases hj : j = i + ln b16 b
    · simp only [hj, if_true]; exact h4
    · simp only [hj, if_false]; exact h2 j
  · have hs := vs_set (B := b16) (f := f) (g := fun j => if j = i + ln b16 b then c else f j) hm fun j _ hj => by simp [hj]
    rw [vs_dgt_ln b16_two] at h3
    rw [h5 _ (Nat.le_refl _)] at hs
    simp only [if_true] at hs
    rw [vs_succ, Nat.add_mul, Nat.mul_assoc, ← h3]
    omega
  · simp only [show ¬ j = i + ln b16 b by omega, if_false]; exact h5 j (by omega)

end Go.Proofs.YtmjlankpihnicaaGreat
namespace Go.Proofs.YtmjlankpihnicaaGreat
open Go.RowKit

/-- The limbs of the quotient from digit k on. -/
def qst16 (x d k j : Nat) : Nat := if k ≤ j then dgt b16 (x / d) j else 0
theorem qst16_lt (x d k j : Nat) : qst16 x d k j < 65536 := by unfold qst16; split; exact dgt16_lt ..; decide
theorem qst16_total {n : Nat} (x d : Nat) (h : x < b16 ^ n) : vs b16 (qst16 x d 0) n = x / d := by
  rw [vs_congr (g := dgt b16 (x / d)) fun j _ => by simp [qst16]]
  exact vs_dgt_lt (Nat.lt_of_le_of_lt (Nat.div_le_self ..) h)
theorem half_step (x k : Nat) : x / b16 ^ (k + 1) % 131072 % 2 * 65536 + dgt b16 x k = x / b16 ^ k % 131072 ∧ x / b16 ^ k % 131072 / 2 = dgt b16 (x / 2) k := by
  have e1 : x / b16 ^ k = 65536 * (x / b16 ^ (k + 1)) + dgt b16 x k := by
    rw [dgt, Nat.pow_succ, ← Nat.div_div_eq_div_mul]
    exact (Nat.div_add_mod _ _).symm
  have e2 : dgt b16 (x / 2) k = x / b16 ^ k / 2 % 65536 := by
    rw [dgt, Nat.div_div_eq_div_mul, Nat.div_div_eq_div_mul, Nat.mul_comm]
    rfl
  have h1 := dgt16_lt x k
  rw [e2]
  generalize x / b16 ^ k = a at *
  generalize x / b16 ^ (k + 1) = b at *
  generalize dgt b16 x k = c at *
  omega

set_option linter.unusedSimpArgs false in
set_option maxRecDepth 100000 in
set_option maxHeartbeats 2000000 in
theorem rhalf_any (A : Option Addr) (c x : Nat) (w : World) (hx : Num16 w A x) (hn : ln b16 x ≤ 2000000) :
    Calls Tryz.prog 142 #[.slice A (ln b16 x) c] w fun e w' => ∃ A' c', e = .returned (.slice A' (ln b16 (x / 2)) c') ∧ Num16 w' A' (x / 2) ∧ (∀ p, A' = some p → w.heap.size ≤ p.block) ∧ Below w.heap.size w w' := by
  have hmk := mk16 (ln b16 x) (ln b16 x) (Nat.le_refl _) (by omega)
  have HN := Lib.hid (qst16_total x 2 (lt_pow_ln b16_two x))
  have HL := Lib.hid (lt_pow_ln b16_two x)
  go_enter Tryz.func142, Tryz.ntmps142
  go_wp2_with fail
  clear hmk
  go_loopw [4, 5] (fun r i wr => ∃ k : Nat, k ≤ ln b16 x ∧ i = .int .i64 ((k : Int) - 1) ∧ r = .int .i64 ((x / b16 ^ k % 131072 : Nat) : Int) ∧ Row wr w.heap.size 116 .u16 (ln b16 x) (ln b16 x) (qst16 x 2 k) ∧ Below w.heap.size w wr) (fun _ i _ => (intOf i + 1).toNat)
  case atStart => exact ⟨ln b16 x, Nat.le_refl _, rfl, by rw [Nat.div_eq_of_lt HL.out]; rfl, Row.made.congr fun j hj => by simp only [qst16]; rw [if_neg (by omega)], (Below.refl _ _).alloc (Nat.le_refl _) _⟩
  case round =>
    obtain ⟨k, hk, rfl, rfl, hrow, hbel⟩ := hrel
    rcases Nat.eq_zero_or_pos k with rfl | hk0
    · have ht := rtrim_any wr.heap.size (some ⟨w.heap.size, 0, none⟩) (ln b16 x) (ln b16 x) _ wr (hrow.rd (Nat.le_refl _) hrow.lt) (fun i _ => qst16_lt ..) (Nat.le_refl _) (by omega)
      have hnum := Num16.of_rd (hrow.rd (Nat.le_refl _) hrow.lt) (fun i _ => qst16_lt ..)
      rw [HN.out] at ht hnum
      have HT := Lib.hid ht
      have HNUM := Lib.hid hnum
      clear ht hnum
      go_wp2_with fail
      refine HT.out.mono ?_
      rintro e w3 ⟨rfl, rfl⟩
      go_wp2_with fail
      go_ret
      exact ⟨_, _, rfl, HNUM.out, fun p hp => by injection hp with hp; rw [← hp]; exact Nat.le_refl _, hbel⟩
    · obtain ⟨j, rfl⟩ : ∃ j, k = j + 1 := ⟨k - 1, by omega⟩
      have ej : (((j + 1 : Nat) : Int) - 1) = (j : Int) := by omega
      rw [ej]
      obtain ⟨b, o, rfl, hb, hca⟩ := hx (by omega)
      have c0 := (hbel.cell (p := ⟨b, o + j, none⟩) hb).trans (hca j (by omega))
      have c1 := hrow.cell (i := j) (by omega)
      have c2 := hrow.frozen j
      have hl := dgt16_lt x j
      have hq := dgt16_lt (x / 2) j
      obtain ⟨s1, s2⟩ := half_step x j
      obtain ⟨N, hN⟩ : ∃ N, N = x / b16 ^ (j + 1) % 131072 := ⟨_, rfl⟩
      obtain ⟨M, hM⟩ : ∃ M, M = x / b16 ^ j % 131072 := ⟨_, rfl⟩
      rw [← hN, ← hM] at s1
      rw [← hM] at s2
      rw [← hN]
      obtain ⟨P, hP⟩ : ∃ P, P = N % 2 := ⟨_, rfl⟩
      have hPl : P ≤ 1 := by omega
      have hNl : N < 131072 := by omega
      have r1 : (N : Int).tmod 2 = (P : Int) := by rw [Int.tmod_eq_emod_of_nonneg (by omega)]; omega
      have o1 : IntKind.i64.wrap ((P : Int) * 65536) = (P : Int) * 65536 := by rw [IntKind.wrap_i64]; omega
      have o2 : IntKind.i64.wrap ((dgt b16 x j : Nat) : Int) = ((dgt b16 x j : Nat) : Int) := by rw [IntKind.wrap_i64]; omega
      have o3 : IntKind.i64.wrap ((P : Int) * 65536 + ((dgt b16 x j : Nat) : Int)) = (M : Int) := by rw [IntKind.wrap_i64]; omega
      have r2 : (M : Int).tdiv 2 = ((dgt b16 (x / 2) j : Nat) : Int) := by rw [Int.tdiv_eq_ediv_of_nonneg (by omega)]; omega
      have o4 : IntKind.u16.wrap ((dgt b16 (x / 2) j : Nat) : Int) = ((dgt b16 (x / 2) j : Nat) : Int) := by rw [IntKind.wrap_u16]; omega
      have i1 : (j : Int) < ((ln b16 x : Nat) : Int) := by omega
      have HM := Lib.hid hM
      clear s1 s2 hN hM hP hca
      go_wp2_with fail
      go_roundw
      case rel => exact ⟨j, by omega, by go_num, by rw [HM.out], hrow.set (by simp [qst16]) fun q _ hq => by simp only [qst16, show j ≤ q ↔ j + 1 ≤ q by omega], hbel.setCell (Nat.le_refl _) _⟩
      case measure => simp [intOf]
end Go.Proofs.YtmjlankpihnicaaGreat
/-! The walk of the reference's short. -/
namespace Go.Proofs.YtmjlankpihnicaaGreat
open Go.RowKit

theorem short_num {x d : Nat} (hd : 0 < d) (hd1 : d ≤ 65535) : vs b16 (fun _ => x % d) 1 = x % d ∧ ∀ j, j < 1 → x % d < 65536 := by
  have h1 := Nat.mod_lt x hd
  refine ⟨?_, fun _ _ => by omega⟩
  rw [vs_succ, vs_zero]
  simp
/-- A quotient and a remainder, in memory. -/
def RDiv (x y : Nat) (w : World) (e : Ending) (w' : World) : Prop :=
  ∃ A c B d, e = .returned (.tuple #[.slice A (ln b16 (x / y)) c, .slice B (ln b16 (x % y)) d]) ∧ Num16 w' A (x / y) ∧ Num16 w' B (x % y) ∧ (∀ p, A = some p → w.heap.size ≤ p.block) ∧ (∀ p, B = some p → w.heap.size ≤ p.block) ∧ Below w.heap.size w w'
set_option linter.unusedSimpArgs false in
set_option maxRecDepth 100000 in
set_option maxHeartbeats 2000000 in
theorem rshort_any (A : Option Addr) (c x d : Nat) (w : World) (hx : Num16 w A x) (hd : 0 < d) (hd1 : d ≤ 65535) (hn : ln b16 x ≤ 2000000) :
    Calls Tryz.prog 139 #[.slice A (ln b16 x) c, .int .i64 (d : Int)] w (RDiv x d w) := by
  have hmk := mk16 (ln b16 x) (ln b16 x) (Nat.le_refl _) (by omega)
  have HN := Lib.hid (qst16_total x d (lt_pow_ln b16_two x))
  have HL := Lib.hid (lt_pow_ln b16_two x)
  have hn0 : ((d : Int) == 0) = false := beq_eq_false_iff_ne.2 (by omega)
  have hn1 : ¬ (d : Int) = 0 := by omega
  go_enter Tryz.func139, Tryz.ntmps139
  go_wp2_with fail
  clear hmk
  go_loopw [7, 8] (fun r i wr => ∃ k : Nat, k ≤ ln b16 x ∧ i = .int .i64 ((k : Int) - 1) ∧ r = .int .i64 ((x / b16 ^ k % d : Nat) : Int) ∧ Row wr w.heap.size 116 .u16 (ln b16 x) (ln b16 x) (qst16 x d k) ∧ Below w.heap.size w wr) (fun _ i _ => (intOf i + 1).toNat)
  case atStart => exact ⟨ln b16 x, Nat.le_refl _, rfl, by rw [Nat.div_eq_of_lt HL.out]; simp, Row.made.congr fun j hj => by simp only [qst16]; rw [if_neg (by omega)], (Below.refl _ _).alloc (Nat.le_refl _) _⟩
  case round =>
    obtain ⟨k, hk, rfl, rfl, hrow, hbel⟩ := hrel
    rcases Nat.eq_zero_or_pos k with rfl | hk0
    · have ht := rtrim_any wr.heap.size (some ⟨w.heap.size, 0, none⟩) (ln b16 x) (ln b16 x) _ wr (hrow.rd (Nat.le_refl _) hrow.lt) (fun i _ => qst16_lt ..) (Nat.le_refl _) (by omega)
      have hnum := Num16.of_rd (hrow.rd (Nat.le_refl _) hrow.lt) (fun i _ => qst16_lt ..)
      rw [HN.out] at ht hnum
      have HT := Lib.hid ht
      have HNUM := Lib.hid hnum
      have hs1 := short_num (x := x) hd hd1
      obtain ⟨R, hR⟩ : ∃ R, R = x % d := ⟨_, rfl⟩
      rw [← hR] at hs1
      have hR1 : R < 65536 := by rw [hR]; have := Nat.mod_lt x hd; omega
      rw [Nat.pow_zero, Nat.div_one, ← hR]
      have o1 : IntKind.u16.wrap (R : Int) = (R : Int) := by rw [IntKind.wrap_u16]; omega
      have HS := Lib.hid hs1
      have HR := Lib.hid hR
      clear ht hnum hs1 hR
      have hcell := heap_alloc_new wr (.cells #[.int .u16 (R : Int)] 116)
      have hrd2 : Rd (wr.heap.size + 1) .u16 (wr.alloc (.cells #[.int .u16 (R : Int)] 116)) (some ⟨wr.heap.size, 0, none⟩) 1 (fun _ => R) := fun _ => ⟨_, 0, rfl, Nat.lt_succ_self _, fun i hi => by
        obtain rfl : i = 0 := by omega
        exact (cell_of_row _ _ 0 _ _ (0, 0) hcell).trans rfl⟩
      have ht2 := rtrim_any (wr.heap.size + 1) (some ⟨wr.heap.size, 0, none⟩) 1 1 (fun _ => R) _ hrd2 (fun _ _ => hR1) (Nat.le_refl _) (by omega)
      have hnum2 := Num16.of_rd (w := wr.alloc (.cells #[.int .u16 (R : Int)] 116)) (by rw [World.size_alloc]; exact hrd2) (fun _ _ => hR1)
      rw [HS.out.1] at ht2 hnum2
      have HT2 := Lib.hid ht2
      have HN2 := Lib.hid hnum2
      clear hcell hrd2 ht2 hnum2
      go_wp2_with fail
      refine HT.out.mono ?_
      rintro e w3 ⟨rfl, rfl⟩
      go_wp2_with fail
      refine HT2.out.mono ?_
      rintro e w3 ⟨rfl, rfl⟩
      go_wp2_with fail
      go_ret2
      have hba := (Below.refl wr.heap.size wr).alloc (Nat.le_refl _) (.cells #[.int .u16 (R : Int)] 116)
      rw [HR.out] at HN2 hba ⊢
      exact ⟨_, _, _, _, rfl, Num16.below HNUM.out hba, HN2.out, fun p hp => by injection hp with hp; rw [← hp]; exact Nat.le_refl _, fun p hp => by injection hp with hp; rw [← hp]; exact hbel.size, hbel.trans (hba.mono hbel.size)⟩
    · obtain ⟨j, rfl⟩ : ∃ j, k = j + 1 := ⟨k - 1, by omega⟩
      have ej : (((j + 1 : Nat) : Int) - 1) = (j : Int) := by omega
      rw [ej]
      obtain ⟨b, o, rfl, hb, hca⟩ := hx (by omega)
      have c0 := (hbel.cell (p := ⟨b, o + j, none⟩) hb).trans (hca j (by omega))
      have c1 := hrow.cell (i := j) (by omega)
      have c2 := hrow.frozen j
      have hl := dgt16_lt x j
      have hq := dgt16_lt (x / d) j
      obtain ⟨s1, s2⟩ := short_step (B := b16) (x := x) (k := j) hd
      have hNl := Nat.mod_lt (x / b16 ^ (j + 1)) hd
      obtain ⟨N, hN⟩ : ∃ N, N = x / b16 ^ (j + 1) % d := ⟨_, rfl⟩
      rw [← hN] at s1 s2 hNl
      rw [← hN]
      obtain ⟨M, hM⟩ : ∃ M, M = b16 * N + dgt b16 x j := ⟨_, rfl⟩
      rw [← hM] at s1 s2
      have hMv : M = N * 65536 + dgt b16 x j := by rw [hM, Nat.mul_comm]; rfl
      have hMd : M / d < 65536 := by rw [Nat.div_lt_iff_lt_mul hd]; (have : (N + 1) * 65536 ≤ d * 65536 := Nat.mul_le_mul_right _ hNl); omega
      rw [Nat.mod_eq_of_lt (show M / d < b16 from hMd)] at s1
      have o1 : IntKind.i64.wrap ((N : Int) * 65536) = (N : Int) * 65536 := by rw [IntKind.wrap_i64]; omega
      have o2 : IntKind.i64.wrap ((dgt b16 x j : Nat) : Int) = ((dgt b16 x j : Nat) : Int) := by rw [IntKind.wrap_i64]; omega
      have o3 : IntKind.i64.wrap ((N : Int) * 65536 + ((dgt b16 x j : Nat) : Int)) = (M : Int) := by rw [IntKind.wrap_i64]; omega
      have r1 : (M : Int).tdiv (d : Int) = ((dgt b16 (x / d) j : Nat) : Int) := by rw [Int.tdiv_eq_ediv_of_nonneg (by omega), ← s1]; exact (Int.natCast_ediv M d).symm
      have r2 : (M : Int).tmod (d : Int) = ((x / b16 ^ j % d : Nat) : Int) := by rw [Int.tmod_eq_emod_of_nonneg (by omega), ← s2]; exact (Int.natCast_emod M d).symm
      have o4 : IntKind.u16.wrap ((dgt b16 (x / d) j : Nat) : Int) = ((dgt b16 (x / d) j : Nat) : Int) := by rw [IntKind.wrap_u16]; omega
      have i1 : (j : Int) < ((ln b16 x : Nat) : Int) := by omega
      clear s1 s2 hN hM hMv hMd hca HN HL
      go_wp2_with fail
      go_roundw
      case rel => exact ⟨j, by omega, by go_num, rfl, hrow.set (by simp [qst16]) fun q _ hq => by simp only [qst16, show j ≤ q ↔ j + 1 ≤ q by omega], hbel.setCell (Nat.le_refl _) _⟩
      case measure => simp [intOf]
end Go.Proofs.YtmjlankpihnicaaGreat
namespace Go.Proofs.YtmjlankpihnicaaGreat
open Go.RowKit

theorem dv_step {x e : Nat} (he : 0 < e) : (x / e = 2 * (x / (e * 2)) + (if x % (e * 2) < e then 0 else 1)) ∧ x % e = (if x % (e * 2) < e then x % (e * 2) else x % (e * 2) - e) := by
  have h1 : x / (e * 2) = x / e / 2 := (Nat.div_div_eq_div_mul x e 2).symm
  have h2 : x % (e * 2) = x % e + e * (x / e % 2) := Nat.mod_mul
  have h3 := Nat.mod_lt x he
  rw [h1, h2]
  generalize x / e = q at *
  generalize x % e = r at *
  rcases (show q % 2 = 0 ∨ q % 2 = 1 by omega) with h | h
  · rw [h, Nat.mul_zero, Nat.add_zero, if_pos h3, if_pos h3]; omega
  · rw [h, Nat.mul_one, if_neg (by omega), if_neg (by omega)]; omega
theorem two_pow_double (y k : Nat) : y * 2 ^ k + y * 2 ^ k = y * 2 ^ (k + 1) := by rw [Nat.pow_succ, ← Nat.mul_assoc]; omega
theorem two_pow_half (y k : Nat) : y * 2 ^ (k + 1) / 2 = y * 2 ^ k := by rw [← two_pow_double]; omega
theorem lt_two_pow (k : Nat) : k < 2 ^ k := Nat.lt_two_pow_self
theorem le_of_doubles {x y k : Nat} (hy : 0 < y) (h : ∀ i, i < k → y * 2 ^ i ≤ x) : k ≤ 16 * ln b16 x := by
  rcases Nat.eq_zero_or_pos k with h0 | h0
  · omega
  · have h1 := h (k - 1) (by omega)
    have h2 : 2 ^ (k - 1) ≤ x := Nat.le_trans (Nat.le_mul_of_pos_left _ hy) h1
    have h3 : x < 2 ^ (16 * ln b16 x) := by
      have := lt_pow_ln b16_two x
      rwa [show b16 = 2 ^ 16 from rfl, ← Nat.pow_mul] at this
    have h4 := (Nat.pow_lt_pow_iff_right (by decide : 1 < 2)).1 (Nat.lt_of_le_of_lt h2 h3)
    omega
theorem le_val_of_double {x y k : Nat} (hy : 0 < y) (h : y * 2 ^ k ≤ x) : k < x := by
  have h1 := lt_two_pow k
  have h2 : 2 ^ k ≤ y * 2 ^ k := Nat.le_mul_of_pos_left _ hy
  omega
/-- All doubles before the n-th are at most x. -/
def Dbl (x y n : Nat) : Prop := ∀ i, i < n → y * 2 ^ i ≤ x
theorem Dbl.succ {x y n : Nat} (h : Dbl x y n) (h1 : ¬ x < y * 2 ^ n) : Dbl x y (n + 1) := fun i hi => by
  rcases Nat.lt_or_ge i n with h2 | h2
  · exact h i h2
  · obtain rfl : i = n := by omega
    omega
theorem Dbl.ln {x y n i : Nat} (h : Dbl x y n) (hi : i < n) : ln b16 (y * 2 ^ i) ≤ ln b16 x := ln_mono b16_two (h i hi)
theorem Dbl.ln2 {x y n i B : Nat} (h : Dbl x y n) (hi : i ≤ n) (hx : Go.Proofs.YtmjlankpihnicaaGreat.ln b16 x ≤ B) (hy : Go.Proofs.YtmjlankpihnicaaGreat.ln b16 y ≤ B) : Go.Proofs.YtmjlankpihnicaaGreat.ln b16 (y * 2 ^ i) ≤ B + 1 := by
  rcases Nat.eq_zero_or_pos i with h0 | h0
  · subst h0
    rw [Nat.pow_zero, Nat.mul_one]; omega
  · have h1 := h.ln (i := i - 1) (by omega)
    have h2 := ln_add (B := b16) b16_two (m := B) (x := y * 2 ^ (i - 1)) (y := y * 2 ^ (i - 1)) (by omega) (by omega)
    rw [two_pow_double, show i - 1 + 1 = i by omega] at h2
    exact h2
/-- The quotient and the remainder by y * 2 ^ m. -/
theorem dv_start {x y n : Nat} (h : x < y * 2 ^ n) : x / (y * 2 ^ n) = 0 ∧ x % (y * 2 ^ n) = x := ⟨Nat.div_eq_of_lt h, Nat.mod_eq_of_lt h⟩
end Go.Proofs.YtmjlankpihnicaaGreat
namespace Go.Proofs.YtmjlankpihnicaaGreat
open Go.RowKit

end Go.Proofs.YtmjlankpihnicaaGreat
namespace Go.Proofs.YtmjlankpihnicaaGreat
open Go.RowKit

end Go.Proofs.YtmjlankpihnicaaGreat
namespace Go.Proofs.YtmjlankpihnicaaGreat
open Go.RowKit

/-- The carry into digit k of a sum. -/
def cr (x y k : Nat) : Nat := (x % b16 ^ k + y % b16 ^ k) / b16 ^ k
theorem cr_zero (x y : Nat) : cr x y 0 = 0 := by simp [cr, Nat.mod_one]
theorem cr_le (x y k : Nat) : cr x y k ≤ 1 := by
  have hp : 0 < b16 ^ k := Nat.pow_pos (by decide)
  have h1 := Nat.mod_lt x hp
  have h2 := Nat.mod_lt y hp
  have : cr x y k < 2 := (Nat.div_lt_iff_lt_mul hp).2 (by omega)
  omega
theorem cr_step (x y k : Nat) : cr x y (k + 1) = (cr x y k + dgt b16 x k + dgt b16 y k) / 65536 ∧ dgt b16 (x + y) k = (cr x y k + dgt b16 x k + dgt b16 y k) % 65536 := by
  have hp : 0 < b16 ^ k := Nat.pow_pos (by decide)
  have e1 := Nat.div_add_mod x (b16 ^ k)
  have e2 := Nat.div_add_mod y (b16 ^ k)
  constructor
  · unfold cr dgt
    rw [Nat.pow_succ, Nat.mod_mul, Nat.mod_mul, ← Nat.div_div_eq_div_mul]
    rw [show x % b16 ^ k + b16 ^ k * (x / b16 ^ k % b16) + (y % b16 ^ k + b16 ^ k * (y / b16 ^ k % b16)) = (x % b16 ^ k + y % b16 ^ k) + b16 ^ k * (x / b16 ^ k % b16 + y / b16 ^ k % b16) by rw [Nat.mul_add]; omega]
    rw [Nat.add_mul_div_left _ _ hp, ← Nat.add_assoc]
    rfl
  · unfold cr dgt
    have h3 : (x + y) / b16 ^ k = (x % b16 ^ k + y % b16 ^ k) / b16 ^ k + (x / b16 ^ k + y / b16 ^ k) := by
      conv => lhs; rw [← e1, ← e2]
      rw [show b16 ^ k * (x / b16 ^ k) + x % b16 ^ k + (b16 ^ k * (y / b16 ^ k) + y % b16 ^ k) = (x % b16 ^ k + y % b16 ^ k) + b16 ^ k * (x / b16 ^ k + y / b16 ^ k) by rw [Nat.mul_add]; omega]
      rw [Nat.add_mul_div_left _ _ hp]
    rw [h3]
    show ((x % b16 ^ k + y % b16 ^ k) / b16 ^ k + (x / b16 ^ k + y / b16 ^ k)) % 65536 = ((x % b16 ^ k + y % b16 ^ k) / b16 ^ k + x / b16 ^ k % 65536 + y / b16 ^ k % 65536) % 65536
    omega
theorem ln_over {x k : Nat} (h : b16 ^ k ≤ x) : k < ln b16 x := by
  rcases Nat.lt_or_ge k (ln b16 x) with h1 | h1
  · exact h1
  · have := (ln_le b16_two).1 h1; omega
theorem plus_more {x y k : Nat} (h : k < ln b16 x ∨ k < ln b16 y ∨ 0 < cr x y k) : k < ln b16 (x + y) := by
  rcases h with h | h | h
  · exact Nat.lt_of_lt_of_le h (ln_mono b16_two (by omega))
  · exact Nat.lt_of_lt_of_le h (ln_mono b16_two (by omega))
  · refine ln_over ?_
    have h1 : b16 ^ k ≤ x % b16 ^ k + y % b16 ^ k := (Nat.div_pos_iff.1 h).2
    have h2 := Nat.mod_le x (b16 ^ k)
    have h3 := Nat.mod_le y (b16 ^ k)
    omega
theorem plus_end {x y k : Nat} (h1 : ln b16 x ≤ k) (h2 : ln b16 y ≤ k) (h3 : cr x y k = 0) : ln b16 (x + y) ≤ k := by
  have hp : 0 < b16 ^ k := Nat.pow_pos (by decide)
  have e1 := (ln_le b16_two).1 h1
  have e2 := (ln_le b16_two).1 h2
  refine (ln_le b16_two).2 ?_
  unfold cr at h3
  rw [Nat.mod_eq_of_lt e1, Nat.mod_eq_of_lt e2] at h3
  have := Nat.lt_of_div_eq_zero hp h3
  omega
theorem dgt_over {x k : Nat} (h : ln b16 x ≤ k) : dgt b16 x k = 0 := dgt_of_lt ((ln_le b16_two).1 h)

set_option linter.unusedSimpArgs false in
set_option maxRecDepth 100000 in
set_option maxHeartbeats 2000000 in
theorem rplus_any (A B : Option Addr) (c d x y : Nat) (w : World) (hA : Num16 w A x) (hB : Num16 w B y) (la : ln b16 x ≤ 1000000) (lb : ln b16 y ≤ 1000000) :
    Calls Tryz.prog 141 #[.slice A (ln b16 x) c, .slice B (ln b16 y) d] w fun e w' => ∃ A' c', e = .returned (.slice A' (ln b16 (x + y)) c') ∧ Own16 w.heap.size w' A' (ln b16 (x + y)) c' (dgt b16 (x + y)) ∧ Below w.heap.size w w' := by
  have HA := Lib.hid hA
  have HB := Lib.hid hB
  have hls : ln b16 (x + y) ≤ 1000001 := ln_add b16_two la lb
  clear hA hB
  obtain ⟨i0, hi, hz0, hz1, hz2⟩ := info_parts info_u16
  go_enter Tryz.func141, Tryz.ntmps141
  go_wp2_with fail
  go_loopw [5, 6, 7] (fun v u i wr => ∃ k, i = .int .i64 ((k : Nat) : Int) ∧ u = .int .i64 ((cr x y k : Nat) : Int) ∧ k ≤ ln b16 (x + y) ∧ Hid (lenV v = k) ∧ wr.ownsRow w.heap.size 116 1 v k (nums .u16 k (dgt b16 (x + y))) ∧ Below w.heap.size w wr) (fun v _ _ _ => ln b16 (x + y) - lenV v)
  case atStart => exact ⟨0, rfl, by rw [cr_zero]; rfl, Nat.zero_le _, Lib.hid rfl, World.ownsRow_nil .., Below.refl _ _⟩
  case round =>
    obtain ⟨k, rfl, rfl, hk, hlv, hown, hbl⟩ := hrel
    have hcr := cr_le x y k
    by_cases hc : k < ln b16 x ∨ k < ln b16 y ∨ 0 < cr x y k
    · have hk9 := plus_more hc
      have hcs := cr_step x y k
      have HC := Lib.hid hcs
      have HK := Lib.hid hk9
      obtain ⟨q, hq⟩ : ∃ q, q = cr x y k := ⟨_, rfl⟩
      rw [← hq] at hc hcr ⊢
      have HQ := Lib.hid hq
      have hdx := dgt16_lt x k
      have hdy := dgt16_lt y k
      clear hcs hk9 hq
      go_upto_region 4 with (fail)
      go_cut [21] from 8 to 21 (fun v wx => v = .bool true ∧ wx = wr)
      case first =>
        rcases Nat.lt_or_ge k (ln b16 x) with h1 | h1
        · have t1 : decide ((k : Int) < ((ln b16 x : Nat) : Int)) = true := decide_eq_true (by omega)
          go_wp2_with fail
          go_meet
          exact ⟨rfl, rfl⟩
        · have t1 : decide ((k : Int) < ((ln b16 x : Nat) : Int)) = false := decide_eq_false (by omega)
          rcases Nat.lt_or_ge k (ln b16 y) with h2 | h2
          · have t2 : decide ((k : Int) < ((ln b16 y : Nat) : Int)) = true := decide_eq_true (by omega)
            go_wp2_with fail
            go_meet
            exact ⟨rfl, rfl⟩
          · have t2 : decide ((k : Int) < ((ln b16 y : Nat) : Int)) = false := decide_eq_false (by omega)
            have t3 : 0 < q := by omega
            go_wp2_with fail
            go_meet
            exact ⟨rfl, rfl⟩
      case rest =>
      obtain ⟨rfl, rfl⟩ := hcut
      go_upto_if 27 with (fail)
      go_cut [6] from 27 to 34 (fun v wx => v = .int .i64 ((q + dgt b16 x k : Nat) : Int) ∧ wx = wc)
      case first =>
        rcases Nat.lt_or_ge k (ln b16 x) with h1 | h1
        · obtain ⟨p, o, rfl, hp, hca⟩ := (Num16.below HA.out hbl) (by omega)
          have c1 := hca k h1
          have t1 : decide ((k : Int) < ((ln b16 x : Nat) : Int)) = true := decide_eq_true (by omega)
          have t2 : (k : Int) < ((ln b16 x : Nat) : Int) := by omega
          have o1 : IntKind.i64.wrap ((dgt b16 x k : Nat) : Int) = ((dgt b16 x k : Nat) : Int) := by rw [IntKind.wrap_i64]; omega
          clear hca
          go_wp2_with fail
          go_meet
          exact ⟨by first | rfl | (congr 1; omega), rfl⟩
        · have t1 : decide ((k : Int) < ((ln b16 x : Nat) : Int)) = false := decide_eq_false (by omega)
          have HZ := Lib.hid (dgt_over h1)
          go_wp2_with fail
          go_meet
          exact ⟨by rw [HZ.out]; first | rfl | (congr 1; omega), rfl⟩
      case rest =>
      obtain ⟨rfl, rfl⟩ := hcut
      obtain ⟨q2, hq2⟩ : ∃ q2, q2 = q + dgt b16 x k := ⟨_, rfl⟩
      rw [← hq2]
      have hq2l : q2 ≤ 65536 := by omega
      have HQ2 := Lib.hid hq2
      clear hq2
      go_upto_if 38 with (fail)
      go_cut [6] from 38 to 45 (fun v wx => v = .int .i64 ((q2 + dgt b16 y k : Nat) : Int) ∧ wx = wc)
      case first =>
        rcases Nat.lt_or_ge k (ln b16 y) with h1 | h1
        · obtain ⟨p, o, rfl, hp, hca⟩ := (Num16.below HB.out hbl) (by omega)
          have c1 := hca k h1
          have t1 : decide ((k : Int) < ((ln b16 y : Nat) : Int)) = true := decide_eq_true (by omega)
          have t2 : (k : Int) < ((ln b16 y : Nat) : Int) := by omega
          have o1 : IntKind.i64.wrap ((dgt b16 y k : Nat) : Int) = ((dgt b16 y k : Nat) : Int) := by rw [IntKind.wrap_i64]; omega
          clear hca
          go_wp2_with fail
          go_meet
          exact ⟨by first | rfl | (congr 1; omega), rfl⟩
        · have t1 : decide ((k : Int) < ((ln b16 y : Nat) : Int)) = false := decide_eq_false (by omega)
          have HZ := Lib.hid (dgt_over h1)
          go_wp2_with fail
          go_meet
          exact ⟨by rw [HZ.out]; first | rfl | (congr 1; omega), rfl⟩
      case rest =>
      obtain ⟨rfl, rfl⟩ := hcut
      obtain ⟨T, hT⟩ : ∃ T, T = q2 + dgt b16 y k := ⟨_, rfl⟩
      rw [← hT]
      have hTl : T ≤ 131072 := by omega
      have e1 : cr x y (k + 1) = T / 65536 := by rw [HC.out.1, ← HQ.out, ← HQ2.out, ← hT]
      have e2 : dgt b16 (x + y) k = T % 65536 := by rw [HC.out.2, ← HQ.out, ← HQ2.out, ← hT]
      clear hT hdx hdy
      have t5 : (T : Int).tmod 65536 = ((dgt b16 (x + y) k : Nat) : Int) := by rw [Int.tmod_eq_emod_of_nonneg (by omega), e2]; omega
      have t6 : (T : Int).tdiv 65536 = ((cr x y (k + 1) : Nat) : Int) := by rw [Int.tdiv_eq_ediv_of_nonneg (by omega), e1]; omega
      have hdl := dgt16_lt (x + y) k
      have hcl := cr_le x y (k + 1)
      clear e1 e2
      have o3 : IntKind.u16.wrap ((dgt b16 (x + y) k : Nat) : Int) = ((dgt b16 (x + y) k : Nat) : Int) := by rw [IntKind.wrap_u16]; omega
      have hsz := hbl.size
      go_wp2_with (at_builtin; refine wpList_append_own _ rfl _ _ 25 rfl w.heap.size 116 i0 (.int .u16 0) 1 2 Tryz.underlying25 hi hz0 hz1 hz2 rfl (by decide) _ _ _ rfl (hown.alloc _) ⟨wc.heap.size, 0, none⟩ 1 1 [.int .u16 ((dgt b16 (x + y) k : Nat) : Int)] rfl rfl (cell_one_new _ _ _) (by simp [Value.oneCell']) (by unfold maxLen; omega) (by omega) (by simp; omega) ?_; intro v' w5 hown5 hgrow _; obtain ⟨g', cap', rfl⟩ := ownsRow_succ hown5)
      go_roundw
      case rel =>
        rw [nums_succ] at hown5
        exact ⟨k + 1, rfl, rfl, HK.out, Lib.hid rfl, hown5, (hbl.alloc hsz (.cells #[.int .u16 ((dgt b16 (x + y) k : Nat) : Int)] 116)).grown hgrow (by simp; omega) (fun g hg => (hown.lt g hg).1)⟩
      case measure =>
        have := HK.out
        show ln b16 (x + y) - (k + 1) < ln b16 (x + y) - lenV u5
        rw [hlv.out]
        omega
    · have h1 : ln b16 x ≤ k := by omega
      have h2 : ln b16 y ≤ k := by omega
      have h3 : cr x y k = 0 := by omega
      have hkk : k = ln b16 (x + y) := by have := plus_end h1 h2 h3; omega
      have t1 : decide ((k : Int) < ((ln b16 x : Nat) : Int)) = false := decide_eq_false (by omega)
      have t2 : decide ((k : Int) < ((ln b16 y : Nat) : Int)) = false := decide_eq_false (by omega)
      rw [h3]
      obtain ⟨A', c', rfl⟩ := own_slice16 hown
      have HK := Lib.hid hkk
      clear hkk h3 hc
      go_wp2_with fail
      go_ret
      refine ⟨A', c', ret_slice HK.out, ?_, hbl⟩
      rw [← HK.out]
      exact hown
end Go.Proofs.YtmjlankpihnicaaGreat
namespace Go.Proofs.YtmjlankpihnicaaGreat
open Go.RowKit

/-- The borrow from digit k of a difference. -/
def bw (x y k : Nat) : Nat := if x % b16 ^ k < y % b16 ^ k then 1 else 0
theorem bw_zero (x y : Nat) : bw x y 0 = 0 := by simp [bw, Nat.mod_one]
theorem bw_le (x y k : Nat) : bw x y k ≤ 1 := by unfold bw; split <;> omega
theorem bw_div {x y k : Nat} (h : y ≤ x) : (x - y) / b16 ^ k + y / b16 ^ k + bw x y k = x / b16 ^ k := by
  have hp : 0 < b16 ^ k := Nat.pow_pos (by decide)
  have e1 := Nat.div_add_mod x (b16 ^ k)
  have e2 := Nat.div_add_mod y (b16 ^ k)
  have l1 := Nat.mod_lt x hp
  have l2 := Nat.mod_lt y hp
  unfold bw
  generalize b16 ^ k = P at *
  generalize x % P = a at *
  generalize y % P = a' at *
  generalize x / P = X at *
  generalize y / P = Y at *
  by_cases hb : a < a'
  · rw [if_pos hb]
    have hXY : Y + 1 ≤ X := by
      rcases Nat.lt_or_ge Y X with h1 | h1
      · exact h1
      · have := Nat.mul_le_mul_left P h1; omega
    obtain ⟨Z, rfl⟩ := Nat.le.dest hXY
    have e3 : P * (Y + 1 + Z) = P * Y + P + P * Z := by rw [Nat.mul_add, Nat.mul_add, Nat.mul_one]
    have e4 : x - y = (P + a - a') + P * Z := by omega
    rw [e4, Nat.add_mul_div_left _ _ hp, Nat.div_eq_of_lt (by omega)]
    omega
  · rw [if_neg hb]
    have hXY : Y ≤ X := by
      rcases Nat.lt_or_ge X Y with h1 | h1
      · have := Nat.mul_le_mul_left P (show X + 1 ≤ Y from h1)
        rw [Nat.mul_add, Nat.mul_one] at this
        omega
      · exact h1
    obtain ⟨Z, rfl⟩ := Nat.le.dest hXY
    have e3 : P * (Y + Z) = P * Y + P * Z := Nat.mul_add ..
    have e4 : x - y = (a - a') + P * Z := by omega
    rw [e4, Nat.add_mul_div_left _ _ hp, Nat.div_eq_of_lt (by omega)]
    omega
theorem bw_step {x y : Nat} (h : y ≤ x) (k : Nat) : bw x y (k + 1) = 1 - (65536 + dgt b16 x k - bw x y k - dgt b16 y k) / 65536 ∧ dgt b16 (x - y) k = (65536 + dgt b16 x k - bw x y k - dgt b16 y k) % 65536 := by
  have hd := bw_div (k := k) h
  have hd1 := bw_div (k := k + 1) h
  have hb := bw_le x y k
  have hb1 := bw_le x y (k + 1)
  rw [Nat.pow_succ, ← Nat.div_div_eq_div_mul, ← Nat.div_div_eq_div_mul, ← Nat.div_div_eq_div_mul] at hd1
  unfold dgt
  generalize (x - y) / b16 ^ k = Z at *
  generalize x / b16 ^ k = X at *
  generalize y / b16 ^ k = Y at *
  generalize bw x y k = b at *
  generalize bw x y (k + 1) = b' at *
  have hd2 : Z / 65536 + Y / 65536 + b' = X / 65536 := hd1
  clear hd1
  show b' = 1 - (65536 + X % 65536 - b - Y % 65536) / 65536 ∧ Z % 65536 = (65536 + X % 65536 - b - Y % 65536) % 65536
  have h1 := Nat.mod_lt X (show 0 < 65536 by decide)
  have h2 := Nat.mod_lt Y (show 0 < 65536 by decide)
  have h3 := Nat.mod_lt Z (show 0 < 65536 by decide)
  have f1 := Nat.div_add_mod X 65536
  have f2 := Nat.div_add_mod Y 65536
  have f3 := Nat.div_add_mod Z 65536
  generalize X % 65536 = dx at *
  generalize Y % 65536 = dy at *
  generalize Z % 65536 = dz at *
  generalize X / 65536 = X1 at *
  generalize Y / 65536 = Y1 at *
  generalize Z / 65536 = Z1 at *
  rcases Nat.lt_or_ge dx (dy + b) with hlt | hge
  · have hq : (65536 + dx - b - dy) / 65536 = 0 := Nat.div_eq_of_lt (by omega)
    rw [hq, Nat.mod_eq_of_lt (show 65536 + dx - b - dy < 65536 by omega)]
    omega
  · have hq : (65536 + dx - b - dy) / 65536 = 1 := by omega
    rw [hq, show 65536 + dx - b - dy = 65536 + (dx - b - dy) by omega, Nat.add_mod_left, Nat.mod_eq_of_lt (show dx - b - dy < 65536 by omega)]
    omega

set_option linter.unusedSimpArgs false in
set_option maxRecDepth 100000 in
set_option maxHeartbeats 2000000 in
theorem rminus_any (A B : Option Addr) (c d x y : Nat) (w : World) (hA : Num16 w A x) (hB : Num16 w B y) (la : ln b16 x ≤ 1000000) (hxy : y ≤ x) :
    Calls Tryz.prog 143 #[.slice A (ln b16 x) c, .slice B (ln b16 y) d] w fun e w' => ∃ A' c', e = .returned (.slice A' (ln b16 (x - y)) c') ∧ Num16 w' A' (x - y) ∧ (∀ p, A' = some p → w.heap.size ≤ p.block) ∧ Below w.heap.size w w' := by
  have HA := Lib.hid hA
  have HB := Lib.hid hB
  have hlx := lt_pow_ln b16_two x
  have hlb : ln b16 y ≤ ln b16 x := ln_mono b16_two hxy
  have HL := Lib.hid hlx
  have HXY := Lib.hid hxy
  clear hA hB hlx hxy
  obtain ⟨N, hN⟩ : ∃ N, N = ln b16 x := ⟨_, rfl⟩
  have hNl : N ≤ 1000000 := by omega
  have HN := Lib.hid hN
  rw [← hN] at hlb ⊢
  clear hN la
  obtain ⟨i0, hi, hz0, hz1, hz2⟩ := info_parts info_u16
  go_enter Tryz.func143, Tryz.ntmps143
  go_wp2_with fail
  go_loopw [5, 6, 7] (fun v u i wr => ∃ k, i = .int .i64 ((k : Nat) : Int) ∧ u = .int .i64 ((bw x y k : Nat) : Int) ∧ k ≤ N ∧ Hid (lenV v = k) ∧ wr.ownsRow w.heap.size 116 1 v k (nums .u16 k (dgt b16 (x - y))) ∧ Below w.heap.size w wr) (fun v _ _ _ => N - lenV v)
  case atStart => exact ⟨0, rfl, by rw [bw_zero]; rfl, Nat.zero_le _, Lib.hid rfl, World.ownsRow_nil .., Below.refl _ _⟩
  case round =>
    obtain ⟨k, rfl, rfl, hk, hlv, hown, hbl⟩ := hrel
    have hbw := bw_le x y k
    by_cases hk9 : k < N
    · have hcs := bw_step HXY.out k
      have HC := Lib.hid hcs
      obtain ⟨q, hq⟩ : ∃ q, q = bw x y k := ⟨_, rfl⟩
      rw [← hq] at hbw ⊢
      have HQ := Lib.hid hq
      have hdx := dgt16_lt x k
      have hdy := dgt16_lt y k
      clear hcs hq
      have t0 : decide ((k : Int) < (N : Int)) = true := decide_eq_true (by omega)
      obtain ⟨p, o, rfl, hp, hca⟩ := (Num16.below HA.out hbl) (by rw [← HN.out]; omega)
      have c1 := hca k (by rw [← HN.out]; omega)
      have t2 : (k : Int) < (N : Int) := by omega
      have o1 : IntKind.i64.wrap ((dgt b16 x k : Nat) : Int) = ((dgt b16 x k : Nat) : Int) := by rw [IntKind.wrap_i64]; omega
      have o2 : IntKind.i64.wrap (65536 + ((dgt b16 x k : Nat) : Int)) = 65536 + ((dgt b16 x k : Nat) : Int) := by rw [IntKind.wrap_i64]; omega
      have o4 : IntKind.i64.wrap (65536 + ((dgt b16 x k : Nat) : Int) - (q : Int)) = ((65536 + dgt b16 x k - q : Nat) : Int) := by rw [IntKind.wrap_i64]; omega
      clear hca
      go_upto_if 26 with (fail)
      have hM : 65536 + dgt b16 x k - q ≤ 131071 ∧ 65535 ≤ 65536 + dgt b16 x k - q := by omega
      obtain ⟨M, hMe⟩ : ∃ M, M = 65536 + dgt b16 x k - q := ⟨_, rfl⟩
      rw [← hMe] at o4 hM ⊢
      have HM := Lib.hid hMe
      clear hMe o2 c1 o1
      go_cut [8] from 26 to 33 (fun v wx => v = .int .i64 ((M - dgt b16 y k : Nat) : Int) ∧ wx = wr)
      case first =>
        rcases Nat.lt_or_ge k (ln b16 y) with h1 | h1
        · obtain ⟨p2, o2, rfl, hp2, hca⟩ := (Num16.below HB.out hbl) (by omega)
          have c1 := hca k h1
          have t1 : decide (k < ln b16 y) = true := decide_eq_true h1
          have t3 : (k : Int) < ((ln b16 y : Nat) : Int) := by omega
          have o1 : IntKind.i64.wrap ((dgt b16 y k : Nat) : Int) = ((dgt b16 y k : Nat) : Int) := by rw [IntKind.wrap_i64]; omega
          have o5 : IntKind.i64.wrap ((M : Int) - ((dgt b16 y k : Nat) : Int)) = ((M - dgt b16 y k : Nat) : Int) := by rw [IntKind.wrap_i64]; omega
          clear hca
          go_wp2_with fail
          go_meet
          exact ⟨by first | rfl | (congr 1; omega), rfl⟩
        · have t1 : decide (k < ln b16 y) = false := decide_eq_false (by omega)
          have HZ := Lib.hid (dgt_over h1)
          go_wp2_with fail
          go_meet
          exact ⟨by rw [HZ.out]; rfl, rfl⟩
      case rest =>
      obtain ⟨rfl, rfl⟩ := hcut
      obtain ⟨T, hT⟩ : ∃ T, T = M - dgt b16 y k := ⟨_, rfl⟩
      rw [← hT]
      have hTl : T ≤ 131071 := by omega
      have e1 : bw x y (k + 1) = 1 - T / 65536 := by rw [HC.out.1, ← HQ.out, ← HM.out, ← hT]
      have e2 : dgt b16 (x - y) k = T % 65536 := by rw [HC.out.2, ← HQ.out, ← HM.out, ← hT]
      have hT2 : T / 65536 ≤ 1 := by omega
      clear hT hdx hdy o4 hM
      have t5 : (T : Int).tmod 65536 = ((dgt b16 (x - y) k : Nat) : Int) := by rw [Int.tmod_eq_emod_of_nonneg (by omega), e2]; omega
      have t6 : (T : Int).tdiv 65536 = ((T / 65536 : Nat) : Int) := by rw [Int.tdiv_eq_ediv_of_nonneg (by omega)]; omega
      have t7 : IntKind.i64.wrap (1 - ((T / 65536 : Nat) : Int)) = ((bw x y (k + 1) : Nat) : Int) := by rw [IntKind.wrap_i64, e1]; omega
      have t8 : IntKind.i64.wrap ((T / 65536 : Nat) : Int) = ((T / 65536 : Nat) : Int) := by rw [IntKind.wrap_i64]; omega
      have t9 : (1 : Int) - (T : Int) / 65536 = ((bw x y (k + 1) : Nat) : Int) := by rw [e1]; omega
      have hdl := dgt16_lt (x - y) k
      clear e1 e2
      have o3 : IntKind.u16.wrap ((dgt b16 (x - y) k : Nat) : Int) = ((dgt b16 (x - y) k : Nat) : Int) := by rw [IntKind.wrap_u16]; omega
      have hsz := hbl.size
      go_wp2_with (at_builtin; refine wpList_append_own _ rfl _ _ 25 rfl w.heap.size 116 i0 (.int .u16 0) 1 2 Tryz.underlying25 hi hz0 hz1 hz2 rfl (by decide) _ _ _ rfl (hown.alloc _) ⟨wc.heap.size, 0, none⟩ 1 1 [.int .u16 ((dgt b16 (x - y) k : Nat) : Int)] rfl rfl (cell_one_new _ _ _) (by simp [Value.oneCell']) (by unfold maxLen; omega) (by omega) (by simp; omega) ?_; intro v' w5 hown5 hgrow _; obtain ⟨g', cap', rfl⟩ := ownsRow_succ hown5)
      go_roundw
      case rel =>
        rw [nums_succ] at hown5
        exact ⟨k + 1, rfl, by first | rfl | (congr 1; first | exact t7 | exact t9), by omega, Lib.hid rfl, hown5, (hbl.alloc hsz (.cells #[.int .u16 ((dgt b16 (x - y) k : Nat) : Int)] 116)).grown hgrow (by simp; omega) (fun g hg => (hown.lt g hg).1)⟩
      case measure =>
        show N - (k + 1) < N - lenV u5
        rw [hlv.out]
        omega
    · obtain rfl : k = N := by omega
      obtain ⟨A', c', rfl, hcc, hrow⟩ := RowO.of_own hown
      have hvs : vs b16 (dgt b16 (x - y)) k = x - y := vs_dgt_lt (Nat.lt_of_le_of_lt (Nat.sub_le x y) (by rw [HN.out]; exact HL.out))
      have hc := rtrim_any wr.heap.size A' k c' (dgt b16 (x - y)) wr hrow.rd (fun i _ => dgt16_lt _ i) hcc (by omega)
      rw [hvs] at hc
      have HC := Lib.hid hc
      clear hc hvs
      go_wp2_with fail
      refine HC.out.mono ?_
      rintro e w5 ⟨rfl, rfl⟩
      go_wp2_with fail
      go_ret
      refine ⟨A', c', rfl, ?_, fun p hp => by subst hp; exact (hown.lt _ rfl).1, hbl⟩
      have hln : ln b16 (x - y) ≤ k := by
        have := ln_mono b16_two (Nat.sub_le x y)
        rw [← HN.out] at this
        exact this
      exact fun hn => by
        obtain ⟨b, o, e, h1, h2⟩ := hrow.rd (by omega)
        exact ⟨b, o, e, h1, fun i hi => h2 i (by omega)⟩
end Go.Proofs.YtmjlankpihnicaaGreat
