/-
  Several texts in one: The order of upwards; what frac.Round asks. The walks of the laws' helpers over fractions: quick, is, sum, product, less, over, equal. The laws' short and usable of layer 02. Lengths of sums and products; usable at one, two and three fractions. The order of fractions, in plain words. The value of a decimal numeral. The walk of whole.timesShort. The walk of whole.Parse. The walks of frac.Parse at two texts that are not in lowest terms. The walk of frac.Div at a divisor that is 0. whole.Valid at any length; whole.Int at what is no number and at numbers of more than four limbs.
-/
import Derived.Test.YtifikcemcflgjaaGreatK8
import Derived.Deep.CutRange
import Derived.Test.YtifikcemcflgjaaGreatK1
import Derived.Lib.ItoaNum
import Derived.Test.YtifikcemcflgjaaGreatK4
import Derived.WalkSpells
import Derived.TacticsInMore
namespace Go.Proofs.YtifikcemcflgjaaGreat
open Go.RowKit

def botQ (a b : Rat) : Int := (a.den : Int) * b.num
def topQ (a b : Rat) : Int := a.num * (b.den : Int)
def kQ (a b : Rat) : Int := (topQ a b).fdiv (botQ a b)
def rQ (a b : Rat) : Int := (topQ a b).fmod (botQ a b)
def oddQ (a b : Rat) : Bool := (kQ a b).natAbs % 2 == 1
/-- Whether a is rounded up in the unit b. -/
def upQ (m : Nat) (a b : Rat) : Bool := upB m (decide (a.num < 0)) (oddQ a b) (cmpZ (rQ a b + rQ a b) (botQ a b))
/-- The number of units to which a is rounded. -/
def roundZ (m : Nat) (a b : Rat) : Int := if rQ a b = 0 then kQ a b else if upQ m a b then kQ a b + 1 else kQ a b
theorem fmod_len {a b : Int} {k : Nat} (hb : ln b16 b.natAbs ≤ k) (h0 : 0 < b) : ln b16 (a.fmod b).natAbs ≤ k := by
  refine Nat.le_trans (ln_mono b16_two ?_) hb
  have h1 := Int.fmod_nonneg_of_pos a h0
  have h2 := Int.fmod_lt_of_pos a h0
  omega
theorem fdiv_len2 {a b : Int} {k : Nat} (ha : ln b16 a.natAbs ≤ k) (hk : 1 ≤ k) : ln b16 (a.fdiv b).natAbs ≤ k + 1 := by
  refine Nat.le_trans (ln_mono b16_two (show (a.fdiv b).natAbs ≤ a.natAbs + 1 from ?_)) (ln_add b16_two (m := k) ha ((ln_le b16_two).2 (Nat.lt_of_lt_of_le (by decide) (Nat.pow_le_pow_right (by decide) hk))))
  have h1 := Int.natAbs_ediv_le_natAbs a b
  rw [Int.fdiv_eq_ediv]
  split <;> omega
theorem limb_zero {w : World} {z : Int} {s : Bool} {A : Option Addr} {n : Nat} (h : WV w z s A n) (h0 : 0 < n) : ∃ b o d, A = some ⟨b, o, none⟩ ∧ b < w.heap.size ∧ w.cell? ⟨b, o, none⟩ = some (.int .u16 ((d : Nat) : Int)) ∧ d % 2 = z.natAbs % 2 := by
  obtain ⟨hs, hl, hr⟩ := h
  obtain ⟨b, o, e, hb, hc⟩ := hr (by omega)
  have c1 := hc 0 (by omega)
  rw [Nat.add_zero] at c1
  refine ⟨b, o, dgt b16 z.natAbs 0, e, hb, c1, ?_⟩
  unfold dgt
  rw [Nat.pow_zero, Nat.div_one]
  exact Nat.mod_mod_of_dvd _ (by decide)
set_option linter.unusedSimpArgs false in
set_option maxRecDepth 100000 in
set_option maxHeartbeats 2000000 in
theorem ftneg_v {q : Rat} {s t : Bool} {A B : Option Addr} {n m c d : Nat} {w : World} (ha : FV w q s A n t B m) :
    Calls Tryz.prog 56 #[.agg #[.bool s, .slice A n c, .bool t, .slice B m d]] w (fun e w' => e = .returned (.bool s) ∧ Below w.heap.size w w') := by
  have hE := ((Env.start w).fv ha).blk 65 #[.bool s, .slice A n c, .bool t, .slice B m d] (g := w.heap.size) rfl
  obtain ⟨W0, hW0⟩ : ∃ W0, W0 = (w.alloc (.cells #[.bool s, .slice A n c, .bool t, .slice B m d] 65)) := ⟨_, rfl⟩
  rw [← hW0] at hE
  have HW0 := Lib.hid hW0
  clear hW0
  go_enter Tryz.func56, Tryz.ntmps56
  go_upto_region 1 with (fail)
  rw [← HW0.out]
  obtain ⟨k1, k2, k3, k4⟩ := (hE.here.2).c4
  go_wp2_with fail
  go_ret
  exact ⟨rfl, hE.bel⟩
theorem run_store_fn {P : Program} {w : World} {a : Addr} {m : Mode} (f : Fn) (x y : Array Value) : (store a (.func f x y) m).run P w = stored P w a (.func f x y) m := run_store P w a _ m rfl
attribute [local go_sem] run_store_fn
set_option linter.unusedSimpArgs false in
set_option maxRecDepth 100000 in
theorem upwards_v (w : World) : Calls Tryz.prog 61 #[] w fun e w' => e = .returned (.agg #[.func (.func 96) #[] #[], .func (.func 97) #[] #[], .func (.func 98) #[] #[], .func (.func 99) #[] #[], .func (.func 100) #[] #[], .func (.func 101) #[] #[]]) ∧ Below w.heap.size w w' := by
  have hB := Blk.new w 73 #[.nilFunc, .nilFunc, .nilFunc, .nilFunc, .nilFunc, .nilFunc]
  have hb : Below w.heap.size w (w.alloc (.cells #[.nilFunc, .nilFunc, .nilFunc, .nilFunc, .nilFunc, .nilFunc] 73)) := (Below.refl _ w).alloc (Nat.le_refl _) _
  obtain ⟨W0, hW0⟩ : ∃ W0, W0 = w.alloc (.cells #[.nilFunc, .nilFunc, .nilFunc, .nilFunc, .nilFunc, .nilFunc] 73) := ⟨_, rfl⟩
  rw [← hW0] at hB hb
  have HW0 := Lib.hid hW0
  clear hW0
  go_enter Tryz.func61, Tryz.ntmps61
  go_upto_region 1 with (fail)
  rw [← HW0.out]
  have k0 := hB.cell 0
  have z0 := hB.frozen 0
  have k1 := hB.cell 1
  have z1 := hB.frozen 1
  have k2 := hB.cell 2
  have z2 := hB.frozen 2
  have k3 := hB.cell 3
  have z3 := hB.frozen 3
  have k4 := hB.cell 4
  have z4 := hB.frozen 4
  have k5 := hB.cell 5
  have z5 := hB.frozen 5
  go_wp2_with fail
  have hB2 := ((((((hB.set_ 0 (.func (.func 96) #[] #[])).set_ 1 (.func (.func 97) #[] #[])).set_ 2 (.func (.func 98) #[] #[])).set_ 3 (.func (.func 99) #[] #[])).set_ 4 (.func (.func 100) #[] #[])).set_ 5 (.func (.func 101) #[] #[]))
  clear k0 z0 k1 z1 k2 z2 k3 z3 k4 z4 k5 z5
  have y0 := hB2.cell 0
  have y1 := hB2.cell 1
  have y2 := hB2.cell 2
  have y3 := hB2.cell 3
  have y4 := hB2.cell 4
  have y5 := hB2.cell 5
  simp at y0 y1 y2 y3 y4 y5
  refine bodyPost_ret (v := .agg #[.func (.func 96) #[] #[], .func (.func 97) #[] #[], .func (.func 98) #[] #[], .func (.func 99) #[] #[], .func (.func 100) #[] #[], .func (.func 101) #[] #[]]) (by simp [results, Tryz.results61, go_sem, y0, y1, y2, y3, y4, y5]) rfl ?_
  exact ⟨rfl, ((((((hb.setCell (p := ⟨w.heap.size, 0, none⟩) (Nat.le_refl _) (.func (.func 96) #[] #[])).setCell (p := ⟨w.heap.size, 1, none⟩) (Nat.le_refl _) (.func (.func 97) #[] #[])).setCell (p := ⟨w.heap.size, 2, none⟩) (Nat.le_refl _) (.func (.func 98) #[] #[])).setCell (p := ⟨w.heap.size, 3, none⟩) (Nat.le_refl _) (.func (.func 99) #[] #[])).setCell (p := ⟨w.heap.size, 4, none⟩) (Nat.le_refl _) (.func (.func 100) #[] #[])).setCell (p := ⟨w.heap.size, 5, none⟩) (Nat.le_refl _) (.func (.func 101) #[] #[]))⟩
theorem Blk.s3 {w : World} {t : TypeId} {g : Nat} {a b c : Value} (h : Blk t g #[a, b, c] w) (a' b' c' : Value) : Blk t g #[a', b', c'] (((w.setCell ⟨g, 0, none⟩ a').setCell ⟨g, 1, none⟩ b').setCell ⟨g, 2, none⟩ c') := by
  have := ((h.set_ 0 a').set_ 1 b').set_ 2 c'
  simpa using this
theorem At.off {w : World} {b o : Nat} {v : Value} (h : At b o v w) {p : Addr} (hp : b ≠ p.block) (u : Value) : At b o v (w.setCell p u) := by
  refine ⟨?_, ?_⟩
  · rw [World.size_setCell]; exact h.1
  · rw [World.cell?_setCell_other w _ _ u (fun e => hp (congrArg Addr.block e).symm)]; exact h.2
theorem At.far2 {w : World} {b o R : Nat} {v : Value} (h : At b o v w) (hp : b ≠ R) (a c : Value) : At b o v ((w.setCell ⟨R, 0, none⟩ a).setCell ⟨R, 1, none⟩ c) := (h.off (p := ⟨R, 0, none⟩) hp a).off (p := ⟨R, 1, none⟩) hp c
theorem At.far3 {w : World} {b o R : Nat} {v : Value} (h : At b o v w) (hp : b ≠ R) (a c d : Value) : At b o v (((w.setCell ⟨R, 0, none⟩ a).setCell ⟨R, 1, none⟩ c).setCell ⟨R, 2, none⟩ d) := (h.far2 hp a c).off (p := ⟨R, 2, none⟩) hp d
theorem At.far4 {w : World} {b o R : Nat} {v : Value} (h : At b o v w) (hp : b ≠ R) (a c d e : Value) : At b o v ((((w.setCell ⟨R, 0, none⟩ a).setCell ⟨R, 1, none⟩ c).setCell ⟨R, 2, none⟩ d).setCell ⟨R, 3, none⟩ e) := (h.far3 hp a c d).off (p := ⟨R, 3, none⟩) hp e
theorem At.apart {w : World} {b o g : Nat} {T : TypeId} {cs : Array Value} {d : Int} (h : At b o (.int .u16 d) w) (hW : Blk T g cs w) (hn : cs.toList.all noLimb = true) : b ≠ g := fun e => by
  subst e
  have h1 := h.2
  rw [hW.cell] at h1
  have h2 := List.all_eq_true.1 hn _ (Array.mem_toList_iff.2 (Array.mem_of_getElem? h1))
  cases h2
theorem Env.atI {w W : World} {P : World → Prop} {b o : Nat} {v : Value} (h : Env w P W) (ha : At b o v W) : Env w (fun V => P V ∧ At b o v V) W := h.and (At.stable b o v) ha
theorem Blk.far3 {w : World} {t : TypeId} {g R : Nat} {cs : Array Value} (h : Blk t g cs w) (hp : g ≠ R) (a b c : Value) : Blk t g cs (((w.setCell ⟨R, 0, none⟩ a).setCell ⟨R, 1, none⟩ b).setCell ⟨R, 2, none⟩ c) := (h.far2 hp a b).far (p := ⟨R, 2, none⟩) hp c
theorem WV.sep3 {w : World} {z : Int} {s : Bool} {A : Option Addr} {n g : Nat} {T : TypeId} {x y u : Value} (h : WV w z s A n) (hW : Blk T g #[x, y, u] w) (hn : [x, y, u].all noLimb = true) (a b c : Value) (ha : noLimb a = true) (hb : noLimb b = true) :
    WV (((w.setCell ⟨g, 0, none⟩ a).setCell ⟨g, 1, none⟩ b).setCell ⟨g, 2, none⟩ c) z s A n := by
  simp only [List.all_cons, List.all_nil, Bool.and_true, Bool.and_eq_true] at hn
  refine ((h.sep hW ?_ a).sep (hW.set_ 0 a) ?_ b).sep ((hW.set_ 0 a).set_ 1 b) ?_ c
  · show (noLimb x && (noLimb y && (noLimb u && true))) = true
    rw [hn.1, hn.2.1, hn.2.2]; rfl
  · show (noLimb a && (noLimb y && (noLimb u && true))) = true
    rw [ha, hn.2.1, hn.2.2]; rfl
  · show (noLimb a && (noLimb b && (noLimb u && true))) = true
    rw [ha, hb, hn.2.2]; rfl
theorem FV.sep3 {w : World} {q : Rat} {s t : Bool} {A B : Option Addr} {n m g : Nat} {T : TypeId} {x y u : Value} (h : FV w q s A n t B m) (hW : Blk T g #[x, y, u] w) (hn : [x, y, u].all noLimb = true) (a b c : Value) (ha : noLimb a = true) (hb : noLimb b = true) :
    FV (((w.setCell ⟨g, 0, none⟩ a).setCell ⟨g, 1, none⟩ b).setCell ⟨g, 2, none⟩ c) q s A n t B m := ⟨h.1.sep3 hW hn a b c ha hb, h.2.sep3 hW hn a b c ha hb⟩
theorem bel3 {w W : World} {g : Nat} (h : Below w.heap.size w W) (hg : w.heap.size ≤ g) (a b c : Value) : Below w.heap.size w (((W.setCell ⟨g, 0, none⟩ a).setCell ⟨g, 1, none⟩ b).setCell ⟨g, 2, none⟩ c) := (bel2 h hg a b).setCell (p := ⟨g, 2, none⟩) hg _
end Go.Proofs.YtifikcemcflgjaaGreat
namespace Go.Proofs.YtifikcemcflgjaaGreat
open Go.RowKit

theorem fl_one2 : fl 1 ≤ 256 := by rw [fl_le]; exact ⟨by decide, by decide⟩
set_option linter.unusedSimpArgs false in
set_option maxRecDepth 100000 in
set_option maxHeartbeats 2000000 in
theorem lw_sum {a b : Rat} {sa ta sb tb : Bool} {Aa Ba Ab Bb : Option Addr} {na ca ma da nb cb mb db : Nat} {w : World} (ha : FV w a sa Aa na ta Ba ma) (hb : FV w b sb Ab nb tb Bb mb) (la : fl a ≤ 256) (lb : fl b ≤ 256) (lr : fl (a + b) ≤ 256) :
    Calls Tryz.prog 34 #[.agg #[.bool sa, .slice Aa na ca, .bool ta, .slice Ba ma da], .agg #[.bool sb, .slice Ab nb cb, .bool tb, .slice Bb mb db]] w (FR (a + b) w) := by
  have hE := ((((Env.start w).fv ha).fv hb).blk 26 #[.bool sa, .slice Aa na ca, .bool ta, .slice Ba ma da] (g := w.heap.size) rfl).blk 26 #[.bool sb, .slice Ab nb cb, .bool tb, .slice Bb mb db] (g := w.heap.size + 1) (by simp)
  have hE := hE.blk 26 #[.bool false, .slice none 0 0, .bool false, .slice none 0 0] (g := w.heap.size + 1 + 1) (by simp)
  obtain ⟨W0, hW0⟩ : ∃ W0, W0 = (((w.alloc (.cells #[.bool sa, .slice Aa na ca, .bool ta, .slice Ba ma da] 26)).alloc (.cells #[.bool sb, .slice Ab nb cb, .bool tb, .slice Bb mb db] 26)).alloc (.cells #[.bool false, .slice none 0 0, .bool false, .slice none 0 0] 26)) := ⟨_, rfl⟩
  rw [← hW0] at hE
  have HW0 := Lib.hid hW0
  clear hW0
  go_enter Tryz.func34, Tryz.ntmps34
  go_upto_region 1 with (fail)
  rw [← HW0.out]
  obtain ⟨k1, k2, k3, k4⟩ := (hE.here.1.1.2).c4
  obtain ⟨k5, k6, k7, k8⟩ := (hE.here.1.2).c4
  go_wp2_with fail
  have hc := fadd_v (ca := ca) (da := da) (cb := cb) (db := db) hE.here.1.1.1.1.2 hE.here.1.1.1.2 la lb lr
  refine hc.mono ?_
  clear hc
  clear k1 k2 k3 k4 k5 k6 k7 k8
  rintro e w9 ⟨sr, Ar, nr, cr, tr, Br, mr, dr, rfl, hr, hb⟩
  replace hE := hE.step hb
  clear hb
  replace hE := hE.fv hr
  clear hr
  go_upto_region 2 with (fail)
  obtain ⟨g10, hg10⟩ : ∃ g10, g10 = w9.heap.size := ⟨_, rfl⟩
  have hl10_2 : w.heap.size < g10 := by rw [hg10]; exact (hE.here.1.1.1.2).lt
  have hl10_3 : w.heap.size + 1 < g10 := by rw [hg10]; exact (hE.here.1.1.2).lt
  have hl10_4 : w.heap.size + 1 + 1 < g10 := by rw [hg10]; exact (hE.here.1.2).lt
  replace hE := hE.blk 26 #[.bool sr, .slice Ar nr cr, .bool tr, .slice Br mr dr] (g := g10) hg10.symm
  generalize w9.alloc (.cells #[.bool sr, .slice Ar nr cr, .bool tr, .slice Br mr dr] 26) = W10 at hE ⊢
  rw [← hg10]
  clear hg10
  obtain ⟨k11, k12, k13, k14⟩ := (hE.here.2).c4
  have hRl : w.heap.size ≤ w.heap.size + 1 + 1 := by omega
  obtain ⟨WW, hWW, hB, hV, hBel⟩ := ret_frac hE hE.here.1.1.2 hRl hE.here.1.2 cr dr
  obtain ⟨x0, x1, x2, x3⟩ := (hE.here.1.1.2).c4
  obtain ⟨fz0, fz1, fz2, fz3⟩ := hE.here.1.1.2.f4
  have HWW := Lib.hid hWW
  clear hWW
  go_wp2_with fail
  clear k11 k12 k13 k14
  rw [← HWW.out]
  obtain ⟨y0, y1, y2, y3⟩ := hB.c4
  refine bodyPost_ret (v := .agg #[.bool sr, .slice Ar nr cr, .bool tr, .slice Br mr dr]) (by simp [results, Tryz.results34, go_sem, y0, y1, y2, y3]) rfl ?_
  exact ⟨sr, Ar, nr, cr, tr, Br, mr, dr, rfl, hV, hBel⟩
set_option linter.unusedSimpArgs false in
set_option maxRecDepth 100000 in
set_option maxHeartbeats 2000000 in
theorem lw_product {a b : Rat} {sa ta sb tb : Bool} {Aa Ba Ab Bb : Option Addr} {na ca ma da nb cb mb db : Nat} {w : World} (ha : FV w a sa Aa na ta Ba ma) (hb : FV w b sb Ab nb tb Bb mb) (la : fl a ≤ 256) (lb : fl b ≤ 256) (lr : fl (a * b) ≤ 256) :
    Calls Tryz.prog 31 #[.agg #[.bool sa, .slice Aa na ca, .bool ta, .slice Ba ma da], .agg #[.bool sb, .slice Ab nb cb, .bool tb, .slice Bb mb db]] w (FR (a * b) w) := by
  have hE := ((((Env.start w).fv ha).fv hb).blk 26 #[.bool sa, .slice Aa na ca, .bool ta, .slice Ba ma da] (g := w.heap.size) rfl).blk 26 #[.bool sb, .slice Ab nb cb, .bool tb, .slice Bb mb db] (g := w.heap.size + 1) (by simp)
  have hE := hE.blk 26 #[.bool false, .slice none 0 0, .bool false, .slice none 0 0] (g := w.heap.size + 1 + 1) (by simp)
  obtain ⟨W0, hW0⟩ : ∃ W0, W0 = (((w.alloc (.cells #[.bool sa, .slice Aa na ca, .bool ta, .slice Ba ma da] 26)).alloc (.cells #[.bool sb, .slice Ab nb cb, .bool tb, .slice Bb mb db] 26)).alloc (.cells #[.bool false, .slice none 0 0, .bool false, .slice none 0 0] 26)) := ⟨_, rfl⟩
  rw [← hW0] at hE
  have HW0 := Lib.hid hW0
  clear hW0
  go_enter Tryz.func31, Tryz.ntmps31
  go_upto_region 1 with (fail)
  rw [← HW0.out]
  obtain ⟨k1, k2, k3, k4⟩ := (hE.here.1.1.2).c4
  obtain ⟨k5, k6, k7, k8⟩ := (hE.here.1.2).c4
  go_wp2_with fail
  have hc := fmul_v (ca := ca) (da := da) (cb := cb) (db := db) hE.here.1.1.1.1.2 hE.here.1.1.1.2 la lb lr
  refine hc.mono ?_
  clear hc
  clear k1 k2 k3 k4 k5 k6 k7 k8
  rintro e w9 ⟨sr, Ar, nr, cr, tr, Br, mr, dr, rfl, hr, hb⟩
  replace hE := hE.step hb
  clear hb
  replace hE := hE.fv hr
  clear hr
  go_upto_region 2 with (fail)
  obtain ⟨g10, hg10⟩ : ∃ g10, g10 = w9.heap.size := ⟨_, rfl⟩
  have hl10_2 : w.heap.size < g10 := by rw [hg10]; exact (hE.here.1.1.1.2).lt
  have hl10_3 : w.heap.size + 1 < g10 := by rw [hg10]; exact (hE.here.1.1.2).lt
  have hl10_4 : w.heap.size + 1 + 1 < g10 := by rw [hg10]; exact (hE.here.1.2).lt
  replace hE := hE.blk 26 #[.bool sr, .slice Ar nr cr, .bool tr, .slice Br mr dr] (g := g10) hg10.symm
  generalize w9.alloc (.cells #[.bool sr, .slice Ar nr cr, .bool tr, .slice Br mr dr] 26) = W10 at hE ⊢
  rw [← hg10]
  clear hg10
  obtain ⟨k11, k12, k13, k14⟩ := (hE.here.2).c4
  have hRl : w.heap.size ≤ w.heap.size + 1 + 1 := by omega
  obtain ⟨WW, hWW, hB, hV, hBel⟩ := ret_frac hE hE.here.1.1.2 hRl hE.here.1.2 cr dr
  obtain ⟨x0, x1, x2, x3⟩ := (hE.here.1.1.2).c4
  obtain ⟨fz0, fz1, fz2, fz3⟩ := hE.here.1.1.2.f4
  have HWW := Lib.hid hWW
  clear hWW
  go_wp2_with fail
  clear k11 k12 k13 k14
  rw [← HWW.out]
  obtain ⟨y0, y1, y2, y3⟩ := hB.c4
  refine bodyPost_ret (v := .agg #[.bool sr, .slice Ar nr cr, .bool tr, .slice Br mr dr]) (by simp [results, Tryz.results31, go_sem, y0, y1, y2, y3]) rfl ?_
  exact ⟨sr, Ar, nr, cr, tr, Br, mr, dr, rfl, hV, hBel⟩
set_option linter.unusedSimpArgs false in
set_option maxRecDepth 100000 in
set_option maxHeartbeats 2000000 in
theorem lw_less {a b : Rat} {sa ta sb tb : Bool} {Aa Ba Ab Bb : Option Addr} {na ca ma da nb cb mb db : Nat} {w : World} (ha : FV w a sa Aa na ta Ba ma) (hb : FV w b sb Ab nb tb Bb mb) (la : fl a ≤ 256) (lb : fl b ≤ 256) (lr : fl (a - b) ≤ 256) :
    Calls Tryz.prog 33 #[.agg #[.bool sa, .slice Aa na ca, .bool ta, .slice Ba ma da], .agg #[.bool sb, .slice Ab nb cb, .bool tb, .slice Bb mb db]] w (FR (a - b) w) := by
  have hE := ((((Env.start w).fv ha).fv hb).blk 26 #[.bool sa, .slice Aa na ca, .bool ta, .slice Ba ma da] (g := w.heap.size) rfl).blk 26 #[.bool sb, .slice Ab nb cb, .bool tb, .slice Bb mb db] (g := w.heap.size + 1) (by simp)
  have hE := hE.blk 26 #[.bool false, .slice none 0 0, .bool false, .slice none 0 0] (g := w.heap.size + 1 + 1) (by simp)
  obtain ⟨W0, hW0⟩ : ∃ W0, W0 = (((w.alloc (.cells #[.bool sa, .slice Aa na ca, .bool ta, .slice Ba ma da] 26)).alloc (.cells #[.bool sb, .slice Ab nb cb, .bool tb, .slice Bb mb db] 26)).alloc (.cells #[.bool false, .slice none 0 0, .bool false, .slice none 0 0] 26)) := ⟨_, rfl⟩
  rw [← hW0] at hE
  have HW0 := Lib.hid hW0
  clear hW0
  go_enter Tryz.func33, Tryz.ntmps33
  go_upto_region 1 with (fail)
  rw [← HW0.out]
  obtain ⟨k1, k2, k3, k4⟩ := (hE.here.1.1.2).c4
  obtain ⟨k5, k6, k7, k8⟩ := (hE.here.1.2).c4
  go_wp2_with fail
  have hc := fsub_v (ca := ca) (da := da) (cb := cb) (db := db) hE.here.1.1.1.1.2 hE.here.1.1.1.2 la lb lr
  refine hc.mono ?_
  clear hc
  clear k1 k2 k3 k4 k5 k6 k7 k8
  rintro e w9 ⟨sr, Ar, nr, cr, tr, Br, mr, dr, rfl, hr, hb⟩
  replace hE := hE.step hb
  clear hb
  replace hE := hE.fv hr
  clear hr
  go_upto_region 2 with (fail)
  obtain ⟨g10, hg10⟩ : ∃ g10, g10 = w9.heap.size := ⟨_, rfl⟩
  have hl10_2 : w.heap.size < g10 := by rw [hg10]; exact (hE.here.1.1.1.2).lt
  have hl10_3 : w.heap.size + 1 < g10 := by rw [hg10]; exact (hE.here.1.1.2).lt
  have hl10_4 : w.heap.size + 1 + 1 < g10 := by rw [hg10]; exact (hE.here.1.2).lt
  replace hE := hE.blk 26 #[.bool sr, .slice Ar nr cr, .bool tr, .slice Br mr dr] (g := g10) hg10.symm
  generalize w9.alloc (.cells #[.bool sr, .slice Ar nr cr, .bool tr, .slice Br mr dr] 26) = W10 at hE ⊢
  rw [← hg10]
  clear hg10
  obtain ⟨k11, k12, k13, k14⟩ := (hE.here.2).c4
  have hRl : w.heap.size ≤ w.heap.size + 1 + 1 := by omega
  obtain ⟨WW, hWW, hB, hV, hBel⟩ := ret_frac hE hE.here.1.1.2 hRl hE.here.1.2 cr dr
  obtain ⟨x0, x1, x2, x3⟩ := (hE.here.1.1.2).c4
  obtain ⟨fz0, fz1, fz2, fz3⟩ := hE.here.1.1.2.f4
  have HWW := Lib.hid hWW
  clear hWW
  go_wp2_with fail
  clear k11 k12 k13 k14
  rw [← HWW.out]
  obtain ⟨y0, y1, y2, y3⟩ := hB.c4
  refine bodyPost_ret (v := .agg #[.bool sr, .slice Ar nr cr, .bool tr, .slice Br mr dr]) (by simp [results, Tryz.results33, go_sem, y0, y1, y2, y3]) rfl ?_
  exact ⟨sr, Ar, nr, cr, tr, Br, mr, dr, rfl, hV, hBel⟩
set_option linter.unusedSimpArgs false in
set_option maxRecDepth 100000 in
set_option maxHeartbeats 2000000 in
theorem lw_over {a b : Rat} {sa ta sb tb : Bool} {Aa Ba Ab Bb : Option Addr} {na ca ma da nb cb mb db : Nat} {w : World} (ha : FV w a sa Aa na ta Ba ma) (hb : FV w b sb Ab nb tb Bb mb) (la : fl a ≤ 256) (lb : fl b ≤ 256) (hb0 : b.num ≠ 0) (lr : fl (a / b) ≤ 256) :
    Calls Tryz.prog 35 #[.agg #[.bool sa, .slice Aa na ca, .bool ta, .slice Ba ma da], .agg #[.bool sb, .slice Ab nb cb, .bool tb, .slice Bb mb db]] w (FR (a / b) w) := by
  have hE := ((((Env.start w).fv ha).fv hb).blk 26 #[.bool sa, .slice Aa na ca, .bool ta, .slice Ba ma da] (g := w.heap.size) rfl).blk 26 #[.bool sb, .slice Ab nb cb, .bool tb, .slice Bb mb db] (g := w.heap.size + 1) (by simp)
  have hE := hE.blk 26 #[.bool false, .slice none 0 0, .bool false, .slice none 0 0] (g := w.heap.size + 1 + 1) (by simp)
  obtain ⟨W0, hW0⟩ : ∃ W0, W0 = (((w.alloc (.cells #[.bool sa, .slice Aa na ca, .bool ta, .slice Ba ma da] 26)).alloc (.cells #[.bool sb, .slice Ab nb cb, .bool tb, .slice Bb mb db] 26)).alloc (.cells #[.bool false, .slice none 0 0, .bool false, .slice none 0 0] 26)) := ⟨_, rfl⟩
  rw [← hW0] at hE
  have HW0 := Lib.hid hW0
  clear hW0
  go_enter Tryz.func35, Tryz.ntmps35
  go_upto_region 1 with (fail)
  rw [← HW0.out]
  obtain ⟨k1, k2, k3, k4⟩ := (hE.here.1.1.2).c4
  obtain ⟨k5, k6, k7, k8⟩ := (hE.here.1.2).c4
  go_wp2_with fail
  have hc := fdiv_v (ca := ca) (da := da) (cb := cb) (db := db) hE.here.1.1.1.1.2 hE.here.1.1.1.2 la lb hb0 lr
  refine hc.mono ?_
  clear hc
  clear k1 k2 k3 k4 k5 k6 k7 k8
  rintro e w9 ⟨sr, Ar, nr, cr, tr, Br, mr, dr, rfl, hr, hb⟩
  replace hE := hE.step hb
  clear hb
  replace hE := hE.fv hr
  clear hr
  go_upto_region 2 with (fail)
  obtain ⟨g10, hg10⟩ : ∃ g10, g10 = w9.heap.size := ⟨_, rfl⟩
  have hl10_2 : w.heap.size < g10 := by rw [hg10]; exact (hE.here.1.1.1.2).lt
  have hl10_3 : w.heap.size + 1 < g10 := by rw [hg10]; exact (hE.here.1.1.2).lt
  have hl10_4 : w.heap.size + 1 + 1 < g10 := by rw [hg10]; exact (hE.here.1.2).lt
  replace hE := hE.blk 26 #[.bool sr, .slice Ar nr cr, .bool tr, .slice Br mr dr] (g := g10) hg10.symm
  generalize w9.alloc (.cells #[.bool sr, .slice Ar nr cr, .bool tr, .slice Br mr dr] 26) = W10 at hE ⊢
  rw [← hg10]
  clear hg10
  obtain ⟨k11, k12, k13, k14⟩ := (hE.here.2).c4
  have hRl : w.heap.size ≤ w.heap.size + 1 + 1 := by omega
  obtain ⟨WW, hWW, hB, hV, hBel⟩ := ret_frac hE hE.here.1.1.2 hRl hE.here.1.2 cr dr
  obtain ⟨x0, x1, x2, x3⟩ := (hE.here.1.1.2).c4
  obtain ⟨fz0, fz1, fz2, fz3⟩ := hE.here.1.1.2.f4
  have HWW := Lib.hid hWW
  clear hWW
  go_wp2_with fail
  clear k11 k12 k13 k14
  rw [← HWW.out]
  obtain ⟨y0, y1, y2, y3⟩ := hB.c4
  refine bodyPost_ret (v := .agg #[.bool sr, .slice Ar nr cr, .bool tr, .slice Br mr dr]) (by simp [results, Tryz.results35, go_sem, y0, y1, y2, y3]) rfl ?_
  exact ⟨sr, Ar, nr, cr, tr, Br, mr, dr, rfl, hV, hBel⟩
set_option linter.unusedSimpArgs false in
set_option maxRecDepth 100000 in
set_option maxHeartbeats 2000000 in
theorem law_quick (n d : Int) (w : World) (h1 : -9223372036854775808 ≤ n) (h2 : n ≤ 9223372036854775807) (h3 : -9223372036854775808 ≤ d) (h4 : d ≤ 9223372036854775807) (hd : d ≠ 0) :
    Calls Tryz.prog 19 #[.int .i64 n, .int .i64 d] w (FR (Rat.divInt n d) w) := by
  have hE := Env.start w
  have hE := hE.blk 26 #[.bool false, .slice none 0 0, .bool false, .slice none 0 0] (g := w.heap.size) rfl
  obtain ⟨W0, hW0⟩ : ∃ W0, W0 = (w.alloc (.cells #[.bool false, .slice none 0 0, .bool false, .slice none 0 0] 26)) := ⟨_, rfl⟩
  rw [← hW0] at hE
  have HW0 := Lib.hid hW0
  clear hW0
  go_enter Tryz.func19, Tryz.ntmps19
  go_upto_region 1 with (fail)
  rw [← HW0.out]
  go_wp2_with fail
  have hc := rquick_v n d W0 h1 h2 h3 h4 hd
  refine hc.mono ?_
  clear hc
  rintro e w1 ⟨sf, Af, nf, cf, tf, Bf, mf, df, rfl, hf, hb⟩
  replace hE := hE.step hb
  clear hb
  replace hE := hE.fv hf
  clear hf
  have hRl : w.heap.size ≤ w.heap.size := by omega
  obtain ⟨WW, hWW, hB, hV, hBel⟩ := ret_frac hE hE.here.1.2 hRl hE.here.2 cf df
  obtain ⟨x0, x1, x2, x3⟩ := (hE.here.1.2).c4
  obtain ⟨fz0, fz1, fz2, fz3⟩ := hE.here.1.2.f4
  have HWW := Lib.hid hWW
  clear hWW
  go_wp2_with fail
  rw [← HWW.out]
  obtain ⟨y0, y1, y2, y3⟩ := hB.c4
  refine bodyPost_ret (v := .agg #[.bool sf, .slice Af nf cf, .bool tf, .slice Bf mf df]) (by simp [results, Tryz.results19, go_sem, y0, y1, y2, y3]) rfl ?_
  exact ⟨sf, Af, nf, cf, tf, Bf, mf, df, rfl, hV, hBel⟩
set_option linter.unusedSimpArgs false in
set_option maxRecDepth 100000 in
set_option maxHeartbeats 2000000 in
theorem lw_equal {a b : Rat} {v : Bool} {sa ta sb tb : Bool} {Aa Ba Ab Bb : Option Addr} {na ca ma da nb cb mb db : Nat} {w : World} (ha : FV w a sa Aa na ta Ba ma) (hb : FV w b sb Ab nb tb Bb mb) (la : fl a ≤ 256) (lb : fl b ≤ 256) (h : decide (a = b) = v) :
    Calls Tryz.prog 29 #[.agg #[.bool sa, .slice Aa na ca, .bool ta, .slice Ba ma da], .agg #[.bool sb, .slice Ab nb cb, .bool tb, .slice Bb mb db]] w (fun e w' => e = .returned (.bool v) ∧ Below w.heap.size w w') := by
  have hE := ((((Env.start w).fv ha).fv hb).blk 26 #[.bool sa, .slice Aa na ca, .bool ta, .slice Ba ma da] (g := w.heap.size) rfl).blk 26 #[.bool sb, .slice Ab nb cb, .bool tb, .slice Bb mb db] (g := w.heap.size + 1) (by simp)
  obtain ⟨W0, hW0⟩ : ∃ W0, W0 = ((w.alloc (.cells #[.bool sa, .slice Aa na ca, .bool ta, .slice Ba ma da] 26)).alloc (.cells #[.bool sb, .slice Ab nb cb, .bool tb, .slice Bb mb db] 26)) := ⟨_, rfl⟩
  rw [← hW0] at hE
  have HW0 := Lib.hid hW0
  clear hW0
  go_enter Tryz.func29, Tryz.ntmps29
  go_upto_region 1 with (fail)
  rw [← HW0.out]
  have l1 := (hE.here.1.1.1.2).ln la
  have l2 := (hE.here.1.1.2).ln lb
  obtain ⟨k1, k2, k3, k4⟩ := (hE.here.1.2).c4
  obtain ⟨k5, k6, k7, k8⟩ := (hE.here.2).c4
  go_wp2_with fail
  have hc := fvalid_v0 (c := ca) (d := da) hE.here.1.1.1.2 la
  refine hc.mono ?_
  clear hc
  clear k1 k2 k3 k4 k5 k6 k7 k8
  rintro e w9 ⟨rfl, hb⟩
  replace hE := hE.step hb
  clear hb
  obtain ⟨k10, k11, k12, k13⟩ := (hE.here.1.2).c4
  obtain ⟨k14, k15, k16, k17⟩ := (hE.here.2).c4
  go_wp2_with fail
  have hc := fvalid_v0 (c := cb) (d := db) hE.here.1.1.2 lb
  refine hc.mono ?_
  clear hc
  clear k10 k11 k12 k13 k14 k15 k16 k17
  rintro e w18 ⟨rfl, hb⟩
  replace hE := hE.step hb
  clear hb
  obtain ⟨k19, k20, k21, k22⟩ := (hE.here.1.2).c4
  obtain ⟨k23, k24, k25, k26⟩ := (hE.here.2).c4
  go_wp2_with fail
  have hc := frsame_v (ca := ca) (da := da) (cb := cb) (db := db) hE.here.1.1.1.2 hE.here.1.1.2 (by omega) (by omega) (by omega) (by omega)
  rw [h] at hc
  refine hc.mono ?_
  clear hc
  clear k19 k20 k21 k22 k23 k24 k25 k26
  rintro e w9 ⟨rfl, hb⟩
  replace hE := hE.step hb
  go_wp2_with fail
  go_ret
  exact ⟨rfl, hE.bel⟩
set_option linter.unusedSimpArgs false in
set_option maxRecDepth 100000 in
set_option maxHeartbeats 2000000 in
theorem law_is {a : Rat} {sa ta : Bool} {Aa Ba : Option Addr} {na ca ma da : Nat} {w : World} {n d : Int} (ha : FV w a sa Aa na ta Ba ma) (la : fl a ≤ 256) (h1 : -9223372036854775808 ≤ n) (h2 : n ≤ 9223372036854775807) (h3 : -9223372036854775808 ≤ d) (h4 : d ≤ 9223372036854775807) (hd : d ≠ 0) (h : a = Rat.divInt n d) :
    Calls Tryz.prog 39 #[.agg #[.bool sa, .slice Aa na ca, .bool ta, .slice Ba ma da], .int .i64 0, .int .i64 n, .int .i64 d] w (fun e w' => e = .returned (.bool true) ∧ Below w.heap.size w w') := by
  have hE := ((Env.start w).fv ha).blk 26 #[.bool sa, .slice Aa na ca, .bool ta, .slice Ba ma da] (g := w.heap.size) rfl
  obtain ⟨W0, hW0⟩ : ∃ W0, W0 = (w.alloc (.cells #[.bool sa, .slice Aa na ca, .bool ta, .slice Ba ma da] 26)) := ⟨_, rfl⟩
  rw [← hW0] at hE
  have HW0 := Lib.hid hW0
  clear hW0
  go_enter Tryz.func39, Tryz.ntmps39
  go_upto_region 1 with (fail)
  rw [← HW0.out]
  have l1 := (hE.here.1.2).ln la
  replace hE := hE.drew
  refine wp_region_held_drew (S := fun w' => w'.cell? ⟨w.heap.size, 0, none⟩ = some (.bool sa) ∧ w'.cell? ⟨w.heap.size, 1, none⟩ = some (.slice Aa na ca) ∧ w'.cell? ⟨w.heap.size, 2, none⟩ = some (.bool ta) ∧ w'.cell? ⟨w.heap.size, 3, none⟩ = some (.slice Ba ma da)) (by kernel_rfl) (hE.here.2.c4) (fun hHeld => ?_)
  refine tk 0 ?_
  try simp only [PL]
  refine tk 1 ?_
  try simp only [PL]
  refine tk 2 ?_
  try simp only [PL]
  refine tk 3 ?_
  try simp only [PL]
  refine tk 4 ?_
  try simp only [PL]
  refine tk 5 ?_
  try simp only [PL]
  refine r1 6 (fun K hK => ?_)
  go_simp
  have hc := law_quick n d W0.drew h1 h2 h3 h4 hd
  refine hc.mono ?_
  clear hc
  rintro e w1 ⟨sf, Af, nf, cf, tf, Bf, mf, df, rfl, hf, hb⟩
  replace hE := hE.step hb
  clear hb
  replace hE := hE.fv hf
  clear hf
  go_wp2_with fail
  refine hK.out _ _ (hE.here.1.2.c4) (fun hHeld => ?_)
  clear hK K
  try simp only [PL]
  refine r1 7 (fun K hK => ?_)
  go_simp
  have l2 := (hE.here.2).ln (by rw [← h]; exact la)
  have hc := frsame_v (ca := ca) (da := da) (cb := cf) (db := df) hE.here.1.1.2 hE.here.2 (by omega) (by omega) (by omega) (by omega)
  rw [decide_eq_true h] at hc
  refine hc.mono ?_
  clear hc
  rintro e w9 ⟨rfl, hb⟩
  replace hE := hE.step hb
  clear hb
  go_wp2_with fail
  refine hK.out _ _ (hE.here.1.2.c4) (fun hHeld => ?_)
  clear hK K
  try simp only [PL]
  refine tk 8 ?_
  try simp only [PL]
  refine tk 9 ?_
  try simp only [PL]
  refine wpAnyH_done (by kernel_rfl) ?_ _
  go_wp2_with fail
  go_ret
  exact ⟨rfl, hE.bel⟩
end Go.Proofs.YtifikcemcflgjaaGreat
namespace Go.Proofs.YtifikcemcflgjaaGreat
open Go.RowKit

/-- A fraction as it lies in memory, right or not. -/
structure Fc where
  s : Bool
  A : Option Addr
  n : Nat
  c : Nat
  f : Nat → Nat
  t : Bool
  B : Option Addr
  m : Nat
  d : Nat
  g : Nat → Nat
def Fc.cells (h : Fc) (w : World) (b o : Nat) : Prop := w.cell? ⟨b, o, none⟩ = some (.bool h.s) ∧ w.cell? ⟨b, o + 1, none⟩ = some (.slice h.A h.n h.c) ∧ w.cell? ⟨b, o + 2, none⟩ = some (.bool h.t) ∧ w.cell? ⟨b, o + 3, none⟩ = some (.slice h.B h.m h.d)
def Fc.rd (h : Fc) (w : World) : Prop := FRd w h.A h.n h.f h.B h.m h.g
def Fc.ok (h : Fc) : Bool := okF h.s h.n h.f h.t h.m h.g
theorem Fc.cells_below {h : Fc} {w w' : World} {b o : Nat} (hc : h.cells w b o) (hb : Below w.heap.size w w') (hlt : b < w.heap.size) : h.cells w' b o :=
  ⟨(hb.cell (p := ⟨b, o, none⟩) hlt).trans hc.1, (hb.cell (p := ⟨b, o + 1, none⟩) hlt).trans hc.2.1, (hb.cell (p := ⟨b, o + 2, none⟩) hlt).trans hc.2.2.1, (hb.cell (p := ⟨b, o + 3, none⟩) hlt).trans hc.2.2.2⟩
/-- A row of fractions in the block b. -/
def RowC (b o n : Nat) (h : Nat → Fc) (w : World) : Prop := b < w.heap.size ∧ ∀ k, k < n → (h k).cells w b (o + k * 4) ∧ (h k).rd w
theorem RowC.stable (b o n : Nat) (h : Nat → Fc) : Stable (RowC b o n h) := fun _ _ hb hr =>
  ⟨Nat.lt_of_lt_of_le hr.1 hb.size, fun k hk => ⟨Fc.cells_below (hr.2 k hk).1 hb hr.1, FRd.below (hr.2 k hk).2 hb⟩⟩
def Fc.sh (h : Fc) (most : Int) : Prop := (h.n : Int) ≤ most ∧ (h.m : Int) ≤ most
def ShortP (n : Nat) (h : Nat → Fc) (most : Int) (w : World) (e : Ending) (w' : World) : Prop := ∃ v, e = .returned (.bool v) ∧ (v = true → ∀ k, k < n → (h k).sh most) ∧ Below w.heap.size w w'
theorem no_false {P : Prop} : (false = true → P) := fun h => by cases h
set_option linter.unusedSimpArgs false in
set_option maxRecDepth 100000 in
set_option maxHeartbeats 2000000 in
theorem short_v (b o n c : Nat) (h : Nat → Fc) (w : World) (most : Int) (hn9 : n ≤ 1000000) (hr : RowC b o n h w) :
    Calls Tryz.prog 12 #[.int .i64 most, .slice (some ⟨b, o, none⟩) n c] w (ShortP n h most w) := by
  have hE := (Env.start w).and (RowC.stable b o n h) hr
  clear hr
  go_enter Tryz.func12, Tryz.ntmps12
  go_wp2_with fail
  go_loopw [5] (fun x wr => ∃ k : Nat, k ≤ n ∧ x = .int .i64 (k : Int) ∧ Hid (∀ j, j < k → (h j).sh most) ∧ Env w (fun V => True ∧ RowC b o n h V) wr) (fun x _ => n - (intOf x).toNat)
  case atStart => exact ⟨0, Nat.zero_le _, rfl, Lib.hid (fun j hj => absurd hj (by omega)), hE⟩
  case round =>
    clear hE
    obtain ⟨k, hk, rfl, HK, hE⟩ := hrel
    by_cases hlt : k < n
    · obtain ⟨H, hH⟩ : ∃ H, H = h k := ⟨_, rfl⟩
      obtain ⟨hbl, hcs⟩ := hE.here.2
      obtain ⟨hcl, -⟩ := hcs k hlt
      rw [← hH] at hcl
      have HH := Lib.hid hH
      clear hH hcs
      obtain ⟨hs, hA, hn, hc, hf, ht, hD, hm, hd, hg⟩ := H
      obtain ⟨d0, d1, d2, d3⟩ := hcl
      dsimp only at d0 d1 d2 d3
      have t1 : decide ((k : Int) < (n : Int)) = true := decide_eq_true (by omega)
      have t2 : (k : Int) < (n : Int) := by omega
      by_cases hl1 : most < (hn : Int)
      · have u4 : decide (most < (hn : Int)) = true := decide_eq_true hl1
        clear hl1
        go_wp2_with fail
        go_ret
        exact ⟨false, rfl, no_false, hE.bel⟩
      · have u4 : decide (most < (hn : Int)) = false := decide_eq_false hl1
        have HL1 := Lib.hid hl1
        clear hl1
        by_cases hl2 : most < (hm : Int)
        · have u5 : decide (most < (hm : Int)) = true := decide_eq_true hl2
          clear hl2
          go_wp2_with fail
          go_ret
          exact ⟨false, rfl, no_false, hE.bel⟩
        · have u5 : decide (most < (hm : Int)) = false := decide_eq_false hl2
          have HL2 := Lib.hid hl2
          clear hl2
          have hk9 : k < 1000000 := by omega
          go_wp2_with fail
          go_roundw
          case rel =>
            refine ⟨k + 1, by omega, by go_num, Lib.hid (fun j hj => ?_), hE⟩
            rcases Nat.lt_or_ge j k with h9 | h9
            · exact HK.out j h9
            · obtain rfl : j = k := by omega
              rw [← HH.out]
              have a1 := HL1.out
              have a2 := HL2.out
              exact ⟨by dsimp only; omega, by dsimp only; omega⟩
          case measure => (simp [intOf]) <;> omega
    · obtain rfl : k = n := by omega
      have u1 : decide ((k : Int) < (k : Int)) = false := decide_eq_false (by omega)
      go_wp2_with fail
      go_ret
      exact ⟨true, rfl, fun _ => HK.out, hE.bel⟩
/-- What usable says of a fraction. -/
def Fc.us (h : Fc) : Prop := h.sh 40 ∧ h.ok = true
def UsableP (n : Nat) (h : Nat → Fc) (w : World) (e : Ending) (w' : World) : Prop := ∃ v, e = .returned (.bool v) ∧ (v = true → ∀ k, k < n → (h k).us) ∧ Below w.heap.size w w'
set_option linter.unusedSimpArgs false in
set_option maxRecDepth 100000 in
set_option maxHeartbeats 2000000 in
theorem usable_v2 (b o n c : Nat) (h : Nat → Fc) (w : World) (hn9 : n ≤ 1000000) (hr : RowC b o n h w) :
    Calls Tryz.prog 28 #[.slice (some ⟨b, o, none⟩) n c] w (UsableP n h w) := by
  have hE := (Env.start w).and (RowC.stable b o n h) hr
  clear hr
  go_enter Tryz.func28, Tryz.ntmps28
  go_wp2_with fail
  go_loopw [3] (fun x wr => ∃ k : Nat, k ≤ n ∧ x = .int .i64 (k : Int) ∧ Hid (∀ j, j < k → (h j).us) ∧ Env w (fun V => True ∧ RowC b o n h V) wr) (fun x _ => n - (intOf x).toNat)
  case atStart => exact ⟨0, Nat.zero_le _, rfl, Lib.hid (fun j hj => absurd hj (by omega)), hE⟩
  case round =>
    clear hE
    obtain ⟨k, hk, rfl, HK, hE⟩ := hrel
    by_cases hlt : k < n
    · obtain ⟨H, hH⟩ : ∃ H, H = h k := ⟨_, rfl⟩
      obtain ⟨hbl, hcs⟩ := hE.here.2
      obtain ⟨hcl, hrd⟩ := hcs k hlt
      rw [← hH] at hcl hrd
      have HH := Lib.hid hH
      clear hH hcs
      obtain ⟨hs, hA, hn, hc, hf, ht, hD, hm, hd, hg⟩ := H
      obtain ⟨d0, d1, d2, d3⟩ := hcl
      dsimp only at d0 d1 d2 d3
      unfold Fc.rd at hrd
      dsimp only at hrd
      have t1 : decide ((k : Int) < (n : Int)) = true := decide_eq_true (by omega)
      have t2 : (k : Int) < (n : Int) := by omega
      replace hE := hE.blk 26 #[.bool hs, .slice hA hn hc, .bool ht, .slice hD hm hd] (g := wr.heap.size) rfl
      have hrd2 := hrd.below ((Below.refl wr.heap.size wr).alloc (Nat.le_refl _) (.cells #[.bool hs, .slice hA hn hc, .bool ht, .slice hD hm hd] 26))
      go_wp2_with fail
      refine (short_v wr.heap.size 0 1 1 (fun _ => ⟨hs, hA, hn, hc, hf, ht, hD, hm, hd, hg⟩) _ 40 (by decide) ⟨hE.here.2.lt, fun j hj => ?_⟩).mono ?_
      · obtain rfl : j = 0 := by omega
        exact ⟨hE.here.2.c4, hrd2⟩
      clear hrd2 d0 d1 d2 d3
      rintro e w1 ⟨v, rfl, hv, hb⟩
      replace hE := hE.step hb
      clear hb
      cases v with
      | false =>
        clear hv
        go_wp2_with fail
        go_ret
        exact ⟨false, rfl, no_false, hE.bel⟩
      | true =>
        have HS := Lib.hid (hv rfl 0 (by decide))
        clear hv
        obtain ⟨hbl2, hcs⟩ := hE.here.1.2
        obtain ⟨hcl, hrd2⟩ := hcs k hlt
        rw [← HH.out] at hcl hrd2
        unfold Fc.rd at hrd2
        dsimp only at hrd2
        obtain ⟨d0, d1, d2, d3⟩ := hcl
        dsimp only at d0 d1 d2 d3
        clear hcs
        obtain ⟨r, hr⟩ : ∃ r, okF hs hn hf ht hm hg = r := ⟨_, rfl⟩
        go_wp2_with fail
        refine (fvalid_r hs ht hA hD hn hm hc hd hf hg w1 hrd2 (by have := HS.out.1; dsimp only at this; omega) (by have := HS.out.2; dsimp only at this; omega) r hr).mono ?_
        clear d0 d1 d2 d3
        rintro e w2 ⟨rfl, hb⟩
        replace hE := hE.step hb
        clear hb
        have HR := Lib.hid hr
        clear hr hrd2
        cases r with
        | false =>
          go_wp2_with fail
          go_ret
          exact ⟨false, rfl, no_false, hE.bel⟩
        | true =>
          have hk9 : k < 1000000 := by omega
          go_wp2_with fail
          go_roundw
          case rel =>
            refine ⟨k + 1, by omega, by go_num, Lib.hid (fun j hj => ?_), (Env.again hE.bel).and (RowC.stable b o n h) hE.here.1.2⟩
            rcases Nat.lt_or_ge j k with h9 | h9
            · exact HK.out j h9
            · obtain rfl : j = k := by omega
              rw [← HH.out]
              exact ⟨HS.out, HR.out⟩
          case measure => (simp [intOf]) <;> omega
    · obtain rfl : k = n := by omega
      have u1 : decide ((k : Int) < (k : Int)) = false := decide_eq_false (by omega)
      go_wp2_with fail
      go_ret
      exact ⟨true, rfl, fun _ => HK.out, hE.bel⟩
end Go.Proofs.YtifikcemcflgjaaGreat
namespace Go.Proofs.YtifikcemcflgjaaGreat
open Go.RowKit

theorem fl_div {N D : Int} {k : Nat} (h : 0 < D) (h1 : ln b16 N.natAbs ≤ k) (h2 : ln b16 D.natAbs ≤ k) : fl (Rat.divInt N D) ≤ k := by
  obtain ⟨e1, e2⟩ := low_num (n := N) h
  rw [fl_le]
  refine ⟨?_, ?_⟩
  · rw [e1]; exact Nat.le_trans (ln_mono b16_two (Int.natAbs_ediv_le_natAbs _ _)) h1
  · have e3 : (Rat.divInt N D).den = (D / ((Nat.gcd N.natAbs D.natAbs : Nat) : Int)).natAbs := by omega
    rw [e3]; exact Nat.le_trans (ln_mono b16_two (Int.natAbs_ediv_le_natAbs _ _)) h2
theorem fl_z {a : Rat} {i : Nat} (ha : fl a ≤ i) : ln b16 a.num.natAbs ≤ i ∧ ln b16 ((a.den : Int)).natAbs ≤ i := by
  rw [Int.natAbs_natCast]; exact fl_le.1 ha
theorem den_posZ (a : Rat) : 0 < (a.den : Int) := by have := a.den_pos; omega
theorem fl_plus {a b : Rat} {i j : Nat} (ha : fl a ≤ i) (hb : fl b ≤ j) : fl (a + b) ≤ i + j + 1 := by
  obtain ⟨a1, a2⟩ := fl_z ha
  obtain ⟨b1, b2⟩ := fl_z hb
  rw [← add_low]
  refine fl_div (Int.mul_pos (den_posZ a) (den_posZ b)) (ln_addZ (m := i + j) (ln_mulZ a1 b2) (Nat.le_trans (ln_mulZ b1 a2) (by omega))) (Nat.le_trans (ln_mulZ a2 b2) (by omega))
theorem fl_minus {a b : Rat} {i j : Nat} (ha : fl a ≤ i) (hb : fl b ≤ j) : fl (a - b) ≤ i + j + 1 := by
  obtain ⟨a1, a2⟩ := fl_z ha
  obtain ⟨b1, b2⟩ := fl_z hb
  rw [← sub_low]
  refine fl_div (Int.mul_pos (den_posZ a) (den_posZ b)) (ln_addZ (m := i + j) (ln_mulZ a1 b2) (by rw [Int.natAbs_neg]; exact Nat.le_trans (ln_mulZ b1 a2) (by omega))) (Nat.le_trans (ln_mulZ a2 b2) (by omega))
theorem fl_times {a b : Rat} {i j : Nat} (ha : fl a ≤ i) (hb : fl b ≤ j) : fl (a * b) ≤ i + j := by
  obtain ⟨a1, a2⟩ := fl_z ha
  obtain ⟨b1, b2⟩ := fl_z hb
  rw [← mul_low]
  exact fl_div (Int.mul_pos (den_posZ a) (den_posZ b)) (ln_mulZ a1 b1) (ln_mulZ a2 b2)
theorem fl_over {a b : Rat} {i j : Nat} (ha : fl a ≤ i) (hb : fl b ≤ j) (h0 : b.num ≠ 0) : fl (a / b) ≤ i + j := by
  obtain ⟨a1, a2⟩ := fl_z ha
  obtain ⟨b1, b2⟩ := fl_z hb
  rw [← div_low]
  rcases Int.lt_trichotomy b.num 0 with h | h | h
  · rw [← low_neg]
    refine fl_div ?_ (by rw [Int.natAbs_neg]; exact ln_mulZ a1 b2) (by rw [Int.natAbs_neg]; exact ln_mulZ a2 b1)
    rw [← Int.mul_neg]
    exact Int.mul_pos (den_posZ a) (by omega)
  · exact absurd h h0
  · exact fl_div (Int.mul_pos (den_posZ a) h) (ln_mulZ a1 b2) (ln_mulZ a2 b1)
theorem fl_le2 {a : Rat} {i j : Nat} (h : fl a ≤ i) (h2 : i ≤ j) : fl a ≤ j := Nat.le_trans h h2
/-- Three fractions in a row. -/
def sel3 (a b c : Fc) (k : Nat) : Fc := if k = 0 then a else if k = 1 then b else c
theorem rowC3 {w : World} {T : TypeId} {g n : Nat} {a b c : Fc} {cs : Array Value} (hB : Blk T g cs w)
    (hc : ∀ k, k < n → cs[k * 4]? = some (.bool (sel3 a b c k).s) ∧ cs[k * 4 + 1]? = some (.slice (sel3 a b c k).A (sel3 a b c k).n (sel3 a b c k).c) ∧ cs[k * 4 + 2]? = some (.bool (sel3 a b c k).t) ∧ cs[k * 4 + 3]? = some (.slice (sel3 a b c k).B (sel3 a b c k).m (sel3 a b c k).d))
    (hr : ∀ k, k < n → (sel3 a b c k).rd w) : RowC g 0 n (sel3 a b c) w := ⟨hB.lt, fun k hk => by
  obtain ⟨h1, h2, h3, h4⟩ := hc k hk
  refine ⟨?_, hr k hk⟩
  unfold Fc.cells
  simp only [Nat.zero_add]
  exact ⟨(hB.cell _).trans h1, (hB.cell _).trans h2, (hB.cell _).trans h3, (hB.cell _).trans h4⟩⟩
def UseC (P : Prop) (w : World) (e : Ending) (w' : World) : Prop := ∃ v, e = .returned (.bool v) ∧ (v = true → P) ∧ Below w.heap.size w w'
theorem usable3 (a b c : Fc) (w : World) (ra : a.rd w) (rb : b.rd w) (rc : c.rd w) :
    Calls Tryz.prog 28 #[.slice (some ⟨w.heap.size, 0, none⟩) 3 3] (w.alloc (.cells #[.bool a.s, .slice a.A a.n a.c, .bool a.t, .slice a.B a.m a.d, .bool b.s, .slice b.A b.n b.c, .bool b.t, .slice b.B b.m b.d, .bool c.s, .slice c.A c.n c.c, .bool c.t, .slice c.B c.m c.d] 26)) (UseC (a.us ∧ b.us ∧ c.us) w) := by
  have hb : ∀ o, Below w.heap.size w (w.alloc o) := fun o => (Below.refl _ _).alloc (Nat.le_refl _) _
  refine (usable_v2 w.heap.size 0 3 3 (sel3 a b c) _ (by decide) (rowC3 (Blk.new w 26 _) ?_ ?_)).mono ?_
  · intro k hk
    rcases (show k = 0 ∨ k = 1 ∨ k = 2 by omega) with rfl | rfl | rfl <;> exact ⟨rfl, rfl, rfl, rfl⟩
  · intro k hk
    rcases (show k = 0 ∨ k = 1 ∨ k = 2 by omega) with rfl | rfl | rfl
    · exact FRd.below ra (hb _)
    · exact FRd.below rb (hb _)
    · exact FRd.below rc (hb _)
  · rintro e w' ⟨v, rfl, hv, hbb⟩
    exact ⟨v, rfl, fun h => ⟨hv h 0 (by decide), hv h 1 (by decide), hv h 2 (by decide)⟩, (hb _).trans (hbb.mono (hb _).size)⟩
theorem usable2 (a b : Fc) (w : World) (ra : a.rd w) (rb : b.rd w) :
    Calls Tryz.prog 28 #[.slice (some ⟨w.heap.size, 0, none⟩) 2 2] (w.alloc (.cells #[.bool a.s, .slice a.A a.n a.c, .bool a.t, .slice a.B a.m a.d, .bool b.s, .slice b.A b.n b.c, .bool b.t, .slice b.B b.m b.d] 26)) (UseC (a.us ∧ b.us) w) := by
  have hb : ∀ o, Below w.heap.size w (w.alloc o) := fun o => (Below.refl _ _).alloc (Nat.le_refl _) _
  refine (usable_v2 w.heap.size 0 2 2 (sel3 a b b) _ (by decide) (rowC3 (Blk.new w 26 _) ?_ ?_)).mono ?_
  · intro k hk
    rcases (show k = 0 ∨ k = 1 by omega) with rfl | rfl <;> exact ⟨rfl, rfl, rfl, rfl⟩
  · intro k hk
    rcases (show k = 0 ∨ k = 1 by omega) with rfl | rfl
    · exact FRd.below ra (hb _)
    · exact FRd.below rb (hb _)
  · rintro e w' ⟨v, rfl, hv, hbb⟩
    exact ⟨v, rfl, fun h => ⟨hv h 0 (by decide), hv h 1 (by decide)⟩, (hb _).trans (hbb.mono (hb _).size)⟩
theorem usable1 (a : Fc) (w : World) (ra : a.rd w) :
    Calls Tryz.prog 28 #[.slice (some ⟨w.heap.size, 0, none⟩) 1 1] (w.alloc (.cells #[.bool a.s, .slice a.A a.n a.c, .bool a.t, .slice a.B a.m a.d] 26)) (UseC a.us w) := by
  have hb : ∀ o, Below w.heap.size w (w.alloc o) := fun o => (Below.refl _ _).alloc (Nat.le_refl _) _
  refine (usable_v2 w.heap.size 0 1 1 (sel3 a a a) _ (by decide) (rowC3 (Blk.new w 26 _) ?_ ?_)).mono ?_
  · intro k hk
    obtain rfl : k = 0 := by omega
    exact ⟨rfl, rfl, rfl, rfl⟩
  · intro k hk
    obtain rfl : k = 0 := by omega
    exact FRd.below ra (hb _)
  · rintro e w' ⟨v, rfl, hv, hbb⟩
    exact ⟨v, rfl, fun h => hv h 0 (by decide), (hb _).trans (hbb.mono (hb _).size)⟩
theorem short2 (a b : Fc) (most : Int) (w : World) (ra : a.rd w) (rb : b.rd w) :
    Calls Tryz.prog 12 #[.int .i64 most, .slice (some ⟨w.heap.size, 0, none⟩) 2 2] (w.alloc (.cells #[.bool a.s, .slice a.A a.n a.c, .bool a.t, .slice a.B a.m a.d, .bool b.s, .slice b.A b.n b.c, .bool b.t, .slice b.B b.m b.d] 26)) (UseC (a.sh most ∧ b.sh most) w) := by
  have hb : ∀ o, Below w.heap.size w (w.alloc o) := fun o => (Below.refl _ _).alloc (Nat.le_refl _) _
  refine (short_v w.heap.size 0 2 2 (sel3 a b b) _ most (by decide) (rowC3 (Blk.new w 26 _) ?_ ?_)).mono ?_
  · intro k hk
    rcases (show k = 0 ∨ k = 1 by omega) with rfl | rfl <;> exact ⟨rfl, rfl, rfl, rfl⟩
  · intro k hk
    rcases (show k = 0 ∨ k = 1 by omega) with rfl | rfl
    · exact FRd.below ra (hb _)
    · exact FRd.below rb (hb _)
  · rintro e w' ⟨v, rfl, hv, hbb⟩
    exact ⟨v, rfl, fun h => ⟨hv h 0 (by decide), hv h 1 (by decide)⟩, (hb _).trans (hbb.mono (hb _).size)⟩
/-- A usable fraction is a number with parts of at most 40 limbs. -/
theorem us_fv {s t : Bool} {A B : Option Addr} {n c m d : Nat} {f g : Nat → Nat} {w : World} (h : (Fc.mk s A n c f t B m d g).us) (hr : FRd w A n f B m g) : ∃ q : Rat, FV w q s A n t B m ∧ fl q ≤ 40 := by
  obtain ⟨⟨h1, h2⟩, h3⟩ := h
  dsimp only at h1 h2
  obtain ⟨q, hq, -, -, -⟩ := okF_fv hr h3
  refine ⟨q, hq, fl_le.2 ⟨?_, ?_⟩⟩
  · rw [← hq.1.len]; omega
  · have := hq.2.len
    rw [Int.natAbs_natCast] at this
    rw [← this]; omega
theorem FRd.stable (A : Option Addr) (n : Nat) (f : Nat → Nat) (B : Option Addr) (m : Nat) (g : Nat → Nat) : Stable (fun w => FRd w A n f B m g) := fun _ _ hb h => h.below hb
theorem Env.frd {w W : World} {P : World → Prop} {A B : Option Addr} {n m : Nat} {f g : Nat → Nat} (h : Env w P W) (hr : FRd W A n f B m g) : Env w (fun V => P V ∧ FRd V A n f B m g) W := h.and (FRd.stable A n f B m g) hr
end Go.Proofs.YtifikcemcflgjaaGreat
namespace Go.Proofs.YtifikcemcflgjaaGreat
open Go.RowKit

theorem cmpQ_val (a b : Rat) : cmpQ a b = if a < b then -1 else if a = b then 0 else 1 := by
  unfold cmpQ cmpZ
  simp only [← cmp_lt, ← cmp_eq]
  generalize a.num * (b.den : Int) = x
  generalize b.num * (a.den : Int) = y
  grind
theorem cmpQ_b (a b : Rat) : -1 ≤ cmpQ a b ∧ cmpQ a b ≤ 1 := by
  rw [cmpQ_val]; split
  · omega
  · split <;> omega
theorem cmpQ_swap (a b : Rat) : cmpQ b a = -cmpQ a b := by
  rw [cmpQ_val, cmpQ_val]
  split <;> split <;> (try split) <;> first | rfl | grind
theorem cmpQ_less (a b : Rat) : cmpQ (a - b) ((0 : Int) : Rat) = cmpQ a b := by
  rw [cmpQ_val, cmpQ_val]
  have h0 : ((0 : Int) : Rat) = 0 := rfl
  rw [h0]
  split <;> split <;> (try split) <;> (try split) <;> first | rfl | grind
theorem cmpQ_plus (a b c : Rat) : cmpQ (a + c) (b + c) = cmpQ a b := by
  rw [cmpQ_val, cmpQ_val]
  split <;> split <;> (try split) <;> (try split) <;> first | rfl | grind
theorem cmpQ_trans {a b c : Rat} (h : cmpQ a b = cmpQ b c) : cmpQ a c = cmpQ a b := by
  rw [cmpQ_val, cmpQ_val] at h
  rw [cmpQ_val, cmpQ_val]
  grind
theorem cmpQ_times (a b c : Rat) : cmpQ (a * c) (b * c) = cmpQ a b * cmpQ c ((0 : Int) : Rat) := by
  have h0 : ((0 : Int) : Rat) = 0 := rfl
  rw [h0, cmpQ_val, cmpQ_val, cmpQ_val]
  rcases (show a < b ∨ a = b ∨ b < a by grind) with h | rfl | h <;> rcases (show c < 0 ∨ c = 0 ∨ 0 < c by grind) with k | rfl | k
  · have := Rat.mul_pos (show (0 : Rat) < b - a by grind) (show (0 : Rat) < -c by grind)
    grind
  · grind
  · have := Rat.mul_pos (show (0 : Rat) < b - a by grind) k
    grind
  · grind
  · grind
  · grind
  · have := Rat.mul_pos (show (0 : Rat) < a - b by grind) (show (0 : Rat) < -c by grind)
    grind
  · grind
  · have := Rat.mul_pos (show (0 : Rat) < a - b by grind) k
    grind
end Go.Proofs.YtifikcemcflgjaaGreat
namespace Go.Proofs.YtifikcemcflgjaaGreat

/-- The value of a list of digits. -/
def pv (l : List UInt8) : Nat := l.foldl (fun s c => s * 10 + (c.toNat - 48)) 0
def isDg (c : UInt8) : Bool := decide (48 ≤ c.toNat) && decide (c.toNat ≤ 57)
theorem pv_nil : pv [] = 0 := rfl
theorem pv_snoc (l : List UInt8) (c : UInt8) : pv (l ++ [c]) = pv l * 10 + (c.toNat - 48) := by simp [pv]
theorem pv_append (l m : List UInt8) : pv (l ++ m) = pv l * 10 ^ m.length + pv m := by
  rw [← List.reverse_reverse m]
  generalize m.reverse = r
  induction r with
  | nil => simp [pv]
  | cons c r ih =>
    rw [List.reverse_cons, ← List.append_assoc, pv_snoc, pv_snoc, ih, List.length_append, List.length_singleton, Nat.pow_succ, Nat.add_mul, ← Nat.mul_assoc, Nat.add_assoc]
theorem pv_lt (l : List UInt8) (h : ∀ c ∈ l, c.toNat ≤ 57) : pv l < 10 ^ l.length := by
  rw [← List.reverse_reverse l] at h ⊢
  generalize l.reverse = r at h ⊢
  induction r with
  | nil => simp [pv]
  | cons c r ih =>
    rw [List.reverse_cons] at h ⊢
    have h1 := ih fun d hd => h d (by simp [List.mem_reverse.1 hd])
    have h2 := h c (by simp)
    rw [pv_snoc, List.length_append, List.length_singleton, Nat.pow_succ]
    have h3 : (pv r.reverse + 1) * 10 ≤ 10 ^ r.reverse.length * 10 := Nat.mul_le_mul_right _ h1
    omega
theorem ofNat_dg {k : Nat} (h : k < 10) : (UInt8.ofNat (48 + k)).toNat = 48 + k := by rw [UInt8.toNat_ofNat']; omega
theorem dec_dg (u : Nat) : ∀ c ∈ Lib.decDigits u, 48 ≤ c.toNat ∧ c.toNat ≤ 57 := by
  intro c hc
  rw [Lib.decDigits_eq] at hc
  obtain ⟨t, -, rfl⟩ := List.mem_map.1 hc
  unfold Lib.dg
  rw [ofNat_dg (Nat.mod_lt _ (by decide))]
  have := Nat.mod_lt (u / 10 ^ (Lib.nDigits u - 1 - t)) (show 0 < 10 by decide)
  omega
theorem pv_dec (u : Nat) : pv (Lib.decDigits u) = u := by
  induction u using Nat.strongRecOn with
  | _ u ih =>
    rw [Lib.decDigits]
    by_cases h : u < 10
    · rw [dif_pos h]
      show 0 * 10 + _ = _
      rw [ofNat_dg h]; omega
    · rw [dif_neg h, pv_snoc, ih (u / 10) (by omega), ofNat_dg (Nat.mod_lt _ (by decide))]; omega
theorem dec_head_pos {u : Nat} (h : 0 < u) : (Lib.decDigits u).head? ≠ some 48 := by
  induction u using Nat.strongRecOn with
  | _ u ih =>
    rw [Lib.decDigits]
    by_cases h10 : u < 10
    · rw [dif_pos h10]
      simp only [List.head?_cons, ne_eq, Option.some.injEq]
      intro e
      have := congrArg UInt8.toNat e
      rw [ofNat_dg h10] at this
      have e48 : (48 : UInt8).toNat = 48 := rfl
      omega
    · rw [dif_neg h10, List.head?_append]
      have := ih (u / 10) (by omega) (by omega)
      cases hd : (Lib.decDigits (u / 10)).head? with
      | none => have h0 : Lib.decDigits (u / 10) = [] := by simpa using hd
                have := Lib.nDigits_pos (u / 10); rw [← Lib.decDigits_length, h0] at this; simp at this
      | some c => rw [hd] at this; simpa using this
theorem u8_of {c : UInt8} (h1 : 48 ≤ c.toNat) (h2 : c.toNat ≤ 57) : UInt8.ofNat (48 + (c.toNat - 48)) = c := by
  apply UInt8.toNat.inj
  rw [ofNat_dg (by omega)]; omega
/-- A text without a leading zero is the numeral of its value. -/
theorem dec_pv (l : List UInt8) (hd : ∀ c ∈ l, 48 ≤ c.toNat ∧ c.toNat ≤ 57) (h0 : l.head? ≠ some 48) (hl : l ≠ []) : Lib.decDigits (pv l) = l ∧ 0 < pv l := by
  rw [← List.reverse_reverse l] at hd h0 hl ⊢
  generalize l.reverse = r at hd h0 hl ⊢
  induction r with
  | nil => simp at hl
  | cons c r ih =>
    rw [List.reverse_cons] at hd h0 ⊢
    have hc := hd c (by simp)
    rw [pv_snoc]
    by_cases hr : r.reverse = []
    · rw [hr] at h0 ⊢
      have hne : c ≠ 48 := by simpa using h0
      have hp : c.toNat ≠ 48 := fun e => hne (UInt8.toNat.inj e)
      have e0 : pv [] * 10 + (c.toNat - 48) = c.toNat - 48 := by simp [pv]
      rw [e0, Lib.decDigits_one (by omega), u8_of hc.1 hc.2]
      exact ⟨rfl, by omega⟩
    · obtain ⟨h1, h2⟩ := ih (fun d hd' => hd d (by simp [List.mem_reverse.1 hd'])) (by
        rw [List.head?_append] at h0
        cases hh : r.reverse.head? with
        | none => simp at hh hr; exact absurd hh hr
        | some d => rw [hh] at h0; simpa using h0) hr
      refine ⟨?_, by omega⟩
      rw [Lib.decDigits, dif_neg (by omega), show (pv r.reverse * 10 + (c.toNat - 48)) / 10 = pv r.reverse by omega, show (pv r.reverse * 10 + (c.toNat - 48)) % 10 = c.toNat - 48 by omega, h1, u8_of hc.1 hc.2]
end Go.Proofs.YtifikcemcflgjaaGreat
namespace Go.Proofs.YtifikcemcflgjaaGreat
open Go.RowKit

set_option maxHeartbeats 400000 in
theorem timesShort_any (A : Option Addr) (c x m p : Nat) (w : World) (hx : Num32 w A x) (hm : m < 4294967296) (hp : p < 4294967296) (hn : ln b32 x ≤ 1000000) :
    Calls Tryz.prog 120 #[.slice A (ln b32 x) c, .int .u32 (m : Int), .int .u32 (p : Int)] w (W32 w (x * m + p)) := by
  have HN := Lib.hid (@tdg_total x m p hm hp)
  have hmk := mk32 0 (ln b32 x + 1) (by omega) (by omega)
  rw [show ((ln b32 x + 1 : Nat) : Int) = (ln b32 x : Int) + 1 by omega, show ((0 : Nat) : Int) = 0 by rfl] at hmk
  go_enter Tryz.func120, Tryz.ntmps120
  go_wp2_with fail
  refine (collector_any _ _).mono ?_
  rintro e w1 ⟨rfl, rfl⟩
  go_wp2_with fail
  clear hmk
  go_loopw [9, 21] (fun e i wr => ∃ k : Nat, k ≤ ln b32 x ∧ i = .int .i64 k ∧ e = .int .u64 (ex p k : Nat) ∧ Coll w.heap.size (w.heap.size + 1 + 1 + 1) (w.heap.size + 1 + 1) (w.heap.size + 1) w.heap.size (ln b32 x + 1) (tdg (dgt b32 x) m p) wr k (tcry (dgt b32 x) m p k) ∧ Below w.heap.size w wr) (fun _ i _ => ln b32 x - (intOf i).toNat)
  case atStart => exact ⟨0, Nat.zero_le _, rfl, rfl, coll_start _ _ _, coll_below _ _ _ _ _⟩
  case round =>
    obtain ⟨k, hk, rfl, rfl, hcoll, hbel⟩ := hrel
    have hcr := tcry_lt (fun i => dgt32_lt x i) hm hp k
    have hex := ex_lt (k := k) hp
    by_cases hlt : k < ln b32 x
    · have hxk := dgt32_lt x k
      obtain ⟨b, o, rfl, hb, hca⟩ := hx (by omega)
      have c0 := (hbel.cell (p := ⟨b, o + k, none⟩) hb).trans (hca k hlt)
      have hmul := mul_digit hxk hm
      have hmulI : ((dgt b32 x k : Nat) : Int) * (m : Int) ≤ 18446744065119617025 := by rw [← Int.natCast_mul]; omega
      have hmul0 : 0 ≤ ((dgt b32 x k : Nat) : Int) * (m : Int) := by rw [← Int.natCast_mul]; omega
      have hsum : dgt b32 x k * m + ex p k + tcry (dgt b32 x) m p k < 18446744073709551616 := by omega
      have hcol := collect_int _ _ _ _ _ _ _ _ _ (dgt b32 x k * m + ex p k) (((dgt b32 x k : Nat) : Int) * (m : Int) + (ex p k : Nat)) _ hcoll (by omega) hsum rfl (by rw [Int.natCast_add, Int.natCast_mul])
      have HC := Lib.hid hcol
      clear hcol hmul hsum
      go_wp2_with fail
      refine HC.out.mono ?_
      rintro e w2 ⟨rfl, hcoll2, hbel2⟩
      go_wp2
      go_roundw
      case rel => exact ⟨k + 1, by omega, by go_num, rfl, hcoll2, hbel.trans hbel2⟩
      case measure => simp [intOf]; omega
    · obtain rfl : k = ln b32 x := by omega
      have h0 : dgt b32 x (ln b32 x) = 0 := dgt_of_lt (lt_pow_ln b32_two x)
      have hcol := collect_int _ _ _ _ _ _ _ _ _ (ex p (ln b32 x)) ((ex p (ln b32 x) : Nat) : Int) _ hcoll (by omega) (by omega) (by rw [tdg, h0, Nat.zero_mul, Nat.zero_add]) rfl
      have HC := Lib.hid hcol
      clear hcol h0
      go_wp2_with fail
      refine HC.out.mono ?_
      rintro e w2 ⟨rfl, hcoll2, hbel2⟩
      have c3 := cell_of_one hcoll2.var
      have ht := trim_any (some ⟨w.heap.size, 0, none⟩) _ (ln b32 x + 1) _ w2 (hcoll2.row.rd (Nat.le_refl _) hcoll2.row.lt) (fun i _ => tdg_lt ..) (Nat.le_refl _) (by omega)
      rw [HN.out] at ht
      have HT := Lib.hid ht
      clear ht
      go_wp2_with fail
      refine HT.out.mono ?_
      rintro e w3 ⟨rfl, rfl, hnum, hlc⟩
      go_wp2
      go_ret
      exact ⟨_, _, rfl, hlc, hnum, hbel.trans hbel2⟩
end Go.Proofs.YtifikcemcflgjaaGreat
namespace Go.Proofs.YtifikcemcflgjaaGreat
open Go.RowKit

def str (l : List UInt8) : ByteArray := ⟨l.toArray⟩
theorem str_size (l : List UInt8) : (str l).size = l.length := by simp [str, ByteArray.size]
theorem idx_at {l : List UInt8} {k : Nat} (h : k < l.length) (W : World) : (Instr.index 9 (.string (str l)) (.int .i64 (k : Int))).run Tryz.prog W = .ok (.int .u8 ((l[k].toNat : Nat) : Int)) W := by
  have hs := str_size l
  rw [run_index_string W 9 (str l) .i64 (k : Int) Tryz.underlying9, dif_pos (by omega)]
  congr 1
theorem slice_at {l : List UInt8} {k : Nat} (h : k ≤ l.length) (W : World) : (Instr.slice 9 (.string (str l)) (some (.int .i64 (k : Int))) none none).run Tryz.prog W = .ok (.string (str (l.drop k))) W := by
  have hs := str_size l
  rw [run_slice_string_l W 9 (str l) Tryz.underlying9 .i64 (k : Int) (by omega) (by omega)]
  have e : (str l).extract (k : Int).toNat (str l).size = str (l.drop k) := by
    apply ByteArray.ext
    rw [ByteArray.data_extract, hs, Int.toNat_natCast]
    simp [str, List.take_of_length_le]
  rw [e]
/-- Does a text open with a minus sign? -/
def negT (l : List UInt8) : Bool := l.head? == some 45
def bodyT (l : List UInt8) : List UInt8 := if negT l then l.drop 1 else l
def badHead (g : Bool) (d : List UInt8) : Bool := d.isEmpty || (d.head? == some 48 && (g || decide (1 < d.length)))
def allDg (d : List UInt8) (k : Nat) : Prop := ∀ i, i < k → ∀ c, d[i]? = some c → 48 ≤ c.toNat ∧ c.toNat ≤ 57
def numOK (l : List UInt8) : Prop := badHead (negT l) (bodyT l) = false ∧ allDg (bodyT l) (bodyT l).length
/-- What whole.Parse returns. -/
def ParseR (l : List UInt8) (w : World) (e : Ending) (w' : World) : Prop :=
  (¬ numOK l ∧ ErrW1 10 w e w') ∨ (numOK l ∧ 4933 < (bodyT l).length ∧ ErrW1 3 w e w') ∨ (numOK l ∧ (bodyT l).length ≤ 4933 ∧ RI w (toI (negT l) (pv (bodyT l))) e w')
def lenS : Value → Nat
  | .string s => s.size
  | _ => 0
theorem str_drop {l : List UInt8} {k : Nat} (_ : k ≤ l.length) : (str l).extract k l.length = str (l.drop k) := by
  have hs := str_size l
  apply ByteArray.ext
  rw [ByteArray.data_extract]
  simp [str, List.take_of_length_le]
theorem u8_eq (c d : UInt8) : (((c.toNat : Nat) : Int) == ((d.toNat : Nat) : Int)) = (c == d) := by
  by_cases h : c = d
  · subst h; simp
  · have h1 : c.toNat ≠ d.toNat := fun e => h (UInt8.toNat.inj e)
    rw [beq_eq_false_iff_ne.2 (show ((c.toNat : Nat) : Int) ≠ ((d.toNat : Nat) : Int) by omega), beq_eq_false_iff_ne.2 h]
theorem neg_cons (c : UInt8) (r : List UInt8) : negT (c :: r) = (c == 45) := by simp [negT]
theorem badHead_cons (g : Bool) (c : UInt8) (r : List UInt8) : badHead g (c :: r) = (c == 48 && (g || decide (0 < r.length))) := by simp [badHead]
set_option linter.unusedSimpArgs false in
set_option maxRecDepth 100000 in
set_option maxHeartbeats 4000000 in
theorem parse_walk (l : List UInt8) (w : World) (hl : l.length ≤ 1000000) : Calls Tryz.prog 90 #[.string (str l)] w (ParseR l w) := by
  have hb0 : Below w.heap.size w (w.alloc (.cells #[.bool false, .slice none 0 0] 24)) := (Below.refl _ w).alloc (Nat.le_refl _) _
  have hR0 := WholeAt.new w false (.slice none 0 0)
  obtain ⟨w0, hw0⟩ : ∃ w0, w0 = w.alloc (.cells #[.bool false, .slice none 0 0] 24) := ⟨_, rfl⟩
  rw [← hw0] at hb0 hR0
  have HW0 := Lib.hid hw0
  clear hw0
  have hs := str_size l
  go_enter Tryz.func90, Tryz.ntmps90
  go_upto_region 2 with (fail)
  rw [← HW0.out]
  go_cut [5] from 13 to 20 (fun v wx => v = .bool (negT l) ∧ wx = w0)
  case first =>
    by_cases h0 : l = []
    · subst h0
      go_wp2_with fail
      go_meet
      exact ⟨rfl, rfl⟩
    · have hp : 0 < l.length := List.length_pos_iff.2 h0
      have hi := idx_at (l := l) (k := 0) hp
      have t0 : (0 : Int) < (l.length : Int) := by omega
      obtain ⟨c, r, rfl⟩ := List.exists_cons_of_ne_nil h0
      go_wp2_with fail
      go_meet
      exact ⟨by rw [neg_cons, ← u8_eq]; rfl, rfl⟩
  case rest =>
  obtain ⟨rfl, rfl⟩ := hcut
  go_upto_if 21 with (fail)
  go_cut [4, 5] from 21 to 23 (fun v u wx => v = .string (str (bodyT l)) ∧ u = .bool (negT l) ∧ wx = wc)
  case first =>
    cases hn : negT l
    · go_wp2_with fail
      go_meet
      exact ⟨by unfold bodyT; rw [hn]; rfl, by rw [hn], rfl⟩
    · have hp : 1 ≤ l.length := by
        cases l with
        | nil => simp [negT] at hn
        | cons c r => simp
      have hsl := slice_at (l := l) (k := 1) hp
      have t1 : (1 : Int) ≤ (l.length : Int) := by omega
      go_wp2_with fail
      go_meet
      refine ⟨?_, by rw [hn], rfl⟩
      unfold bodyT
      rw [hn]
      first | rfl | exact congrArg Value.string (str_drop hp)
  case rest =>
  obtain ⟨rfl, rfl, rfl⟩ := hcut
  obtain ⟨d, hd⟩ : ∃ d, d = bodyT l := ⟨_, rfl⟩
  obtain ⟨g, hg⟩ : ∃ g, g = negT l := ⟨_, rfl⟩
  rw [← hd, ← hg]
  have hdl : d.length ≤ 1000000 := by
    rw [hd]; unfold bodyT
    split
    · rw [List.length_drop]; omega
    · exact hl
  have HD := Lib.hid hd
  have HG := Lib.hid hg
  clear hd hg hl hs
  have hs := str_size d
  obtain ⟨r0, r1⟩ := hR0.cells
  have g0 := hR0.frozen 0
  have g1 := hR0.frozen 1
  go_upto_region 5 with (fail)
  go_cut [39, 5] from 24 to 39 (fun v u wx => v = .bool (badHead g d) ∧ u = .bool g ∧ wx = wc)
  case first =>
    by_cases h0 : d = []
    · subst h0
      go_wp2_with fail
      go_meet
      exact ⟨rfl, rfl, rfl⟩
    · obtain ⟨c, r, rfl⟩ := List.exists_cons_of_ne_nil h0
      have hz : (str (c :: r))[0]'(by rw [str_size]; simp) = c := rfl
      have t0 : (0 : Int) < ((c :: r).length : Int) := by simp only [List.length_cons]; omega
      have t1 : ((r.length : Int) + 1 == 0) = false := beq_eq_false_iff_ne.2 (by omega)
      by_cases hc : c = 48
      · subst hc
        cases g
        · go_wp2_with fail
          go_meet
          exact ⟨by rw [badHead_cons, show ((48 : UInt8) == 48) = true from rfl, Bool.true_and, Bool.false_or]; exact congrArg Value.bool (decide_eq_decide.2 (by omega)), rfl, rfl⟩
        · go_wp2_with fail
          go_meet
          exact ⟨by rw [badHead_cons]; rfl, rfl, rfl⟩
      · have t2 : (((c.toNat : Nat) : Int) == 48) = false := (u8_eq c 48).trans (beq_eq_false_iff_ne.2 hc)
        go_wp2_with fail
        go_meet
        exact ⟨by rw [badHead_cons, beq_eq_false_iff_ne.2 hc, Bool.false_and], rfl, rfl⟩
  case rest =>
  obtain ⟨rfl, rfl, rfl⟩ := hcut
  cases hbad : badHead g d
  · go_wp2_with fail
    go_loopw [43] (fun i wr => ∃ k : Nat, k ≤ d.length ∧ i = .int .i64 (k : Int) ∧ Hid (allDg d k) ∧ wr = wc) (fun i _ => d.length - (intOf i).toNat)
    case atStart => exact ⟨0, Nat.zero_le _, rfl, Lib.hid (fun i hi => absurd hi (by omega)), rfl⟩
    case round =>
      obtain ⟨k, hk, rfl, hdg, rfl⟩ := hrel
      by_cases hlt : k < d.length
      · obtain ⟨c, hc⟩ : ∃ c, d[k] = c := ⟨_, rfl⟩
        have hix := fun W => idx_at (l := d) hlt W
        rw [hc] at hix
        have hz : (str d)[k]'(by rw [hs]; exact hlt) = c := hc
        have t0 : (k : Int) < (d.length : Int) := by omega
        by_cases h1 : 48 ≤ c.toNat
        · by_cases h2 : c.toNat ≤ 57
          · have t1 : decide (((c.toNat : Nat) : Int) < 48) = false := decide_eq_false (by omega)
            have t2 : decide ((57 : Int) < ((c.toNat : Nat) : Int)) = false := decide_eq_false (by omega)
            have n1 : ¬ c.toNat < 48 := by omega
            have n2 : ¬ 57 < c.toNat := by omega
            have n3 : decide (c.toNat < 48) = false := decide_eq_false n1
            have n4 : decide (57 < c.toNat) = false := decide_eq_false n2
            have hnext : allDg d (k + 1) := fun i hi x hx => by
              rcases Nat.lt_or_ge i k with h3 | h3
              · exact hdg.out i h3 x hx
              · obtain rfl : i = k := by omega
                rw [List.getElem?_eq_getElem hlt, hc] at hx
                obtain rfl := Option.some.inj hx
                exact ⟨h1, h2⟩
            have HN := Lib.hid hnext
            clear hnext
            go_wp2_with fail
            go_roundw
            case rel => exact ⟨k + 1, by omega, by go_num, HN, by first | trivial | rfl⟩
            case measure => simp [intOf]; omega
          · have n1 : ¬ c.toNat < 48 := by omega
            have t1 : decide (((c.toNat : Nat) : Int) < 48) = false := decide_eq_false (by omega)
            have t2 : decide ((57 : Int) < ((c.toNat : Nat) : Int)) = true := decide_eq_true (by omega)
            have hno : ¬ numOK l := fun h => by
              have h3 := h.2
              rw [← HD.out] at h3
              have h4 := h3 k hlt c (by rw [List.getElem?_eq_getElem hlt, hc])
              omega
            obtain ⟨hW, hbW⟩ := store_whole hR0 hb0 (Nat.le_refl _) false (.slice none 0 0)
            have HW := Lib.hid hW
            clear hW
            go_wp2_with fail
            have hW := HW.out
            clear HW
            generalize ((wr.setCell ⟨w.heap.size, 0, none⟩ (.bool false)).setCell ⟨w.heap.size, 1, none⟩ (.slice none 0 0)) = WW at *
            obtain ⟨y0, y1⟩ := hW.cells
            refine bodyPost_ret (v := .tuple #[.agg #[.bool false, .slice none 0 0], .int .i64 10]) (by simp [results, Tryz.results90, go_sem, y0, y1]) rfl ?_
            exact .inl ⟨hno, rfl, hbW⟩
        · have t1 : decide (((c.toNat : Nat) : Int) < 48) = true := decide_eq_true (by omega)
          have hno : ¬ numOK l := fun h => by
            have h3 := h.2
            rw [← HD.out] at h3
            have h4 := h3 k hlt c (by rw [List.getElem?_eq_getElem hlt, hc])
            omega
          obtain ⟨hW, hbW⟩ := store_whole hR0 hb0 (Nat.le_refl _) false (.slice none 0 0)
          have HW := Lib.hid hW
          clear hW
          go_wp2_with fail
          have hW := HW.out
          clear HW
          generalize ((wr.setCell ⟨w.heap.size, 0, none⟩ (.bool false)).setCell ⟨w.heap.size, 1, none⟩ (.slice none 0 0)) = WW at *
          obtain ⟨y0, y1⟩ := hW.cells
          refine bodyPost_ret (v := .tuple #[.agg #[.bool false, .slice none 0 0], .int .i64 10]) (by simp [results, Tryz.results90, go_sem, y0, y1]) rfl ?_
          exact .inl ⟨hno, rfl, hbW⟩
      · obtain rfl : k = d.length := by omega
        have hok : numOK l := by
          unfold numOK
          rw [← HD.out, ← HG.out]
          exact ⟨hbad, hdg.out⟩
        have HOK := Lib.hid hok
        clear hok
        by_cases h5 : d.length ≤ 4933
        · have t1 : decide ((4933 : Int) < (d.length : Int)) = false := decide_eq_false (by omega)
          have hdgs := hdg.out
          have HDG := Lib.hid hdgs
          clear hdgs hdg hlt
          go_wp2_with fail
          go_loopw [4, 7] (fun v y wx => ∃ (k : Nat) (A : Option Addr) (c : Nat), k ≤ d.length ∧ v = .string (str (d.drop k)) ∧ y = .slice A (ln b32 (pv (d.take k))) c ∧ Num32 wx A (pv (d.take k)) ∧ ln b32 (pv (d.take k)) ≤ c ∧ WholeAt wx w.heap.size false (.slice none 0 0) ∧ Below w.heap.size w wx) (fun v _ _ => lenS v)
          case atStart =>
            refine ⟨0, none, 0, Nat.zero_le _, by simp, ?_, ?_, ?_, hR0, hb0⟩
            · rw [List.take_zero, pv_nil, ln_zero]
            · rw [List.take_zero, pv_nil]; exact Num32.zero _ _
            · rw [List.take_zero, pv_nil, ln_zero]; exact Nat.le_refl _
          case round =>
            obtain ⟨k, A, cc, hk2, rfl, rfl, hn, hcc, hRx, hbx⟩ := hrel
            by_cases hlt2 : k < d.length
            · have hs2 := str_size (d.drop k)
              rw [List.length_drop] at hs2
              obtain ⟨m, hm⟩ : ∃ m, m = d.length - k := ⟨_, rfl⟩
              rw [← hm] at hs2
              have t2 : (0 : Int) < (m : Int) := by omega
              obtain ⟨cnt, hcnt⟩ : ∃ cnt, cnt = min 9 m := ⟨_, rfl⟩
              have hc9 : cnt ≤ 9 := by omega
              have hcm : cnt ≤ m := by omega
              have hcp : 0 < cnt := by omega
              have hmin : min (9 : Int) (m : Int) = (cnt : Int) := by omega
              have HM := Lib.hid hm
              clear hm hcnt
              go_wp2_with fail
              obtain ⟨e, he⟩ : ∃ e, e = d.drop k := ⟨_, rfl⟩
              rw [← he] at hs2 ⊢
              have hel : e.length = m := by rw [he, List.length_drop, HM.out]
              have hed : ∀ j, j < m → ∀ x, e[j]? = some x → 48 ≤ x.toNat ∧ x.toNat ≤ 57 := by
                intro j hj x hx
                rw [he, List.getElem?_drop] at hx
                exact HDG.out (k + j) (by have := HM.out; omega) x hx
              have HE := Lib.hid he
              clear he
              go_loopw [9, 10, 69] (fun x y i wy => ∃ j : Nat, j ≤ cnt ∧ i = .int .i64 (j : Int) ∧ x = .int .u32 ((10 ^ j : Nat) : Int) ∧ y = .int .u32 ((pv (e.take j) : Nat) : Int) ∧ wy = wr) (fun _ _ i _ => cnt - (intOf i).toNat)
              case atStart => exact ⟨0, Nat.zero_le _, rfl, rfl, by rw [List.take_zero]; rfl, rfl⟩
              case round =>
                obtain ⟨j, hj, rfl, rfl, rfl, rfl⟩ := hrel
                by_cases hj2 : j < cnt
                · have hje : j < e.length := by omega
                  obtain ⟨c, hc⟩ : ∃ c, e[j] = c := ⟨_, rfl⟩
                  have hc2 := hed j (by omega) c (by rw [List.getElem?_eq_getElem hje, hc])
                  have hix := fun W => idx_at (l := e) hje W
                  rw [hc] at hix
                  have t3 : (j : Int) < (cnt : Int) := by omega
                  have t4 : (j : Int) < (m : Int) := by omega
                  have hp10 : 10 ^ j ≤ 100000000 := Nat.pow_le_pow_right (n := 10) (by decide) (show j ≤ 8 by omega)
                  have htk : pv (e.take j) < 100000000 := by
                    have h6 := pv_lt (e.take j) (fun x hx => by
                      obtain ⟨i, hi, rfl⟩ := List.mem_take_iff_getElem.1 hx
                      exact (hed i (by omega) _ (List.getElem?_eq_getElem _)).2)
                    rw [List.length_take, Nat.min_eq_left (by omega)] at h6
                    omega
                  have hstep : pv (e.take (j + 1)) = pv (e.take j) * 10 + (c.toNat - 48) := by
                    rw [List.take_succ_eq_append_getElem hje, pv_snoc, hc]
                  have HST := Lib.hid hstep
                  obtain ⟨V, hV⟩ : ∃ V, V = pv (e.take j) := ⟨_, rfl⟩
                  rw [← hV] at htk ⊢
                  have HV := Lib.hid hV
                  obtain ⟨T, hT⟩ : ∃ T, T = 10 ^ j := ⟨_, rfl⟩
                  rw [← hT] at hp10 ⊢
                  have HT := Lib.hid hT
                  clear hstep hV hT
                  have o1 : IntKind.u32.wrap ((T : Int) * 10) = (T : Int) * 10 := by rw [IntKind.wrap_u32]; omega
                  have o2 : IntKind.u32.wrap ((V : Int) * 10) = (V : Int) * 10 := by rw [IntKind.wrap_u32]; omega
                  have o3 : IntKind.u8.wrap (((c.toNat : Nat) : Int) - 48) = ((c.toNat : Nat) : Int) - 48 := by rw [IntKind.wrap_u8]; omega
                  have o4 : IntKind.u32.wrap (((c.toNat : Nat) : Int) - 48) = ((c.toNat : Nat) : Int) - 48 := by rw [IntKind.wrap_u32]; omega
                  have o5 : IntKind.u32.wrap ((V : Int) * 10 + (((c.toNat : Nat) : Int) - 48)) = (V : Int) * 10 + (((c.toNat : Nat) : Int) - 48) := by rw [IntKind.wrap_u32]; omega
                  go_wp2_with fail
                  go_roundw
                  case rel => exact ⟨j + 1, by omega, by go_num, by rw [Nat.pow_succ, ← HT.out]; go_num, by rw [HST.out, ← HV.out]; congr 1; omega, by first | trivial | rfl⟩
                  case measure => simp [intOf]; omega
                · obtain rfl : j = cnt := by omega
                  have hxl : ln b32 (pv (d.take k)) ≤ 1000000 := by
                    have h6 := pv_lt (d.take k) (fun x hx => by
                      obtain ⟨i, hi, rfl⟩ := List.mem_take_iff_getElem.1 hx
                      exact (HDG.out i (by omega) _ (List.getElem?_eq_getElem _)).2)
                    have h7 : ln b32 (pv (d.take k)) ≤ (d.take k).length := (ln_le b32_two).2 (Nat.lt_of_lt_of_le h6 (Nat.pow_le_pow_left (by decide) _))
                    rw [List.length_take] at h7
                    omega
                  have hpl : pv (e.take j) < 4294967296 := by
                    have h6 := pv_lt (e.take j) (fun x hx => by
                      obtain ⟨i, hi, rfl⟩ := List.mem_take_iff_getElem.1 hx
                      exact (hed i (by omega) _ (List.getElem?_eq_getElem _)).2)
                    rw [List.length_take, Nat.min_eq_left (by omega)] at h6
                    have h8 : 10 ^ j ≤ 1000000000 := Nat.pow_le_pow_right (n := 10) (by decide) hc9
                    omega
                  have hFl : 10 ^ j < 4294967296 := by
                    have h8 : 10 ^ j ≤ 1000000000 := Nat.pow_le_pow_right (n := 10) (by decide) hc9
                    omega
                  have hval : pv (d.take (k + j)) = pv (d.take k) * 10 ^ j + pv (e.take j) := by
                    rw [List.take_add, ← HE.out, pv_append, List.length_take, Nat.min_eq_left (by omega)]
                  have hdr : e.drop j = d.drop (k + j) := by rw [HE.out, List.drop_drop]
                  have hsd := str_drop (l := e) (k := j) (by omega)
                  have hsl := fun W => slice_at (l := e) (k := j) (by omega) W
                  rw [hdr] at hsd hsl
                  rw [hel] at hsd
                  obtain ⟨F, hF⟩ : ∃ F, F = 10 ^ j := ⟨_, rfl⟩
                  obtain ⟨p, hp⟩ : ∃ p, p = pv (e.take j) := ⟨_, rfl⟩
                  obtain ⟨x, hx⟩ : ∃ x, x = pv (d.take k) := ⟨_, rfl⟩
                  rw [← hF] at hFl hval ⊢
                  rw [← hp] at hpl hval ⊢
                  rw [← hx] at hxl hval hn hcc ⊢
                  have HVAL := Lib.hid hval
                  clear hF hp hx hval hed
                  have t4 : (j : Int) ≤ (m : Int) := by omega
                  go_wp2_with fail
                  refine (timesShort_any A cc x F p wr hn hFl hpl hxl).mono ?_
                  rintro e2 w7 ⟨A7, c7, rfl, hc7, hn7, hb7⟩
                  go_wp2_with fail
                  go_roundw
                  case rel => exact ⟨k + j, A7, c7, by have := HM.out; omega, rfl, by rw [HVAL.out], by rw [HVAL.out]; exact hn7, by rw [HVAL.out]; exact hc7, hRx.below hb7 hRx.lt, hbx.trans (hb7.mono hbx.size)⟩
                  case measure =>
                    show (str (List.drop (k + j) d)).size < (str (List.drop k d)).size
                    rw [str_size, str_size, List.length_drop, List.length_drop]
                    omega
            · obtain rfl : k = d.length := by omega
              rw [List.take_length] at hn hcc ⊢
              rw [List.drop_length]
              have hs3 := str_size []
              have hxl : ln b32 (pv d) ≤ 1000000 := by
                have h6 := pv_lt d (fun x hx => by
                  obtain ⟨i, hi, rfl⟩ := List.mem_iff_getElem.1 hx
                  exact (HDG.out i hi _ (List.getElem?_eq_getElem _)).2)
                have h7 : ln b32 (pv d) ≤ d.length := (ln_le b32_two).2 (Nat.lt_of_lt_of_le h6 (Nat.pow_le_pow_left (by decide) _))
                omega
              go_wp2_with fail
              refine (result_any g A cc (pv d) wr hn hcc hxl).mono ?_
              rintro e2 w8 hri
              obtain ⟨s', A', n', c', kk, rfl, hv, hb8⟩ := hri.vals
              have hR8 := hRx.below hb8 hRx.lt
              have hbl8 := hbx.trans (hb8.mono hbx.size)
              obtain ⟨q0, q1⟩ := hR8.cells
              have g2 := hR8.frozen 0
              have g3 := hR8.frozen 1
              obtain ⟨hW, hbW⟩ := store_whole hR8 hbl8 (Nat.le_refl _) s' (.slice A' n' c')
              have hv2 := (hv.store hRx.lt s' (.slice A' n' c')).lower hbx.size
              have HW := Lib.hid hW
              have HV2 := Lib.hid hv2
              clear hv hri hW hv2
              go_wp2_with fail
              have hW := HW.out
              have hv2 := HV2.out
              clear HW HV2
              generalize ((w8.setCell ⟨w.heap.size, 0, none⟩ (.bool s')).setCell ⟨w.heap.size, 1, none⟩ (.slice A' n' c')) = WW at *
              obtain ⟨y0, y1⟩ := hW.cells
              refine bodyPost_ret (v := .tuple #[.agg #[.bool s', .slice A' n' c'], .int .i64 kk]) (by simp [results, Tryz.results90, go_sem, y0, y1]) rfl ?_
              refine .inr (.inr ⟨HOK.out, by rw [← HD.out]; exact h5, ?_⟩)
              rw [← HD.out, ← HG.out]
              exact hv2.ri hbW
        · have t1 : decide ((4933 : Int) < (d.length : Int)) = true := decide_eq_true (by omega)
          have hlong : 4933 < (bodyT l).length := by rw [← HD.out]; omega
          have HLO := Lib.hid hlong
          clear hlong
          obtain ⟨hW, hbW⟩ := store_whole hR0 hb0 (Nat.le_refl _) false (.slice none 0 0)
          have HW := Lib.hid hW
          clear hW
          go_wp2_with fail
          have hW := HW.out
          clear HW
          generalize ((wr.setCell ⟨w.heap.size, 0, none⟩ (.bool false)).setCell ⟨w.heap.size, 1, none⟩ (.slice none 0 0)) = WW at *
          obtain ⟨y0, y1⟩ := hW.cells
          refine bodyPost_ret (v := .tuple #[.agg #[.bool false, .slice none 0 0], .int .i64 3]) (by simp [results, Tryz.results90, go_sem, y0, y1]) rfl ?_
          exact .inr (.inl ⟨HOK.out, HLO.out, rfl, hbW⟩)
  · have hno : ¬ numOK l := fun h => by
      have h1 := h.1
      rw [← HD.out, ← HG.out, hbad] at h1
      cases h1
    obtain ⟨hW, hbW⟩ := store_whole hR0 hb0 (Nat.le_refl _) false (.slice none 0 0)
    have HW := Lib.hid hW
    clear hW
    go_wp2_with fail
    have hW := HW.out
    clear HW
    generalize ((wc.setCell ⟨w.heap.size, 0, none⟩ (.bool false)).setCell ⟨w.heap.size, 1, none⟩ (.slice none 0 0)) = WW at *
    obtain ⟨y0, y1⟩ := hW.cells
    refine bodyPost_ret (v := .tuple #[.agg #[.bool false, .slice none 0 0], .int .i64 10]) (by simp [results, Tryz.results90, go_sem, y0, y1]) rfl ?_
    exact .inl ⟨hno, rfl, hbW⟩
end Go.Proofs.YtifikcemcflgjaaGreat
namespace Go.Proofs.YtifikcemcflgjaaGreat
open Go.RowKit

theorem below_drewN (B n : Nat) (w : World) : Below B w (w.drewN n) := by
  induction n with
  | zero => exact Below.refl _ _
  | succ n ih => exact ih.trans (⟨rfl, rfl, rfl, Nat.le_refl _, fun _ _ => rfl⟩ : Below B (w.drewN n) (w.drewN n).drew)
theorem parse_w {l : List UInt8} {z : Int} (w : World) (hl : l.length ≤ 1000000) (hok : numOK l) (hlen : (bodyT l).length ≤ 4933) (hz : toI (negT l) (pv (bodyT l)) = z) (hln : ln b16 z.natAbs ≤ 1024) :
    Calls Tryz.prog 90 #[.string (str l)] w (WOK z w) := by
  refine (parse_walk l w hl).mono ?_
  rintro e w' (⟨h, _⟩ | ⟨_, h, _⟩ | ⟨_, _, h⟩)
  · exact absurd hok h
  · omega
  · rw [hz] at h
    rcases h with ⟨_, A, c, he, ho, hb⟩ | ⟨h, _⟩
    · exact ⟨_, A, _, c, he, ⟨rfl, rfl, ho.num⟩, hb⟩
    · omega
theorem numOK_digit (c : UInt8) (h : 48 ≤ c.toNat ∧ c.toNat ≤ 57) : numOK [c] := by
  have hn : negT [c] = false := by
    unfold negT
    show (some c == some 45) = false
    rw [beq_eq_false_iff_ne]
    intro e
    injection e with e
    subst e
    exact absurd h.1 (by decide)
  have hbd : bodyT [c] = [c] := by unfold bodyT; rw [hn]; rfl
  refine ⟨?_, ?_⟩
  · rw [hbd, hn]
    simp [badHead]
  · rw [hbd]
    intro i hi d hd
    match i, hi with
    | 0, _ =>
      have : c = d := by simpa using hd
      subst this
      exact h
    | i + 1, hi => simp at hi
set_option linter.unusedSimpArgs false in
set_option maxRecDepth 100000 in
set_option maxHeartbeats 4000000 in
theorem fparse_24 (w : World) {k : Int} (hm : w.cell? ⟨0, 0, none⟩ = some (.int .i64 k)) (hlt : 0 < w.heap.size) :
    Calls Tryz.prog 51 #[.string ⟨#[50, 47, 52]⟩] w (FErr 21 w) := by
  have hE := (Env.start w).blk 26 #[.bool false, .slice none 0 0, .bool false, .slice none 0 0] (g := w.heap.size) rfl
  have hm0 : (w.alloc (.cells #[.bool false, .slice none 0 0, .bool false, .slice none 0 0] 26)).cell? ⟨0, 0, none⟩ = some (.int .i64 k) := (((Below.refl _ w).alloc (Nat.le_refl _) _).cell (p := ⟨0, 0, none⟩) hlt).trans hm
  obtain ⟨W0, hW0⟩ : ∃ W0, W0 = w.alloc (.cells #[.bool false, .slice none 0 0, .bool false, .slice none 0 0] 26) := ⟨_, rfl⟩
  rw [← hW0] at hE hm0
  have HW0 := Lib.hid hW0
  clear hW0 hm hlt
  go_enter Tryz.func51, Tryz.ntmps51
  go_upto_region 1 with (fail)
  rw [← HW0.out]
  go_wp2_with fail
  have hc := Tryz.strings_Cut ⟨#[50, 47, 52]⟩ ⟨#[47]⟩ k W0 (by decide) hm0
  rw [show Lib.cut (ByteArray.mk #[50, 47, 52]).data.toList (ByteArray.mk #[47]).data.toList = ([50], [52], true) by decide] at hc
  refine hc.mono ?_
  clear hc hm0
  rintro e w1 ⟨rfl, j, rfl⟩
  replace hE := hE.step (below_drewN _ j W0)
  generalize W0.drewN j = w1 at hE ⊢
  go_wp2_with fail
  have hc : Calls Tryz.prog 90 #[.string ⟨#[50]⟩] _ (WOK 2 _) := parse_w (l := [50]) (z := 2) w1 (by decide) (numOK_digit 50 (by decide)) (by decide) (by decide) (by decide)
  refine hc.mono ?_
  clear hc
  rintro e w1 ⟨sx, Ax, nx, cx, rfl, hx, hb⟩
  replace hE := hE.step hb
  clear hb
  replace hE := hE.wv hx
  clear hx
  go_upto_region 3 with (fail)
  obtain ⟨g2, hg2⟩ : ∃ g2, g2 = w1.heap.size := ⟨_, rfl⟩
  have hl2_0 : w.heap.size < g2 := by rw [hg2]; exact (hE.here.1.2).lt
  replace hE := hE.blk 24 #[.bool sx, .slice Ax nx cx] (g := g2) hg2.symm
  generalize w1.alloc (.cells #[.bool sx, .slice Ax nx cx] 24) = W2 at hE ⊢
  rw [← hg2]
  clear hg2
  go_wp2_with fail
  have hc := fromInt_v 1 W2 (by decide) (by decide)
  refine hc.mono ?_
  clear hc
  rintro e w3 ⟨so, Ao, no, co, rfl, ho, hb⟩
  replace hE := hE.step hb
  clear hb
  replace hE := hE.wv ho
  clear ho
  go_upto_region 4 with (fail)
  obtain ⟨g4, hg4⟩ : ∃ g4, g4 = w3.heap.size := ⟨_, rfl⟩
  have hl4_0 : w.heap.size < g4 := by rw [hg4]; exact (hE.here.1.1.1.2).lt
  have hl4_2 : g2 < g4 := by rw [hg4]; exact (hE.here.1.2).lt
  replace hE := hE.blk 24 #[.bool so, .slice Ao no co] (g := g4) hg4.symm
  generalize w3.alloc (.cells #[.bool so, .slice Ao no co] 24) = W4 at hE ⊢
  rw [← hg4]
  clear hg4
  go_wp2_with fail
  have hc : Calls Tryz.prog 90 #[.string ⟨#[52]⟩] _ (WOK 4 _) := parse_w (l := [52]) (z := 4) W4 (by decide) (numOK_digit 52 (by decide)) (by decide) (by decide) (by decide)
  refine hc.mono ?_
  clear hc
  rintro e w5 ⟨sy, Ay, ny, cy, rfl, hy, hb⟩
  replace hE := hE.step hb
  clear hb
  replace hE := hE.wv hy
  clear hy
  have hgl6 : w.heap.size ≤ g4 := by omega
  obtain ⟨x6_0, x6_1⟩ := (hE.here.1.2).c2
  obtain ⟨f6_0, f6_1⟩ := hE.here.1.2.f2
  replace hE := (((((((Env.again (bel2 hE.bel hgl6 (.bool sy) (.slice Ay ny cy))).blkI ((hE.here.1.1.1.1.1.2).far2 (R := g4) (by omega) (.bool sy) (.slice Ay ny cy))).wv ((hE.here.1.1.1.1.2).sep2 hE.here.1.2 rfl (.bool sy) (.slice Ay ny cy) rfl)).blkI ((hE.here.1.1.1.2).far2 (R := g4) (by omega) (.bool sy) (.slice Ay ny cy))).wv ((hE.here.1.1.2).sep2 hE.here.1.2 rfl (.bool sy) (.slice Ay ny cy) rfl)).blkI ((hE.here.1.2).s2 (.bool sy) (.slice Ay ny cy))).wv ((hE.here.2).sep2 hE.here.1.2 rfl (.bool sy) (.slice Ay ny cy) rfl))
  go_upto_region 6 with (fail)
  clear x6_0 x6_1 f6_0 f6_1 hgl6
  generalize ((w5.setCell ⟨g4, 0, none⟩ (.bool sy)).setCell ⟨g4, 1, none⟩ (.slice Ay ny cy)) = W6 at hE ⊢
  go_upto_region 10 with (fail)
  obtain ⟨k7, k8⟩ := (hE.here.1.1.1.2).c2
  obtain ⟨k9, k10⟩ := (hE.here.1.2).c2
  go_upto_region 11 with (fail)
  clear k7 k8 k9 k10
  obtain ⟨g11, hg11⟩ : ∃ g11, g11 = W6.heap.size := ⟨_, rfl⟩
  have hl11_0 : w.heap.size < g11 := by rw [hg11]; exact (hE.here.1.1.1.1.1.2).lt
  have hl11_2 : g2 < g11 := by rw [hg11]; exact (hE.here.1.1.1.2).lt
  have hl11_4 : g4 < g11 := by rw [hg11]; exact (hE.here.1.2).lt
  replace hE := hE.blk 65 #[.bool sx, .slice Ax nx cx, .bool sy, .slice Ay ny cy] (g := g11) hg11.symm
  generalize W6.alloc (.cells #[.bool sx, .slice Ax nx cx, .bool sy, .slice Ay ny cy] 65) = W11 at hE ⊢
  rw [← hg11]
  clear hg11
  obtain ⟨k12, k13, k14, k15⟩ := (hE.here.2).c4
  go_wp2_with fail
  refine (flong_r sx sy Ax Ay nx ny cx cy _ false (by rw [(hE.here.1.1.1.1.1.2).len, (hE.here.1.2).len]; decide)).mono ?_
  clear k12 k13 k14 k15
  rintro e w8 ⟨rfl, hb⟩
  replace hE := hE.step hb
  clear hb
  obtain ⟨k16, k17, k18, k19⟩ := (hE.here.2).c4
  go_wp2_with fail
  have hx := hE.here.1.1.1.1.1.2
  have hy := hE.here.1.2
  have hok : okF sx nx (dgt b16 2) sy ny (dgt b16 4) = false := by rw [hx.sgn, hy.sgn, hx.len, hy.len]; decide +kernel
  have hrd : FRd w8 Ax nx (dgt b16 2) Ay ny (dgt b16 4) := ⟨by have := hx.2.2; unfold Num16 at this; rw [← hx.2.1] at this; exact this, by have := hy.2.2; unfold Num16 at this; rw [← hy.2.1] at this; exact this, fun j _ => dgt16_lt _ j, fun j _ => dgt16_lt _ j⟩
  have l1 : nx ≤ 1000000 := by rw [hx.len]; decide
  have l2 : ny ≤ 1000000 := by rw [hy.len]; decide
  refine (ftvalid_r sx sy Ax Ay nx ny cx cy _ _ _ hrd l1 l2 false hok).mono ?_
  clear k16 k17 k18 k19
  clear hx hy hok hrd l1 l2
  rintro e w9 ⟨rfl, hb⟩
  replace hE := hE.step hb
  clear hb
  obtain ⟨k20, k21, k22, k23⟩ := (hE.here.1.1.1.1.1.1.2).c4
  have z0 := (hE.here.1.1.1.1.1.1.2).frozen 0
  have z1 := (hE.here.1.1.1.1.1.1.2).frozen 1
  have z2 := (hE.here.1.1.1.1.1.1.2).frozen 2
  have z3 := (hE.here.1.1.1.1.1.1.2).frozen 3
  have hbl := bel4 hE.bel (Nat.le_refl _) (.bool false) (.slice none 0 0) (.bool false) (.slice none 0 0)
  have hB := (hE.here.1.1.1.1.1.1.2).s4 (.bool false) (.slice none 0 0) (.bool false) (.slice none 0 0)
  clear hE
  go_wp2_with fail
  obtain ⟨y0, y1, y2, y3⟩ := hB.c4
  refine bodyPost_ret (v := .tuple #[.agg #[.bool false, .slice none 0 0, .bool false, .slice none 0 0], .int .i64 21]) (by simp [results, Tryz.results51, go_sem, y0, y1, y2, y3]) rfl ?_
  exact ⟨rfl, hbl⟩
set_option linter.unusedSimpArgs false in
set_option maxRecDepth 100000 in
set_option maxHeartbeats 4000000 in
theorem fparse_02 (w : World) {k : Int} (hm : w.cell? ⟨0, 0, none⟩ = some (.int .i64 k)) (hlt : 0 < w.heap.size) :
    Calls Tryz.prog 51 #[.string ⟨#[48, 47, 50]⟩] w (FErr 21 w) := by
  have hE := (Env.start w).blk 26 #[.bool false, .slice none 0 0, .bool false, .slice none 0 0] (g := w.heap.size) rfl
  have hm0 : (w.alloc (.cells #[.bool false, .slice none 0 0, .bool false, .slice none 0 0] 26)).cell? ⟨0, 0, none⟩ = some (.int .i64 k) := (((Below.refl _ w).alloc (Nat.le_refl _) _).cell (p := ⟨0, 0, none⟩) hlt).trans hm
  obtain ⟨W0, hW0⟩ : ∃ W0, W0 = w.alloc (.cells #[.bool false, .slice none 0 0, .bool false, .slice none 0 0] 26) := ⟨_, rfl⟩
  rw [← hW0] at hE hm0
  have HW0 := Lib.hid hW0
  clear hW0 hm hlt
  go_enter Tryz.func51, Tryz.ntmps51
  go_upto_region 1 with (fail)
  rw [← HW0.out]
  go_wp2_with fail
  have hc := Tryz.strings_Cut ⟨#[48, 47, 50]⟩ ⟨#[47]⟩ k W0 (by decide) hm0
  rw [show Lib.cut (ByteArray.mk #[48, 47, 50]).data.toList (ByteArray.mk #[47]).data.toList = ([48], [50], true) by decide] at hc
  refine hc.mono ?_
  clear hc hm0
  rintro e w1 ⟨rfl, j, rfl⟩
  replace hE := hE.step (below_drewN _ j W0)
  generalize W0.drewN j = w1 at hE ⊢
  go_wp2_with fail
  have hc : Calls Tryz.prog 90 #[.string ⟨#[48]⟩] _ (WOK 0 _) := parse_w (l := [48]) (z := 0) w1 (by decide) (numOK_digit 48 (by decide)) (by decide) (by decide) (by decide)
  refine hc.mono ?_
  clear hc
  rintro e w1 ⟨sx, Ax, nx, cx, rfl, hx, hb⟩
  replace hE := hE.step hb
  clear hb
  replace hE := hE.wv hx
  clear hx
  go_upto_region 3 with (fail)
  obtain ⟨g2, hg2⟩ : ∃ g2, g2 = w1.heap.size := ⟨_, rfl⟩
  have hl2_0 : w.heap.size < g2 := by rw [hg2]; exact (hE.here.1.2).lt
  replace hE := hE.blk 24 #[.bool sx, .slice Ax nx cx] (g := g2) hg2.symm
  generalize w1.alloc (.cells #[.bool sx, .slice Ax nx cx] 24) = W2 at hE ⊢
  rw [← hg2]
  clear hg2
  go_wp2_with fail
  have hc := fromInt_v 1 W2 (by decide) (by decide)
  refine hc.mono ?_
  clear hc
  rintro e w3 ⟨so, Ao, no, co, rfl, ho, hb⟩
  replace hE := hE.step hb
  clear hb
  replace hE := hE.wv ho
  clear ho
  go_upto_region 4 with (fail)
  obtain ⟨g4, hg4⟩ : ∃ g4, g4 = w3.heap.size := ⟨_, rfl⟩
  have hl4_0 : w.heap.size < g4 := by rw [hg4]; exact (hE.here.1.1.1.2).lt
  have hl4_2 : g2 < g4 := by rw [hg4]; exact (hE.here.1.2).lt
  replace hE := hE.blk 24 #[.bool so, .slice Ao no co] (g := g4) hg4.symm
  generalize w3.alloc (.cells #[.bool so, .slice Ao no co] 24) = W4 at hE ⊢
  rw [← hg4]
  clear hg4
  go_wp2_with fail
  have hc : Calls Tryz.prog 90 #[.string ⟨#[50]⟩] _ (WOK 2 _) := parse_w (l := [50]) (z := 2) W4 (by decide) (numOK_digit 50 (by decide)) (by decide) (by decide) (by decide)
  refine hc.mono ?_
  clear hc
  rintro e w5 ⟨sy, Ay, ny, cy, rfl, hy, hb⟩
  replace hE := hE.step hb
  clear hb
  replace hE := hE.wv hy
  clear hy
  have hgl6 : w.heap.size ≤ g4 := by omega
  obtain ⟨x6_0, x6_1⟩ := (hE.here.1.2).c2
  obtain ⟨f6_0, f6_1⟩ := hE.here.1.2.f2
  replace hE := (((((((Env.again (bel2 hE.bel hgl6 (.bool sy) (.slice Ay ny cy))).blkI ((hE.here.1.1.1.1.1.2).far2 (R := g4) (by omega) (.bool sy) (.slice Ay ny cy))).wv ((hE.here.1.1.1.1.2).sep2 hE.here.1.2 rfl (.bool sy) (.slice Ay ny cy) rfl)).blkI ((hE.here.1.1.1.2).far2 (R := g4) (by omega) (.bool sy) (.slice Ay ny cy))).wv ((hE.here.1.1.2).sep2 hE.here.1.2 rfl (.bool sy) (.slice Ay ny cy) rfl)).blkI ((hE.here.1.2).s2 (.bool sy) (.slice Ay ny cy))).wv ((hE.here.2).sep2 hE.here.1.2 rfl (.bool sy) (.slice Ay ny cy) rfl))
  go_upto_region 6 with (fail)
  clear x6_0 x6_1 f6_0 f6_1 hgl6
  generalize ((w5.setCell ⟨g4, 0, none⟩ (.bool sy)).setCell ⟨g4, 1, none⟩ (.slice Ay ny cy)) = W6 at hE ⊢
  go_upto_region 10 with (fail)
  obtain ⟨k7, k8⟩ := (hE.here.1.1.1.2).c2
  obtain ⟨k9, k10⟩ := (hE.here.1.2).c2
  go_upto_region 11 with (fail)
  clear k7 k8 k9 k10
  obtain ⟨g11, hg11⟩ : ∃ g11, g11 = W6.heap.size := ⟨_, rfl⟩
  have hl11_0 : w.heap.size < g11 := by rw [hg11]; exact (hE.here.1.1.1.1.1.2).lt
  have hl11_2 : g2 < g11 := by rw [hg11]; exact (hE.here.1.1.1.2).lt
  have hl11_4 : g4 < g11 := by rw [hg11]; exact (hE.here.1.2).lt
  replace hE := hE.blk 65 #[.bool sx, .slice Ax nx cx, .bool sy, .slice Ay ny cy] (g := g11) hg11.symm
  generalize W6.alloc (.cells #[.bool sx, .slice Ax nx cx, .bool sy, .slice Ay ny cy] 65) = W11 at hE ⊢
  rw [← hg11]
  clear hg11
  obtain ⟨k12, k13, k14, k15⟩ := (hE.here.2).c4
  go_wp2_with fail
  refine (flong_r sx sy Ax Ay nx ny cx cy _ false (by rw [(hE.here.1.1.1.1.1.2).len, (hE.here.1.2).len]; decide)).mono ?_
  clear k12 k13 k14 k15
  rintro e w8 ⟨rfl, hb⟩
  replace hE := hE.step hb
  clear hb
  obtain ⟨k16, k17, k18, k19⟩ := (hE.here.2).c4
  go_wp2_with fail
  have hx := hE.here.1.1.1.1.1.2
  have hy := hE.here.1.2
  have hok : okF sx nx (dgt b16 0) sy ny (dgt b16 2) = false := by rw [hx.sgn, hy.sgn, hx.len, hy.len]; decide +kernel
  have hrd : FRd w8 Ax nx (dgt b16 0) Ay ny (dgt b16 2) := ⟨by have := hx.2.2; unfold Num16 at this; rw [← hx.2.1] at this; exact this, by have := hy.2.2; unfold Num16 at this; rw [← hy.2.1] at this; exact this, fun j _ => dgt16_lt _ j, fun j _ => dgt16_lt _ j⟩
  have l1 : nx ≤ 1000000 := by rw [hx.len]; decide
  have l2 : ny ≤ 1000000 := by rw [hy.len]; decide
  refine (ftvalid_r sx sy Ax Ay nx ny cx cy _ _ _ hrd l1 l2 false hok).mono ?_
  clear k16 k17 k18 k19
  clear hx hy hok hrd l1 l2
  rintro e w9 ⟨rfl, hb⟩
  replace hE := hE.step hb
  clear hb
  obtain ⟨k20, k21, k22, k23⟩ := (hE.here.1.1.1.1.1.1.2).c4
  have z0 := (hE.here.1.1.1.1.1.1.2).frozen 0
  have z1 := (hE.here.1.1.1.1.1.1.2).frozen 1
  have z2 := (hE.here.1.1.1.1.1.1.2).frozen 2
  have z3 := (hE.here.1.1.1.1.1.1.2).frozen 3
  have hbl := bel4 hE.bel (Nat.le_refl _) (.bool false) (.slice none 0 0) (.bool false) (.slice none 0 0)
  have hB := (hE.here.1.1.1.1.1.1.2).s4 (.bool false) (.slice none 0 0) (.bool false) (.slice none 0 0)
  clear hE
  go_wp2_with fail
  obtain ⟨y0, y1, y2, y3⟩ := hB.c4
  refine bodyPost_ret (v := .tuple #[.agg #[.bool false, .slice none 0 0, .bool false, .slice none 0 0], .int .i64 21]) (by simp [results, Tryz.results51, go_sem, y0, y1, y2, y3]) rfl ?_
  exact ⟨rfl, hbl⟩
end Go.Proofs.YtifikcemcflgjaaGreat
namespace Go.Proofs.YtifikcemcflgjaaGreat
open Go.RowKit

set_option linter.unusedSimpArgs false in
set_option maxRecDepth 100000 in
set_option maxHeartbeats 4000000 in
theorem fdiv_zero {a b : Rat} {sa ta sb tb : Bool} {Aa Ba Ab Bb : Option Addr} {na ca ma da nb cb mb db : Nat} {w : World} (ha : FV w a sa Aa na ta Ba ma) (hb : FV w b sb Ab nb tb Bb mb) (la : fl a ≤ 256) (lb : fl b ≤ 256) (hb0 : b.num = 0) :
    Calls Tryz.prog 37 #[.agg #[.bool sa, .slice Aa na ca, .bool ta, .slice Ba ma da], .agg #[.bool sb, .slice Ab nb cb, .bool tb, .slice Bb mb db]] w (FErr 20 w) := by
  have hE := ((((Env.start w).fv ha).fv hb).blk 26 #[.bool sa, .slice Aa na ca, .bool ta, .slice Ba ma da] (g := w.heap.size) rfl).blk 26 #[.bool sb, .slice Ab nb cb, .bool tb, .slice Bb mb db] (g := w.heap.size + 1) (by simp)
  have hE := hE.blk 26 #[.bool false, .slice none 0 0, .bool false, .slice none 0 0] (g := w.heap.size + 1 + 1) (by simp)
  obtain ⟨W0, hW0⟩ : ∃ W0, W0 = (((w.alloc (.cells #[.bool sa, .slice Aa na ca, .bool ta, .slice Ba ma da] 26)).alloc (.cells #[.bool sb, .slice Ab nb cb, .bool tb, .slice Bb mb db] 26)).alloc (.cells #[.bool false, .slice none 0 0, .bool false, .slice none 0 0] 26)) := ⟨_, rfl⟩
  rw [← hW0] at hE
  have HW0 := Lib.hid hW0
  clear hW0
  go_enter Tryz.func37, Tryz.ntmps37
  go_upto_region 1 with (fail)
  rw [← HW0.out]
  obtain ⟨k1, k2, k3, k4⟩ := (hE.here.1.1.2).c4
  obtain ⟨k5, k6, k7, k8⟩ := (hE.here.1.2).c4
  go_wp2_with fail
  have hc := fallValid_v (c := ca) (d := da) (c2 := cb) (d2 := db) hE.here.1.1.1.1.2 hE.here.1.1.1.2 la lb
  refine hc.mono ?_
  clear hc
  clear k1 k2 k3 k4 k5 k6 k7 k8
  rintro e w9 ⟨rfl, hb⟩
  replace hE := hE.step hb
  clear hb
  obtain ⟨k10, k11, k12, k13⟩ := (hE.here.1.2).c4
  go_wp2_with fail
  have hc := ftzero_v (c := cb) (d := db) hE.here.1.1.1.2 true (decide_eq_true hb0)
  refine hc.mono ?_
  clear hc
  clear k10 k11 k12 k13
  rintro e w14 ⟨rfl, hb⟩
  replace hE := hE.step hb
  clear hb
  go_upto_region 4 with (fail)
  have hRl : w.heap.size ≤ w.heap.size + 1 + 1 := by omega
  have hB := (hE.here.2).s4 (.bool false) (.slice none 0 0) (.bool false) (.slice none 0 0)
  have hBel := bel4 hE.bel hRl (.bool false) (.slice none 0 0) (.bool false) (.slice none 0 0)
  obtain ⟨WW, hWW⟩ : ∃ x, x = (((w14.setCell ⟨w.heap.size + 1 + 1, 0, none⟩ (.bool false)).setCell ⟨w.heap.size + 1 + 1, 1, none⟩ (.slice none 0 0)).setCell ⟨w.heap.size + 1 + 1, 2, none⟩ (.bool false)).setCell ⟨w.heap.size + 1 + 1, 3, none⟩ (.slice none 0 0) := ⟨_, rfl⟩
  rw [← hWW] at hB hBel
  obtain ⟨x0, x1, x2, x3⟩ := (hE.here.2).c4
  obtain ⟨fz0, fz1, fz2, fz3⟩ := hE.here.2.f4
  have HWW := Lib.hid hWW
  clear hWW
  go_wp2_with fail
  clear x0 x1 x2 x3
  rw [← HWW.out]
  obtain ⟨y0, y1, y2, y3⟩ := hB.c4
  refine bodyPost_ret (v := .tuple #[.agg #[.bool false, .slice none 0 0, .bool false, .slice none 0 0], .int .i64 20]) (by simp [results, Tryz.results37, go_sem, y0, y1, y2, y3]) rfl ?_
  exact ⟨rfl, hBel⟩
end Go.Proofs.YtifikcemcflgjaaGreat
namespace Go.Proofs.YtifikcemcflgjaaGreat
open Go.RowKit
attribute [local go_sem] Oper.semAt_some

set_option maxRecDepth 100000 in
theorem valid_all (s : Bool) (A : Option Addr) (n c : Nat) (f : Nat → Nat) (w : World) (h : Rd w.heap.size .u16 w A n f) (hf : ∀ i, i < n → f i < 65536) :
    Calls Tryz.prog 40 #[.agg #[.bool s, .slice A n c]] w fun e w' => e = .returned (.bool (okW s n f)) ∧ Below w.heap.size w w' := by
  go_enter Tryz.func40, Tryz.ntmps40
  by_cases h0 : n = 0
  · subst h0
    go_wp2_with fail
    go_ret
    exact ⟨by simp [okW], (Below.refl _ _).alloc (Nat.le_refl _) _⟩
  · obtain ⟨b, o, rfl, hb, hc⟩ := h (by omega)
    have c1 := hc (n - 1) (by omega)
    have f1 := hf (n - 1) (by omega)
    have hi1 : 0 ≤ (n : Int) - 1 := by omega
    have hi2 : (n : Int) - 1 < (n : Int) := by omega
    have hi3 : ((n : Int) - 1).toNat = n - 1 := by omega
    have t0 : ((n : Int) == 0) = false := by simp; omega
    have ho : okW s n f = (decide (n ≤ 1024) && (f (n - 1) != 0)) := by unfold okW; rw [if_neg h0]
    have HO := Lib.hid ho
    clear hc hf ho
    by_cases h1 : n ≤ 1024
    · have t1 : (n : Int) ≤ 1024 := by omega
      go_wp2_with fail
      go_ret
      refine ⟨?_, (Below.refl _ _).alloc (Nat.le_refl _) _⟩
      rw [HO.out]
      show Ending.returned (.bool (((f (n - 1) : Nat) : Int) != 0)) = _
      have e : (((f (n - 1) : Nat) : Int) != 0) = (f (n - 1) != 0) := by
        by_cases e : f (n - 1) = 0
        · rw [e]; rfl
        · rw [bne_iff_ne.2 e, bne_iff_ne.2 (by omega)]
      rw [e, decide_eq_true h1, Bool.true_and]
    · have t1 : decide ((n : Int) ≤ 1024) = false := decide_eq_false (by omega)
      go_wp2_with fail
      go_ret
      refine ⟨?_, (Below.refl _ _).alloc (Nat.le_refl _) _⟩
      rw [HO.out]
      simp [h1]

set_option maxRecDepth 100000 in
set_option maxHeartbeats 2000000 in
theorem int_bad (s : Bool) (A : Option Addr) (n c : Nat) (f : Nat → Nat) (w : World) (h : Rd w.heap.size .u16 w A n f) (hf : ∀ i, i < n → f i < 65536) (hn : n ≤ 1000000) (hok : okW s n f = false) :
    Calls Tryz.prog 80 #[.agg #[.bool s, .slice A n c]] w fun e w' => e = .returned (.tuple #[.int .i64 0, .int .i64 2]) ∧ Below w.heap.size w w' := by
  have hb0 : Below w.heap.size w (w.alloc (.cells #[.bool s, .slice A n c] 24)) := (Below.refl _ w).alloc (Nat.le_refl _) _
  have hv := valid_any s A n c f _ ((h.below hb0).more hb0.size) hf hn
  rw [hok] at hv
  refine (callsIn_wide (n := 5)).1 ?_
  have hro : Fence.wide.round = none := rfl
  refine callsIn_of_wp_marks Tryz.func80 rfl trivial ?_ hro
  refine wpIn_wide.2 ?_
  simp only [Tryz.ntmps80, List.size_toArray, List.length_cons, List.length_nil, Nat.reduceAdd, Nat.reduceSub, Array.replicate_succ, Array.replicate_zero, List.push_toArray, List.append_toArray, List.nil_append, List.cons_append]
  go_wp2_with fail
  refine hv.mono ?_
  rintro e w1 ⟨rfl, hb1⟩
  go_wp2_with fail
  exact ⟨_, results_tmp2 rfl _ _ _, rfl, hb0.trans (hb1.mono hb0.size)⟩
set_option maxRecDepth 100000 in
set_option maxHeartbeats 2000000 in
theorem int_long (s : Bool) (A : Option Addr) (n c : Nat) (f : Nat → Nat) (w : World) (h : Rd w.heap.size .u16 w A n f) (hf : ∀ i, i < n → f i < 65536) (hn : n ≤ 1000000) (hok : okW s n f = true) (h4 : 4 < n) :
    Calls Tryz.prog 80 #[.agg #[.bool s, .slice A n c]] w fun e w' => e = .returned (.tuple #[.int .i64 0, .int .i64 3]) ∧ Below w.heap.size w w' := by
  have hb0 : Below w.heap.size w (w.alloc (.cells #[.bool s, .slice A n c] 24)) := (Below.refl _ w).alloc (Nat.le_refl _) _
  have hp0 := WholeAt.new w s (.slice A n c)
  have hv := valid_any s A n c f _ ((h.below hb0).more hb0.size) hf hn
  rw [hok] at hv
  have t4 : (4 : Int) < (n : Int) := by omega
  refine (callsIn_wide (n := 5)).1 ?_
  have hro : Fence.wide.round = none := rfl
  refine callsIn_of_wp_marks Tryz.func80 rfl trivial ?_ hro
  refine wpIn_wide.2 ?_
  simp only [Tryz.ntmps80, List.size_toArray, List.length_cons, List.length_nil, Nat.reduceAdd, Nat.reduceSub, Array.replicate_succ, Array.replicate_zero, List.push_toArray, List.append_toArray, List.nil_append, List.cons_append]
  go_wp2_with fail
  refine hv.mono ?_
  rintro e w1 ⟨rfl, hb1⟩
  obtain ⟨p0, p1⟩ := (hp0.below hb1 hp0.lt).cells
  go_wp2_with fail
  exact ⟨_, results_tmp2 rfl _ _ _, rfl, hb0.trans (hb1.mono hb0.size)⟩
end Go.Proofs.YtifikcemcflgjaaGreat
