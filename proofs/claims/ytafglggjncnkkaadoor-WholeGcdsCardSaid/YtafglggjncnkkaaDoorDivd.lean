/-
  The walk of the laws' divided.
-/
import Derived.Test.YtafglggjncnkkaaDoorV
namespace Go.Proofs.YtafglggjncnkkaaDoor
open Go.RowKit

theorem exact_fd {a b q : Int} (hb0 : b ≠ 0) (h : a = q * b) : a.fdiv b = q ∧ a.fmod b = 0 := by
  have := fd_unique (a := a) (b := b) (q := q) (r := 0) (by omega) (by omega)
  exact ⟨this.1.symm, this.2.symm⟩
set_option maxRecDepth 100000 in
set_option maxHeartbeats 1000000 in
theorem law_divided {a b q : Int} {s t : Bool} {A B : Option Addr} {n m c d : Nat} {w : World} (ha : WV w a s A n) (hb : WV w b t B m) (la : n ≤ 1024) (lb : m ≤ 1024) (hb0 : b ≠ 0) (hq : a = q * b) :
    Calls Tryd.prog 19 #[.agg #[.bool s, .slice A n c], .agg #[.bool t, .slice B m d]] w (VI q w) := by
  have hT := TwoP.start w s t A B n m c d
  have hb3 := hT.bel.alloc hT.bel.size (.cells #[.bool false, .slice none 0 0] 24)
  have hR0 := WholeAt.new ((w.alloc (.cells #[.bool s, .slice A n c] 24)).alloc (.cells #[.bool t, .slice B m d] 24)) false (.slice none 0 0)
  simp only [World.size_alloc] at hR0
  have hc := divMod_v (c := c) (d := d) (ha.below hb3) (hb.below hb3) la lb hb0
  rw [(exact_fd hb0 hq).1, (exact_fd hb0 hq).2] at hc
  have D1 := Lib.hid hc
  clear ha hb hc hq
  go_enter Tryd.func19, Tryd.ntmps19
  go_wp2_with fail
  refine D1.out.mono ?_
  rintro e w1 ⟨s', A', n', c', t', B', m', d', rfl, ho, hor, hb1⟩
  obtain rfl : m' = 0 := by rw [hor.len]; exact ln_zero
  have hR1 := hR0.below hb1 hR0.lt
  have hbl1 := hb3.trans (hb1.mono hb3.size)
  have hlt := hR1.lt
  have hR2 := (hR1.alloc' (.cells #[.bool s', .slice A' n' c'] 24)).alloc' (.cells #[.bool t', .slice B' 0 d'] 24)
  have hbl2 := hbl1.alloc hbl1.size (.cells #[.bool s', .slice A' n' c'] 24)
  have hbl3 := hbl2.alloc hbl2.size (.cells #[.bool t', .slice B' 0 d'] 24)
  obtain ⟨r0, r1⟩ := hR2.cells
  have g0 := hR2.frozen 0
  have g1 := hR2.frozen 1
  obtain ⟨hW, hbW⟩ := store_whole hR2 hbl3 (show w.heap.size ≤ w.heap.size + 1 + 1 by omega) s' (.slice A' n' c')
  have hO := (((ho.alloc (.cells #[.bool s', .slice A' n' c'] 24)).alloc (.cells #[.bool t', .slice B' 0 d'] 24)).store (R := w.heap.size + 1 + 1) (by simp) s' (.slice A' n' c')).lower (base' := w.heap.size) (by simp; omega)
  have HW := Lib.hid hW
  have HO := Lib.hid hO
  clear hor hW hO ho
  go_wp2_with fail
  have hW := HW.out
  have hO := HO.out
  clear HW HO hR2 r0 r1 g0 g1
  generalize ((((w1.alloc (.cells #[.bool s', .slice A' n' c'] 24)).alloc (.cells #[.bool t', .slice B' 0 d'] 24)).setCell ⟨w.heap.size + 1 + 1, 0, none⟩ (.bool s')).setCell ⟨w.heap.size + 1 + 1, 1, none⟩ (.slice A' n' c')) = WW at *
  obtain ⟨k0, k1⟩ := hW.cells
  refine bodyPost_ret (v := .agg #[.bool s', .slice A' n' c']) (by simp [results, Tryd.results19, go_sem, k0, k1]) rfl ?_
  exact ⟨s', A', n', c', rfl, hO, hbW⟩
end Go.Proofs.YtafglggjncnkkaaDoor
