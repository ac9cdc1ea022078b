/-
  The laws' small of layer 31: the basis of the examples.
-/
import Derived.Test.YtmjlankpihnicaaGreatK1
import Derived.Test.YtmjlankpihnicaaGreatC1
import Derived.Test.YtmjlankpihnicaaGreatK9
namespace Go.Proofs.YtmjlankpihnicaaGreat
open Go.RowKit

/-- What small returns: the basis of the examples. -/
def SmallB (w : World) (e : Ending) (w' : World) : Prop := ∃ A c r si Ai ni ci ti Bi mi di, e = .returned (.agg #[.int .i64 60, .int .i64 1, .slice A 3 c, .bool si, .slice Ai ni ci, .bool ti, .slice Bi mi di]) ∧ TabM w' A 3 r ∧ TOK 60 1 3 r ∧
  (((r 0).h 0).q = Rat.divInt 1 10 ∧ ((r 0).h 1).q = Rat.divInt 1 5 ∧ ((r 1).h 0).q = Rat.divInt 1 8 ∧ ((r 1).h 1).q = Rat.divInt 1 2 ∧ ((r 2).h 0).q = Rat.divInt 1 4 ∧ ((r 2).h 1).q = Rat.divInt 1 1) ∧ FV w' (Rat.divInt 1 4) si Ai ni ti Bi mi ∧ Below w.heap.size w w'

set_option linter.unusedSimpArgs false in
set_option maxRecDepth 100000 in
set_option maxHeartbeats 4000000 in
theorem smallB_v (w : World) : Calls Tryz.prog 14 #[] w (SmallB w) := by
  have hE := (Env.start w).blk 31 #[.int .i64 0, .int .i64 0, .slice none 0 0, .bool false, .slice none 0 0, .bool false, .slice none 0 0] (g := w.heap.size) rfl
  obtain ⟨W0, hW0⟩ : ∃ W0, W0 = w.alloc (.cells #[.int .i64 0, .int .i64 0, .slice none 0 0, .bool false, .slice none 0 0, .bool false, .slice none 0 0] 31) := ⟨_, rfl⟩
  rw [← hW0] at hE
  have HW0 := Lib.hid hW0
  clear hW0
  go_enter Tryz.func14, Tryz.ntmps14
  go_upto_region 1 with (fail)
  rw [← HW0.out]
  go_wp2_with fail
  have hc := c_quick 1 10 W0 (by decide) (by decide) (by decide) (by decide) (by decide)
  refine hc.mono ?_
  clear hc
  rintro e w1 ⟨sa, Aa, na, ca, ta, Ba, ma, da, rfl, ha, hb⟩
  replace hE := hE.step hb
  clear hb
  replace hE := hE.fv ha
  clear ha
  go_wp2_with fail
  have hc := c_quick 1 5 w1 (by decide) (by decide) (by decide) (by decide) (by decide)
  refine hc.mono ?_
  clear hc
  rintro e w2 ⟨sb, Ab, nb, cb, tb, Bb, mb, db, rfl, hb, hb⟩
  replace hE := hE.step hb
  clear hb
  replace hE := hE.fv hb
  clear hb
  go_wp2_with fail
  obtain ⟨g3, hg3⟩ : ∃ g3, g3 = w2.heap.size := ⟨_, rfl⟩
  have hl3_0 : w.heap.size < g3 := by rw [hg3]; exact (hE.here.1.1.2).lt
  replace hE := hE.blk 29 #[.bool sa, .slice Aa na ca, .bool ta, .slice Ba ma da, .bool sb, .slice Ab nb cb, .bool tb, .slice Bb mb db] (g := g3) hg3.symm
  generalize w2.alloc (.cells #[.bool sa, .slice Aa na ca, .bool ta, .slice Ba ma da, .bool sb, .slice Ab nb cb, .bool tb, .slice Bb mb db] 29) = W3 at hE ⊢
  rw [← hg3]
  clear hg3
  have hc := c_quick 1 8 W3 (by decide) (by decide) (by decide) (by decide) (by decide)
  refine hc.mono ?_
  clear hc
  rintro e w4 ⟨sc, Ac, nc, cc, tc, Bc, mc, dc, rfl, hc, hb⟩
  replace hE := hE.step hb
  clear hb
  replace hE := hE.fv hc
  clear hc
  go_wp2_with fail
  have hc := c_quick 1 2 w4 (by decide) (by decide) (by decide) (by decide) (by decide)
  refine hc.mono ?_
  clear hc
  rintro e w5 ⟨sd, Ad, nd, cd, td, Bd, md, dd, rfl, hd, hb⟩
  replace hE := hE.step hb
  clear hb
  replace hE := hE.fv hd
  clear hd
  go_wp2_with fail
  obtain ⟨g6, hg6⟩ : ∃ g6, g6 = w5.heap.size := ⟨_, rfl⟩
  have hl6_0 : w.heap.size < g6 := by rw [hg6]; exact (hE.here.1.1.1.1.1.2).lt
  have hl6_3 : g3 < g6 := by rw [hg6]; exact (hE.here.1.1.2).lt
  replace hE := hE.blk 29 #[.bool sc, .slice Ac nc cc, .bool tc, .slice Bc mc dc, .bool sd, .slice Ad nd cd, .bool td, .slice Bd md dd] (g := g6) hg6.symm
  generalize w5.alloc (.cells #[.bool sc, .slice Ac nc cc, .bool tc, .slice Bc mc dc, .bool sd, .slice Ad nd cd, .bool td, .slice Bd md dd] 29) = W6 at hE ⊢
  rw [← hg6]
  clear hg6
  have hc := c_quick 1 4 W6 (by decide) (by decide) (by decide) (by decide) (by decide)
  refine hc.mono ?_
  clear hc
  rintro e w7 ⟨se, Ae, ne, ce, te, Be, me, de, rfl, he, hb⟩
  replace hE := hE.step hb
  clear hb
  replace hE := hE.fv he
  clear he
  go_wp2_with fail
  have hc := c_quick 1 1 w7 (by decide) (by decide) (by decide) (by decide) (by decide)
  refine hc.mono ?_
  clear hc
  rintro e w8 ⟨sf, Af, nf, cf, tf, Bf, mf, df, rfl, hf, hb⟩
  replace hE := hE.step hb
  clear hb
  replace hE := hE.fv hf
  clear hf
  go_upto_region 2 with (fail)
  obtain ⟨ga, hga⟩ : ∃ g, g = w8.heap.size := ⟨_, rfl⟩
  have hl0 : w.heap.size < ga := by rw [hga]; exact (hE.here.1.1.1.1.1.1.1.1.2).lt
  have hl3 : g3 < ga := by rw [hga]; exact (hE.here.1.1.1.1.1.2).lt
  have hl6 : g6 < ga := by rw [hga]; exact (hE.here.1.1.2).lt
  have hE := ((hE.blk 29 #[.bool se, .slice Ae ne ce, .bool te, .slice Be me de, .bool sf, .slice Af nf cf, .bool tf, .slice Bf mf df] (g := ga) hga.symm).blk 39 #[.slice (some ⟨g3, 0, none⟩) 2 2, .slice (some ⟨g6, 0, none⟩) 2 2, .slice (some ⟨w8.heap.size, 0, none⟩) 2 2] (g := ga + 1) (by simp [hga])).blk 24 #[.int .i64 60, .int .i64 1, .slice (some ⟨w8.heap.size + 1, 0, none⟩) 3 3] (g := ga + 1 + 1) (by simp [hga])
  generalize ((w8.alloc (.cells #[.bool se, .slice Ae ne ce, .bool te, .slice Be me de, .bool sf, .slice Af nf cf, .bool tf, .slice Bf mf df] 29)).alloc (.cells #[.slice (some ⟨g3, 0, none⟩) 2 2, .slice (some ⟨g6, 0, none⟩) 2 2, .slice (some ⟨w8.heap.size, 0, none⟩) 2 2] 39)).alloc (.cells #[.int .i64 60, .int .i64 1, .slice (some ⟨w8.heap.size + 1, 0, none⟩) 3 3] 24) = Wz at hE ⊢
  rw [← hga] at hE ⊢
  clear hga
  have hgg : w.heap.size ≤ ga := by omega
  replace hE := hE.drew
  refine wp_region_held_drew (S := fun w' => w'.cell? ⟨ga + 1 + 1, 0, none⟩ = some (.int .i64 60) ∧ w'.cell? ⟨ga + 1 + 1, 1, none⟩ = some (.int .i64 1) ∧ w'.cell? ⟨ga + 1 + 1, 2, none⟩ = some (.slice (some ⟨ga + 1, 0, none⟩) 3 3)) (by kernel_rfl) (hE.here.2.c3) (fun hHeld => ?_)
  refine tk 0 ?_
  try simp only [PL]
  refine r1 1 (fun K hK => ?_)
  go_simp
  refine (c_quick 1 4 _ (by decide) (by decide) (by decide) (by decide) (by decide)).mono ?_
  rintro e w9 ⟨sj, Aj, nj, cj, tj, Bj, mj, dj, rfl, hj, hb⟩
  replace hE := hE.step hb
  clear hb
  replace hE := hE.fv hj
  clear hj
  go_wp2_with fail
  refine hK.out _ _ (hE.here.1.2.c3) (fun hHeld => ?_)
  clear hK K
  try simp only [PL]
  refine tk 2 ?_
  try simp only [PL]
  refine r1 3 (fun K hK => ?_)
  obtain ⟨x10_0, x10_1, x10_2, x10_3, x10_4, x10_5, x10_6⟩ := (hE.here.1.1.1.1.1.1.1.1.1.1.1.1.2).c7
  have f10_0 := (hE.here.1.1.1.1.1.1.1.1.1.1.1.1.2).frozen 0
  have f10_1 := (hE.here.1.1.1.1.1.1.1.1.1.1.1.1.2).frozen 1
  have f10_2 := (hE.here.1.1.1.1.1.1.1.1.1.1.1.1.2).frozen 2
  have f10_3 := (hE.here.1.1.1.1.1.1.1.1.1.1.1.1.2).frozen 3
  have f10_4 := (hE.here.1.1.1.1.1.1.1.1.1.1.1.1.2).frozen 4
  have f10_5 := (hE.here.1.1.1.1.1.1.1.1.1.1.1.1.2).frozen 5
  have f10_6 := (hE.here.1.1.1.1.1.1.1.1.1.1.1.1.2).frozen 6
  have hgl10 : w.heap.size ≤ w.heap.size := by omega
  replace hE := ((((((((((((((Env.again (hE.bel.setCell (p := ⟨w.heap.size, 0, none⟩) hgl10 (.int .i64 60))).blkI (show Blk 31 (w.heap.size) #[.int .i64 60, .int .i64 0, .slice none 0 0, .bool false, .slice none 0 0, .bool false, .slice none 0 0] _ by simpa using (hE.here.1.1.1.1.1.1.1.1.1.1.1.1.2).set_ 0 (.int .i64 60))).fv ((hE.here.1.1.1.1.1.1.1.1.1.1.1.2).sep (i := 0) (hE.here.1.1.1.1.1.1.1.1.1.1.1.1.2) rfl (.int .i64 60))).fv ((hE.here.1.1.1.1.1.1.1.1.1.1.2).sep (i := 0) (hE.here.1.1.1.1.1.1.1.1.1.1.1.1.2) rfl (.int .i64 60))).blkI ((hE.here.1.1.1.1.1.1.1.1.1.2).far (p := ⟨w.heap.size, 0, none⟩) (by first | omega | (simp; omega)) (.int .i64 60))).fv ((hE.here.1.1.1.1.1.1.1.1.2).sep (i := 0) (hE.here.1.1.1.1.1.1.1.1.1.1.1.1.2) rfl (.int .i64 60))).fv ((hE.here.1.1.1.1.1.1.1.2).sep (i := 0) (hE.here.1.1.1.1.1.1.1.1.1.1.1.1.2) rfl (.int .i64 60))).blkI ((hE.here.1.1.1.1.1.1.2).far (p := ⟨w.heap.size, 0, none⟩) (by first | omega | (simp; omega)) (.int .i64 60))).fv ((hE.here.1.1.1.1.1.2).sep (i := 0) (hE.here.1.1.1.1.1.1.1.1.1.1.1.1.2) rfl (.int .i64 60))).fv ((hE.here.1.1.1.1.2).sep (i := 0) (hE.here.1.1.1.1.1.1.1.1.1.1.1.1.2) rfl (.int .i64 60))).blkI ((hE.here.1.1.1.2).far (p := ⟨w.heap.size, 0, none⟩) (by first | omega | (simp; omega)) (.int .i64 60))).blkI ((hE.here.1.1.2).far (p := ⟨w.heap.size, 0, none⟩) (by first | omega | (simp; omega)) (.int .i64 60))).blkI ((hE.here.1.2).far (p := ⟨w.heap.size, 0, none⟩) (by first | omega | (simp; omega)) (.int .i64 60))).fv ((hE.here.2).sep (i := 0) (hE.here.1.1.1.1.1.1.1.1.1.1.1.1.2) rfl (.int .i64 60)))
  replace hE := ((((((((((((((Env.again (hE.bel.setCell (p := ⟨w.heap.size, 1, none⟩) hgl10 (.int .i64 1))).blkI (show Blk 31 (w.heap.size) #[.int .i64 60, .int .i64 1, .slice none 0 0, .bool false, .slice none 0 0, .bool false, .slice none 0 0] _ by simpa using (hE.here.1.1.1.1.1.1.1.1.1.1.1.1.2).set_ 1 (.int .i64 1))).fv ((hE.here.1.1.1.1.1.1.1.1.1.1.1.2).sep (i := 1) (hE.here.1.1.1.1.1.1.1.1.1.1.1.1.2) rfl (.int .i64 1))).fv ((hE.here.1.1.1.1.1.1.1.1.1.1.2).sep (i := 1) (hE.here.1.1.1.1.1.1.1.1.1.1.1.1.2) rfl (.int .i64 1))).blkI ((hE.here.1.1.1.1.1.1.1.1.1.2).far (p := ⟨w.heap.size, 1, none⟩) (by first | omega | (simp; omega)) (.int .i64 1))).fv ((hE.here.1.1.1.1.1.1.1.1.2).sep (i := 1) (hE.here.1.1.1.1.1.1.1.1.1.1.1.1.2) rfl (.int .i64 1))).fv ((hE.here.1.1.1.1.1.1.1.2).sep (i := 1) (hE.here.1.1.1.1.1.1.1.1.1.1.1.1.2) rfl (.int .i64 1))).blkI ((hE.here.1.1.1.1.1.1.2).far (p := ⟨w.heap.size, 1, none⟩) (by first | omega | (simp; omega)) (.int .i64 1))).fv ((hE.here.1.1.1.1.1.2).sep (i := 1) (hE.here.1.1.1.1.1.1.1.1.1.1.1.1.2) rfl (.int .i64 1))).fv ((hE.here.1.1.1.1.2).sep (i := 1) (hE.here.1.1.1.1.1.1.1.1.1.1.1.1.2) rfl (.int .i64 1))).blkI ((hE.here.1.1.1.2).far (p := ⟨w.heap.size, 1, none⟩) (by first | omega | (simp; omega)) (.int .i64 1))).blkI ((hE.here.1.1.2).far (p := ⟨w.heap.size, 1, none⟩) (by first | omega | (simp; omega)) (.int .i64 1))).blkI ((hE.here.1.2).far (p := ⟨w.heap.size, 1, none⟩) (by first | omega | (simp; omega)) (.int .i64 1))).fv ((hE.here.2).sep (i := 1) (hE.here.1.1.1.1.1.1.1.1.1.1.1.1.2) rfl (.int .i64 1)))
  replace hE := ((((((((((((((Env.again (hE.bel.setCell (p := ⟨w.heap.size, 2, none⟩) hgl10 (.slice (some ⟨ga + 1, 0, none⟩) 3 3))).blkI (show Blk 31 (w.heap.size) #[.int .i64 60, .int .i64 1, .slice (some ⟨ga + 1, 0, none⟩) 3 3, .bool false, .slice none 0 0, .bool false, .slice none 0 0] _ by simpa using (hE.here.1.1.1.1.1.1.1.1.1.1.1.1.2).set_ 2 (.slice (some ⟨ga + 1, 0, none⟩) 3 3))).fv ((hE.here.1.1.1.1.1.1.1.1.1.1.1.2).sep (i := 2) (hE.here.1.1.1.1.1.1.1.1.1.1.1.1.2) rfl (.slice (some ⟨ga + 1, 0, none⟩) 3 3))).fv ((hE.here.1.1.1.1.1.1.1.1.1.1.2).sep (i := 2) (hE.here.1.1.1.1.1.1.1.1.1.1.1.1.2) rfl (.slice (some ⟨ga + 1, 0, none⟩) 3 3))).blkI ((hE.here.1.1.1.1.1.1.1.1.1.2).far (p := ⟨w.heap.size, 2, none⟩) (by first | omega | (simp; omega)) (.slice (some ⟨ga + 1, 0, none⟩) 3 3))).fv ((hE.here.1.1.1.1.1.1.1.1.2).sep (i := 2) (hE.here.1.1.1.1.1.1.1.1.1.1.1.1.2) rfl (.slice (some ⟨ga + 1, 0, none⟩) 3 3))).fv ((hE.here.1.1.1.1.1.1.1.2).sep (i := 2) (hE.here.1.1.1.1.1.1.1.1.1.1.1.1.2) rfl (.slice (some ⟨ga + 1, 0, none⟩) 3 3))).blkI ((hE.here.1.1.1.1.1.1.2).far (p := ⟨w.heap.size, 2, none⟩) (by first | omega | (simp; omega)) (.slice (some ⟨ga + 1, 0, none⟩) 3 3))).fv ((hE.here.1.1.1.1.1.2).sep (i := 2) (hE.here.1.1.1.1.1.1.1.1.1.1.1.1.2) rfl (.slice (some ⟨ga + 1, 0, none⟩) 3 3))).fv ((hE.here.1.1.1.1.2).sep (i := 2) (hE.here.1.1.1.1.1.1.1.1.1.1.1.1.2) rfl (.slice (some ⟨ga + 1, 0, none⟩) 3 3))).blkI ((hE.here.1.1.1.2).far (p := ⟨w.heap.size, 2, none⟩) (by first | omega | (simp; omega)) (.slice (some ⟨ga + 1, 0, none⟩) 3 3))).blkI ((hE.here.1.1.2).far (p := ⟨w.heap.size, 2, none⟩) (by first | omega | (simp; omega)) (.slice (some ⟨ga + 1, 0, none⟩) 3 3))).blkI ((hE.here.1.2).far (p := ⟨w.heap.size, 2, none⟩) (by first | omega | (simp; omega)) (.slice (some ⟨ga + 1, 0, none⟩) 3 3))).fv ((hE.here.2).sep (i := 2) (hE.here.1.1.1.1.1.1.1.1.1.1.1.1.2) rfl (.slice (some ⟨ga + 1, 0, none⟩) 3 3)))
  replace hE := ((((((((((((((Env.again (hE.bel.setCell (p := ⟨w.heap.size, 3, none⟩) hgl10 (.bool sj))).blkI (show Blk 31 (w.heap.size) #[.int .i64 60, .int .i64 1, .slice (some ⟨ga + 1, 0, none⟩) 3 3, .bool sj, .slice none 0 0, .bool false, .slice none 0 0] _ by simpa using (hE.here.1.1.1.1.1.1.1.1.1.1.1.1.2).set_ 3 (.bool sj))).fv ((hE.here.1.1.1.1.1.1.1.1.1.1.1.2).sep (i := 3) (hE.here.1.1.1.1.1.1.1.1.1.1.1.1.2) rfl (.bool sj))).fv ((hE.here.1.1.1.1.1.1.1.1.1.1.2).sep (i := 3) (hE.here.1.1.1.1.1.1.1.1.1.1.1.1.2) rfl (.bool sj))).blkI ((hE.here.1.1.1.1.1.1.1.1.1.2).far (p := ⟨w.heap.size, 3, none⟩) (by first | omega | (simp; omega)) (.bool sj))).fv ((hE.here.1.1.1.1.1.1.1.1.2).sep (i := 3) (hE.here.1.1.1.1.1.1.1.1.1.1.1.1.2) rfl (.bool sj))).fv ((hE.here.1.1.1.1.1.1.1.2).sep (i := 3) (hE.here.1.1.1.1.1.1.1.1.1.1.1.1.2) rfl (.bool sj))).blkI ((hE.here.1.1.1.1.1.1.2).far (p := ⟨w.heap.size, 3, none⟩) (by first | omega | (simp; omega)) (.bool sj))).fv ((hE.here.1.1.1.1.1.2).sep (i := 3) (hE.here.1.1.1.1.1.1.1.1.1.1.1.1.2) rfl (.bool sj))).fv ((hE.here.1.1.1.1.2).sep (i := 3) (hE.here.1.1.1.1.1.1.1.1.1.1.1.1.2) rfl (.bool sj))).blkI ((hE.here.1.1.1.2).far (p := ⟨w.heap.size, 3, none⟩) (by first | omega | (simp; omega)) (.bool sj))).blkI ((hE.here.1.1.2).far (p := ⟨w.heap.size, 3, none⟩) (by first | omega | (simp; omega)) (.bool sj))).blkI ((hE.here.1.2).far (p := ⟨w.heap.size, 3, none⟩) (by first | omega | (simp; omega)) (.bool sj))).fv ((hE.here.2).sep (i := 3) (hE.here.1.1.1.1.1.1.1.1.1.1.1.1.2) rfl (.bool sj)))
  replace hE := ((((((((((((((Env.again (hE.bel.setCell (p := ⟨w.heap.size, 4, none⟩) hgl10 (.slice Aj nj cj))).blkI (show Blk 31 (w.heap.size) #[.int .i64 60, .int .i64 1, .slice (some ⟨ga + 1, 0, none⟩) 3 3, .bool sj, .slice Aj nj cj, .bool false, .slice none 0 0] _ by simpa using (hE.here.1.1.1.1.1.1.1.1.1.1.1.1.2).set_ 4 (.slice Aj nj cj))).fv ((hE.here.1.1.1.1.1.1.1.1.1.1.1.2).sep (i := 4) (hE.here.1.1.1.1.1.1.1.1.1.1.1.1.2) rfl (.slice Aj nj cj))).fv ((hE.here.1.1.1.1.1.1.1.1.1.1.2).sep (i := 4) (hE.here.1.1.1.1.1.1.1.1.1.1.1.1.2) rfl (.slice Aj nj cj))).blkI ((hE.here.1.1.1.1.1.1.1.1.1.2).far (p := ⟨w.heap.size, 4, none⟩) (by first | omega | (simp; omega)) (.slice Aj nj cj))).fv ((hE.here.1.1.1.1.1.1.1.1.2).sep (i := 4) (hE.here.1.1.1.1.1.1.1.1.1.1.1.1.2) rfl (.slice Aj nj cj))).fv ((hE.here.1.1.1.1.1.1.1.2).sep (i := 4) (hE.here.1.1.1.1.1.1.1.1.1.1.1.1.2) rfl (.slice Aj nj cj))).blkI ((hE.here.1.1.1.1.1.1.2).far (p := ⟨w.heap.size, 4, none⟩) (by first | omega | (simp; omega)) (.slice Aj nj cj))).fv ((hE.here.1.1.1.1.1.2).sep (i := 4) (hE.here.1.1.1.1.1.1.1.1.1.1.1.1.2) rfl (.slice Aj nj cj))).fv ((hE.here.1.1.1.1.2).sep (i := 4) (hE.here.1.1.1.1.1.1.1.1.1.1.1.1.2) rfl (.slice Aj nj cj))).blkI ((hE.here.1.1.1.2).far (p := ⟨w.heap.size, 4, none⟩) (by first | omega | (simp; omega)) (.slice Aj nj cj))).blkI ((hE.here.1.1.2).far (p := ⟨w.heap.size, 4, none⟩) (by first | omega | (simp; omega)) (.slice Aj nj cj))).blkI ((hE.here.1.2).far (p := ⟨w.heap.size, 4, none⟩) (by first | omega | (simp; omega)) (.slice Aj nj cj))).fv ((hE.here.2).sep (i := 4) (hE.here.1.1.1.1.1.1.1.1.1.1.1.1.2) rfl (.slice Aj nj cj)))
  replace hE := ((((((((((((((Env.again (hE.bel.setCell (p := ⟨w.heap.size, 5, none⟩) hgl10 (.bool tj))).blkI (show Blk 31 (w.heap.size) #[.int .i64 60, .int .i64 1, .slice (some ⟨ga + 1, 0, none⟩) 3 3, .bool sj, .slice Aj nj cj, .bool tj, .slice none 0 0] _ by simpa using (hE.here.1.1.1.1.1.1.1.1.1.1.1.1.2).set_ 5 (.bool tj))).fv ((hE.here.1.1.1.1.1.1.1.1.1.1.1.2).sep (i := 5) (hE.here.1.1.1.1.1.1.1.1.1.1.1.1.2) rfl (.bool tj))).fv ((hE.here.1.1.1.1.1.1.1.1.1.1.2).sep (i := 5) (hE.here.1.1.1.1.1.1.1.1.1.1.1.1.2) rfl (.bool tj))).blkI ((hE.here.1.1.1.1.1.1.1.1.1.2).far (p := ⟨w.heap.size, 5, none⟩) (by first | omega | (simp; omega)) (.bool tj))).fv ((hE.here.1.1.1.1.1.1.1.1.2).sep (i := 5) (hE.here.1.1.1.1.1.1.1.1.1.1.1.1.2) rfl (.bool tj))).fv ((hE.here.1.1.1.1.1.1.1.2).sep (i := 5) (hE.here.1.1.1.1.1.1.1.1.1.1.1.1.2) rfl (.bool tj))).blkI ((hE.here.1.1.1.1.1.1.2).far (p := ⟨w.heap.size, 5, none⟩) (by first | omega | (simp; omega)) (.bool tj))).fv ((hE.here.1.1.1.1.1.2).sep (i := 5) (hE.here.1.1.1.1.1.1.1.1.1.1.1.1.2) rfl (.bool tj))).fv ((hE.here.1.1.1.1.2).sep (i := 5) (hE.here.1.1.1.1.1.1.1.1.1.1.1.1.2) rfl (.bool tj))).blkI ((hE.here.1.1.1.2).far (p := ⟨w.heap.size, 5, none⟩) (by first | omega | (simp; omega)) (.bool tj))).blkI ((hE.here.1.1.2).far (p := ⟨w.heap.size, 5, none⟩) (by first | omega | (simp; omega)) (.bool tj))).blkI ((hE.here.1.2).far (p := ⟨w.heap.size, 5, none⟩) (by first | omega | (simp; omega)) (.bool tj))).fv ((hE.here.2).sep (i := 5) (hE.here.1.1.1.1.1.1.1.1.1.1.1.1.2) rfl (.bool tj)))
  replace hE := ((((((((((((((Env.again (hE.bel.setCell (p := ⟨w.heap.size, 6, none⟩) hgl10 (.slice Bj mj dj))).blkI (show Blk 31 (w.heap.size) #[.int .i64 60, .int .i64 1, .slice (some ⟨ga + 1, 0, none⟩) 3 3, .bool sj, .slice Aj nj cj, .bool tj, .slice Bj mj dj] _ by simpa using (hE.here.1.1.1.1.1.1.1.1.1.1.1.1.2).set_ 6 (.slice Bj mj dj))).fv ((hE.here.1.1.1.1.1.1.1.1.1.1.1.2).sep (i := 6) (hE.here.1.1.1.1.1.1.1.1.1.1.1.1.2) rfl (.slice Bj mj dj))).fv ((hE.here.1.1.1.1.1.1.1.1.1.1.2).sep (i := 6) (hE.here.1.1.1.1.1.1.1.1.1.1.1.1.2) rfl (.slice Bj mj dj))).blkI ((hE.here.1.1.1.1.1.1.1.1.1.2).far (p := ⟨w.heap.size, 6, none⟩) (by first | omega | (simp; omega)) (.slice Bj mj dj))).fv ((hE.here.1.1.1.1.1.1.1.1.2).sep (i := 6) (hE.here.1.1.1.1.1.1.1.1.1.1.1.1.2) rfl (.slice Bj mj dj))).fv ((hE.here.1.1.1.1.1.1.1.2).sep (i := 6) (hE.here.1.1.1.1.1.1.1.1.1.1.1.1.2) rfl (.slice Bj mj dj))).blkI ((hE.here.1.1.1.1.1.1.2).far (p := ⟨w.heap.size, 6, none⟩) (by first | omega | (simp; omega)) (.slice Bj mj dj))).fv ((hE.here.1.1.1.1.1.2).sep (i := 6) (hE.here.1.1.1.1.1.1.1.1.1.1.1.1.2) rfl (.slice Bj mj dj))).fv ((hE.here.1.1.1.1.2).sep (i := 6) (hE.here.1.1.1.1.1.1.1.1.1.1.1.1.2) rfl (.slice Bj mj dj))).blkI ((hE.here.1.1.1.2).far (p := ⟨w.heap.size, 6, none⟩) (by first | omega | (simp; omega)) (.slice Bj mj dj))).blkI ((hE.here.1.1.2).far (p := ⟨w.heap.size, 6, none⟩) (by first | omega | (simp; omega)) (.slice Bj mj dj))).blkI ((hE.here.1.2).far (p := ⟨w.heap.size, 6, none⟩) (by first | omega | (simp; omega)) (.slice Bj mj dj))).fv ((hE.here.2).sep (i := 6) (hE.here.1.1.1.1.1.1.1.1.1.1.1.1.2) rfl (.slice Bj mj dj)))
  go_simp
  clear x10_0 f10_0 x10_1 f10_1 x10_2 f10_2 x10_3 f10_3 x10_4 f10_4 x10_5 f10_5 x10_6 f10_6 hgl10
  generalize (((((((w9.setCell ⟨w.heap.size, 0, none⟩ (.int .i64 60)).setCell ⟨w.heap.size, 1, none⟩ (.int .i64 1)).setCell ⟨w.heap.size, 2, none⟩ (.slice (some ⟨ga + 1, 0, none⟩) 3 3)).setCell ⟨w.heap.size, 3, none⟩ (.bool sj)).setCell ⟨w.heap.size, 4, none⟩ (.slice Aj nj cj)).setCell ⟨w.heap.size, 5, none⟩ (.bool tj)).setCell ⟨w.heap.size, 6, none⟩ (.slice Bj mj dj)) = WN10 at hE ⊢
  refine hK.out _ _ (hE.here.1.2.c3) (fun hHeld => ?_)
  clear hK K
  try simp only [PL]
  refine wpAnyH_done (by kernel_rfl) ?_ _
  go_wp2_with fail
  obtain ⟨y0, y1, y2, y3, y4, y5, y6⟩ := (hE.here.1.1.1.1.1.1.1.1.1.1.1.1.2).c7
  refine bodyPost_ret (v := .agg #[.int .i64 60, .int .i64 1, .slice (some ⟨ga + 1, 0, none⟩) 3 3, .bool sj, .slice Aj nj cj, .bool tj, .slice Bj mj dj]) (by simp [results, Tryz.results14, go_sem, y0, y1, y2, y3, y4, y5, y6]) rfl ?_
  refine ⟨some ⟨ga + 1, 0, none⟩, 3, tab3 (rowOf g3 (FHof (Rat.divInt 1 10) sa Aa na ca ta Ba ma da) (FHof (Rat.divInt 1 5) sb Ab nb cb tb Bb mb db)) (rowOf g6 (FHof (Rat.divInt 1 8) sc Ac nc cc tc Bc mc dc) (FHof (Rat.divInt 1 2) sd Ad nd cd td Bd md dd)) (rowOf ga (FHof (Rat.divInt 1 4) se Ae ne ce te Be me de) (FHof (Rat.divInt 1 1) sf Af nf cf tf Bf mf df)), sj, Aj, nj, cj, tj, Bj, mj, dj, rfl, tabM_of (T := 39) (hE.here.1.1.2) (rowM_of (hE.here.1.1.1.1.1.1.1.1.1.2) (FHof.rd_of (hE.here.1.1.1.1.1.1.1.1.1.1.1.2)) (FHof.rd_of (hE.here.1.1.1.1.1.1.1.1.1.1.2))) (rowM_of (hE.here.1.1.1.1.1.1.2) (FHof.rd_of (hE.here.1.1.1.1.1.1.1.1.2)) (FHof.rd_of (hE.here.1.1.1.1.1.1.1.2))) (rowM_of (hE.here.1.1.1.2) (FHof.rd_of (hE.here.1.1.1.1.1.2)) (FHof.rd_of (hE.here.1.1.1.1.2))), ?_, ?_, hE.here.2, hE.bel⟩
  · refine ⟨⟨⟨by decide, by decide⟩, by decide, by decide⟩, ⟨by decide, by decide⟩, fun i hi => ?_, ?_⟩
    · rcases (show i = 0 ∨ i = 1 ∨ i = 2 by omega) with rfl | rfl | rfl
      · exact rowOK_of (FHof.rate (hE.here.1.1.1.1.1.1.1.1.1.1.1.2) (rate_small (by decide +kernel)).1 (rate_small (by decide +kernel)).2.1 (rate_small (by decide +kernel)).2.2) (FHof.rate (hE.here.1.1.1.1.1.1.1.1.1.1.2) (rate_small (by decide +kernel)).1 (rate_small (by decide +kernel)).2.1 (rate_small (by decide +kernel)).2.2)
      · exact rowOK_of (FHof.rate (hE.here.1.1.1.1.1.1.1.1.2) (rate_small (by decide +kernel)).1 (rate_small (by decide +kernel)).2.1 (rate_small (by decide +kernel)).2.2) (FHof.rate (hE.here.1.1.1.1.1.1.1.2) (rate_small (by decide +kernel)).1 (rate_small (by decide +kernel)).2.1 (rate_small (by decide +kernel)).2.2)
      · exact rowOK_of (FHof.rate (hE.here.1.1.1.1.1.2) (rate_small (by decide +kernel)).1 (rate_small (by decide +kernel)).2.1 (rate_small (by decide +kernel)).2.2) (FHof.rate (hE.here.1.1.1.1.2) (rate_small (by decide +kernel)).1 (rate_small (by decide +kernel)).2.1 (rate_small (by decide +kernel)).2.2)
    · exact (FHof.q_eq (hE.here.1.1.1.1.2)).trans (by decide +kernel)
  · exact ⟨FHof.q_eq (hE.here.1.1.1.1.1.1.1.1.1.1.1.2), FHof.q_eq (hE.here.1.1.1.1.1.1.1.1.1.1.2), FHof.q_eq (hE.here.1.1.1.1.1.1.1.1.2), FHof.q_eq (hE.here.1.1.1.1.1.1.1.2), FHof.q_eq (hE.here.1.1.1.1.1.2), FHof.q_eq (hE.here.1.1.1.1.2)⟩
end Go.Proofs.YtmjlankpihnicaaGreat
