/-
  The walk of FracWrong.
-/
import Derived.Test.YtifikcemcflgjaaGreatDoorGBT
import Derived.Test.YtifikcemcflgjaaGreatDoorGS0
import Derived.Test.YtifikcemcflgjaaGreatDoorGA
namespace Go.Proofs.YtifikcemcflgjaaGreatDoor
open Go.RowKit

theorem FRd.sepI {w : World} {A B : Option Addr} {n m g i : Nat} {f h : Nat → Nat} {T : TypeId} {cs : Array Value} (hr : FRd w A n f B m h) (hW : Blk T g cs w) (hn : cs.toList.all noLimb = true) (u : Value) : FRd (w.setCell ⟨g, i, none⟩ u) A n f B m h := by
  refine ⟨?_, ?_, hr.2.2.1, hr.2.2.2⟩
  · rw [World.size_setCell]; exact hr.1.sep hW hn u
  · rw [World.size_setCell]; exact hr.2.1.sep hW hn u
theorem info_fr : (Tryz.prog.info? 26).map (fun i => (i.zero, i.size, i.bytes)) = some (some (.agg #[.bool false, .slice none 0 0, .bool false, .slice none 0 0]), 4, 64) := by kernel_rfl
theorem info_er : (Tryz.prog.info? 32).map (fun i => (i.zero, i.size, i.bytes)) = some (some (.int .i64 0), 1, 8) := by kernel_rfl
theorem mkFr8 (w : World) : (Instr.makeSlice 30 (.int .i64 8) (.int .i64 8)).run Tryz.prog w = .ok (.slice (some ⟨w.heap.size, 0, none⟩) 8 8) (w.alloc (.cells #[.bool false, .slice none 0 0, .bool false, .slice none 0 0, .bool false, .slice none 0 0, .bool false, .slice none 0 0, .bool false, .slice none 0 0, .bool false, .slice none 0 0, .bool false, .slice none 0 0, .bool false, .slice none 0 0, .bool false, .slice none 0 0, .bool false, .slice none 0 0, .bool false, .slice none 0 0, .bool false, .slice none 0 0, .bool false, .slice none 0 0, .bool false, .slice none 0 0, .bool false, .slice none 0 0, .bool false, .slice none 0 0] 26)) := by
  obtain ⟨i, hi, hz, hs, hb⟩ := info_parts info_fr
  have h := run_make_rowN (P := Tryz.prog) 30 26 i _ Tryz.underlying30 hi hz .i64 .i64 8 8 (by decide) (by rw [hb]; decide) (by decide) w
  rw [hs, show madeCells (Value.agg #[.bool false, .slice none 0 0, .bool false, .slice none 0 0]).cells (8 * 4) = #[.bool false, .slice none 0 0, .bool false, .slice none 0 0, .bool false, .slice none 0 0, .bool false, .slice none 0 0, .bool false, .slice none 0 0, .bool false, .slice none 0 0, .bool false, .slice none 0 0, .bool false, .slice none 0 0, .bool false, .slice none 0 0, .bool false, .slice none 0 0, .bool false, .slice none 0 0, .bool false, .slice none 0 0, .bool false, .slice none 0 0, .bool false, .slice none 0 0, .bool false, .slice none 0 0, .bool false, .slice none 0 0] from by kernel_rfl] at h
  exact h
theorem mkEr8 (w : World) : (Instr.makeSlice 31 (.int .i64 8) (.int .i64 8)).run Tryz.prog w = .ok (.slice (some ⟨w.heap.size, 0, none⟩) 8 8) (w.alloc (.cells #[.int .i64 0, .int .i64 0, .int .i64 0, .int .i64 0, .int .i64 0, .int .i64 0, .int .i64 0, .int .i64 0] 32)) := by
  obtain ⟨i, hi, hz, hs, hb⟩ := info_parts info_er
  have h := run_make_rowN (P := Tryz.prog) 31 32 i _ Tryz.underlying31 hi hz .i64 .i64 8 8 (by decide) (by rw [hb]; decide) (by decide) w
  rw [hs, show madeCells (Value.int .i64 0).cells (8 * 1) = #[.int .i64 0, .int .i64 0, .int .i64 0, .int .i64 0, .int .i64 0, .int .i64 0, .int .i64 0, .int .i64 0] from by kernel_rfl] at h
  exact h
set_option linter.unusedSimpArgs false in
set_option maxRecDepth 100000 in
set_option maxHeartbeats 16000000 in
theorem fwrong_walk {sa ta sb tb : Bool} {Aa Ba Ab Bb : Option Addr} {na ca ma da nb cb mb db : Nat} {fa ga fb gb : Nat → Nat} {k0 : Int} {w : World} (hlt : 1 < w.heap.size) (hm : w.cell? ⟨1, 0, none⟩ = some (.int .i64 k0)) (ra : FRd w Aa na fa Ba ma ga) (rb : FRd w Ab nb fb Bb mb gb) (z2 : Int) (_l2 : -9223372036854775808 ≤ z2) (_u2 : z2 ≤ 9223372036854775807) (z3 : Int) (_l3 : 0 ≤ z3) (_u3 : z3 ≤ 255) :
    Calls Tryz.prog 3 #[.agg #[.bool sa, .slice Aa na ca, .bool ta, .slice Ba ma da], .agg #[.bool sb, .slice Ab nb cb, .bool tb, .slice Bb mb db], .int .i64 z2, .int .u8 z3] w (fun e w' => e = .returned (.bool true) ∧ Below w.heap.size w w') := by
  have hE := (((((Env.start w).at_ hlt hm).frd ra).frd rb).blk 26 #[.bool sa, .slice Aa na ca, .bool ta, .slice Ba ma da] (g := w.heap.size) rfl).blk 26 #[.bool sb, .slice Ab nb cb, .bool tb, .slice Bb mb db] (g := w.heap.size + 1) (by simp)
  obtain ⟨W0, hW0⟩ : ∃ W0, W0 = ((w.alloc (.cells #[.bool sa, .slice Aa na ca, .bool ta, .slice Ba ma da] 26)).alloc (.cells #[.bool sb, .slice Ab nb cb, .bool tb, .slice Bb mb db] 26)) := ⟨_, rfl⟩
  rw [← hW0] at hE
  have HW0 := Lib.hid hW0
  clear hW0
  go_enter Tryz.func3, Tryz.ntmps3
  go_upto_region 1 with (fail)
  rw [← HW0.out]
  go_wp2_with fail
  refine (awake2_t _ (hE.here.1.1.1.1.2).2 (hE.here.1.1.1.1.2).1).mono ?_
  rintro e w1 ⟨rfl, hb⟩
  replace hE := hE.step hb
  clear hb
  obtain ⟨k2, k3, k4, k5⟩ := (hE.here.1.2).c4
  obtain ⟨k6, k7, k8, k9⟩ := (hE.here.2).c4
  go_wp2_with fail
  refine (short2 ⟨sa, Aa, na, ca, fa, ta, Ba, ma, da, ga⟩ ⟨sb, Ab, nb, cb, fb, tb, Bb, mb, db, gb⟩ 300 _ (hE.here.1.1.1.2) (hE.here.1.1.2)).mono ?_
  clear k2 k3 k4 k5 k6 k7 k8 k9
  rintro e w10 ⟨v, rfl, hv, hb⟩
  replace hE := hE.step hb
  clear hb
  cases v with
  | false =>
    clear hv
    go_wp2_with fail
    go_ret
    exact ⟨rfl, hE.bel⟩
  | true =>
    obtain ⟨xa, xb⟩ := hv rfl
    clear hv
    have la : Fc.len ⟨sa, Aa, na, ca, fa, ta, Ba, ma, da, ga⟩ := by obtain ⟨h1, h2⟩ := xa; dsimp only at h1 h2; exact ⟨show na ≤ 1000000 by omega, show ma ≤ 1000000 by omega⟩
    have lb : Fc.len ⟨sb, Ab, nb, cb, fb, tb, Bb, mb, db, gb⟩ := by obtain ⟨h1, h2⟩ := xb; dsimp only at h1 h2; exact ⟨show nb ≤ 1000000 by omega, show mb ≤ 1000000 by omega⟩
    clear xa xb
    obtain ⟨ok, hok⟩ : ∃ v, okF sa na fa ta ma ga = v := ⟨_, rfl⟩
    have Hhok := Lib.hid hok
    clear hok
    obtain ⟨k11, k12, k13, k14⟩ := (hE.here.1.2).c4
    go_wp2_with fail
    have hc := fvalid_r sa ta Aa Ba na ma ca da fa ga _ (hE.here.1.1.1.2) la.1 la.2 ok Hhok.out
    refine (hc).mono ?_
    clear k11 k12 k13 k14
    rintro e w15 ⟨rfl, hb⟩
    replace hE := hE.step hb
    clear hb
    clear hc
    cases ok with
    | true =>
      go_wp2_with fail
      go_ret
      exact ⟨rfl, hE.bel⟩
    | false =>
      replace hE := (((((Env.again hE.bel).frd (hE.here.1.1.1.2)).frd (hE.here.1.1.2)).blkI (hE.here.1.2)).blkI (hE.here.2))
      have bad1 : (Fc.ok ⟨sa, Aa, na, ca, fa, ta, Ba, ma, da, ga⟩ && Fc.ok ⟨sb, Ab, nb, cb, fb, tb, Bb, mb, db, gb⟩) = false := by show (okF sa na fa ta ma ga && _) = false; rw [Hhok.out]; rfl
      have bad2 : (Fc.ok ⟨sb, Ab, nb, cb, fb, tb, Bb, mb, db, gb⟩ && Fc.ok ⟨sa, Aa, na, ca, fa, ta, Ba, ma, da, ga⟩) = false := by show (_ && okF sa na fa ta ma ga) = false; rw [Hhok.out, Bool.and_false]
      have bad : Fc.ok ⟨sa, Aa, na, ca, fa, ta, Ba, ma, da, ga⟩ = false := Hhok.out
      have Hbad1 := Lib.hid bad1
      clear bad1
      have Hbad2 := Lib.hid bad2
      clear bad2
      have Hbad := Lib.hid bad
      clear bad
      have mf := mkFr8
      have me := mkEr8
      go_upto_region 6 with (fail)
      obtain ⟨g16, hg16⟩ : ∃ g16, g16 = w15.heap.size := ⟨_, rfl⟩
      have hl16_2 : w.heap.size < g16 := by rw [hg16]; exact (hE.here.1.2).lt
      have hl16_3 : w.heap.size + 1 < g16 := by rw [hg16]; exact (hE.here.2).lt
      replace hE := hE.blk 26 #[.bool false, .slice none 0 0, .bool false, .slice none 0 0, .bool false, .slice none 0 0, .bool false, .slice none 0 0, .bool false, .slice none 0 0, .bool false, .slice none 0 0, .bool false, .slice none 0 0, .bool false, .slice none 0 0, .bool false, .slice none 0 0, .bool false, .slice none 0 0, .bool false, .slice none 0 0, .bool false, .slice none 0 0, .bool false, .slice none 0 0, .bool false, .slice none 0 0, .bool false, .slice none 0 0, .bool false, .slice none 0 0] (g := g16) hg16.symm
      generalize w15.alloc (.cells #[.bool false, .slice none 0 0, .bool false, .slice none 0 0, .bool false, .slice none 0 0, .bool false, .slice none 0 0, .bool false, .slice none 0 0, .bool false, .slice none 0 0, .bool false, .slice none 0 0, .bool false, .slice none 0 0, .bool false, .slice none 0 0, .bool false, .slice none 0 0, .bool false, .slice none 0 0, .bool false, .slice none 0 0, .bool false, .slice none 0 0, .bool false, .slice none 0 0, .bool false, .slice none 0 0, .bool false, .slice none 0 0] 26) = W16 at hE ⊢
      rw [← hg16]
      clear hg16
      go_upto_region 7 with (fail)
      obtain ⟨g17, hg17⟩ : ∃ g17, g17 = W16.heap.size := ⟨_, rfl⟩
      have hl17_2 : w.heap.size < g17 := by rw [hg17]; exact (hE.here.1.1.2).lt
      have hl17_3 : w.heap.size + 1 < g17 := by rw [hg17]; exact (hE.here.1.2).lt
      have hl17_4 : g16 < g17 := by rw [hg17]; exact (hE.here.2).lt
      replace hE := hE.blk 32 #[.int .i64 0, .int .i64 0, .int .i64 0, .int .i64 0, .int .i64 0, .int .i64 0, .int .i64 0, .int .i64 0] (g := g17) hg17.symm
      generalize W16.alloc (.cells #[.int .i64 0, .int .i64 0, .int .i64 0, .int .i64 0, .int .i64 0, .int .i64 0, .int .i64 0, .int .i64 0] 32) = W17 at hE ⊢
      rw [← hg17]
      clear hg17
      clear mf me
      obtain ⟨k18, k19, k20, k21⟩ := (hE.here.1.1.1.2).c4
      obtain ⟨k22, k23, k24, k25⟩ := (hE.here.1.1.2).c4
      go_wp2_with fail
      refine (fadd_bad (ca := ca) (da := da) (cb := cb) (db := db) (hE.here.1.1.1.1.1.2) la (hE.here.1.1.1.1.2) lb Hbad1.out).mono ?_
      clear k18 k19 k20 k21 k22 k23 k24 k25
      rintro e w26 ⟨rfl, hb⟩
      replace hE := hE.step hb
      clear hb
      have l0 : w26.cell? ⟨g16, 0, none⟩ = some (.bool false) := (hE.here.1.2).cell 0
      have fl0 := (hE.here.1.2).frozen 0
      have l1 : w26.cell? ⟨g16, 1, none⟩ = some (.slice none 0 0) := (hE.here.1.2).cell 1
      have fl1 := (hE.here.1.2).frozen 1
      have l2 : w26.cell? ⟨g16, 2, none⟩ = some (.bool false) := (hE.here.1.2).cell 2
      have fl2 := (hE.here.1.2).frozen 2
      have l3 : w26.cell? ⟨g16, 3, none⟩ = some (.slice none 0 0) := (hE.here.1.2).cell 3
      have fl3 := (hE.here.1.2).frozen 3
      have e0 : w26.cell? ⟨g17, 0, none⟩ = some (.int .i64 0) := (hE.here.2).cell 0
      have fe0 := (hE.here.2).frozen 0
      go_upto_region 8 with (fail)
      have s0 : w26.setCell ⟨g16, 0, none⟩ (.bool false) = w26 := Blk.same (hE.here.1.2) rfl
      have s1 : w26.setCell ⟨g16, 1, none⟩ (.slice none 0 0) = w26 := Blk.same (hE.here.1.2) rfl
      have s2 : w26.setCell ⟨g16, 2, none⟩ (.bool false) = w26 := Blk.same (hE.here.1.2) rfl
      have s3 : w26.setCell ⟨g16, 3, none⟩ (.slice none 0 0) = w26 := Blk.same (hE.here.1.2) rfl
      rw [s0, s1, s2, s3]
      clear s0 s1 s2 s3 l0 l1 l2 l3 fl0 fl1 fl2 fl3 e0 fe0
      have hgl9 : w.heap.size ≤ g17 := by omega
      have hBk : Blk 32 g17 #[.int .i64 2, .int .i64 0, .int .i64 0, .int .i64 0, .int .i64 0, .int .i64 0, .int .i64 0, .int .i64 0] (w26.setCell ⟨g17, 0, none⟩ (.int .i64 2)) := (hE.here.2).set_ 0 (.int .i64 2)
      replace hE := (((((((Env.again (hE.bel.setCell (p := ⟨g17, 0, none⟩) hgl9 (.int .i64 2))).frd (FRd.sepI (i := 0) (hE.here.1.1.1.1.1.2) (hE.here.2) rfl (.int .i64 2))).frd (FRd.sepI (i := 0) (hE.here.1.1.1.1.2) (hE.here.2) rfl (.int .i64 2))).blkI ((hE.here.1.1.1.2).far (p := ⟨g17, 0, none⟩) (show _ ≠ g17 by omega) (.int .i64 2))).blkI ((hE.here.1.1.2).far (p := ⟨g17, 0, none⟩) (show _ ≠ g17 by omega) (.int .i64 2))).blkI ((hE.here.1.2).far (p := ⟨g17, 0, none⟩) (show _ ≠ g17 by omega) (.int .i64 2))).blkI hBk)
      clear hBk hgl9
      generalize w26.setCell ⟨g17, 0, none⟩ (.int .i64 2) = W27 at hE ⊢
      obtain ⟨k28, k29, k30, k31⟩ := (hE.here.1.1.1.2).c4
      obtain ⟨k32, k33, k34, k35⟩ := (hE.here.1.1.2).c4
      go_wp2_with fail
      refine (fsub_bad (ca := cb) (da := db) (cb := ca) (db := da) (hE.here.1.1.1.1.2) lb (hE.here.1.1.1.1.1.2) la Hbad2.out).mono ?_
      clear k28 k29 k30 k31 k32 k33 k34 k35
      rintro e w36 ⟨rfl, hb⟩
      replace hE := hE.step hb
      clear hb
      have l0 : w36.cell? ⟨g16, 4, none⟩ = some (.bool false) := (hE.here.1.2).cell 4
      have fl0 := (hE.here.1.2).frozen 4
      have l1 : w36.cell? ⟨g16, 5, none⟩ = some (.slice none 0 0) := (hE.here.1.2).cell 5
      have fl1 := (hE.here.1.2).frozen 5
      have l2 : w36.cell? ⟨g16, 6, none⟩ = some (.bool false) := (hE.here.1.2).cell 6
      have fl2 := (hE.here.1.2).frozen 6
      have l3 : w36.cell? ⟨g16, 7, none⟩ = some (.slice none 0 0) := (hE.here.1.2).cell 7
      have fl3 := (hE.here.1.2).frozen 7
      have e0 : w36.cell? ⟨g17, 1, none⟩ = some (.int .i64 0) := (hE.here.2).cell 1
      have fe0 := (hE.here.2).frozen 1
      go_upto_region 9 with (fail)
      have s0 : w36.setCell ⟨g16, 4, none⟩ (.bool false) = w36 := Blk.same (hE.here.1.2) rfl
      have s1 : w36.setCell ⟨g16, 5, none⟩ (.slice none 0 0) = w36 := Blk.same (hE.here.1.2) rfl
      have s2 : w36.setCell ⟨g16, 6, none⟩ (.bool false) = w36 := Blk.same (hE.here.1.2) rfl
      have s3 : w36.setCell ⟨g16, 7, none⟩ (.slice none 0 0) = w36 := Blk.same (hE.here.1.2) rfl
      rw [s0, s1, s2, s3]
      clear s0 s1 s2 s3 l0 l1 l2 l3 fl0 fl1 fl2 fl3 e0 fe0
      have hgl9 : w.heap.size ≤ g17 := by omega
      have hBk : Blk 32 g17 #[.int .i64 2, .int .i64 2, .int .i64 0, .int .i64 0, .int .i64 0, .int .i64 0, .int .i64 0, .int .i64 0] (w36.setCell ⟨g17, 1, none⟩ (.int .i64 2)) := (hE.here.2).set_ 1 (.int .i64 2)
      replace hE := (((((((Env.again (hE.bel.setCell (p := ⟨g17, 1, none⟩) hgl9 (.int .i64 2))).frd (FRd.sepI (i := 1) (hE.here.1.1.1.1.1.2) (hE.here.2) rfl (.int .i64 2))).frd (FRd.sepI (i := 1) (hE.here.1.1.1.1.2) (hE.here.2) rfl (.int .i64 2))).blkI ((hE.here.1.1.1.2).far (p := ⟨g17, 1, none⟩) (show _ ≠ g17 by omega) (.int .i64 2))).blkI ((hE.here.1.1.2).far (p := ⟨g17, 1, none⟩) (show _ ≠ g17 by omega) (.int .i64 2))).blkI ((hE.here.1.2).far (p := ⟨g17, 1, none⟩) (show _ ≠ g17 by omega) (.int .i64 2))).blkI hBk)
      clear hBk hgl9
      generalize w36.setCell ⟨g17, 1, none⟩ (.int .i64 2) = W37 at hE ⊢
      obtain ⟨k38, k39, k40, k41⟩ := (hE.here.1.1.1.2).c4
      obtain ⟨k42, k43, k44, k45⟩ := (hE.here.1.1.2).c4
      go_wp2_with fail
      refine (fmul_bad (ca := ca) (da := da) (cb := cb) (db := db) (hE.here.1.1.1.1.1.2) la (hE.here.1.1.1.1.2) lb Hbad1.out).mono ?_
      clear k38 k39 k40 k41 k42 k43 k44 k45
      rintro e w46 ⟨rfl, hb⟩
      replace hE := hE.step hb
      clear hb
      have l0 : w46.cell? ⟨g16, 8, none⟩ = some (.bool false) := (hE.here.1.2).cell 8
      have fl0 := (hE.here.1.2).frozen 8
      have l1 : w46.cell? ⟨g16, 9, none⟩ = some (.slice none 0 0) := (hE.here.1.2).cell 9
      have fl1 := (hE.here.1.2).frozen 9
      have l2 : w46.cell? ⟨g16, 10, none⟩ = some (.bool false) := (hE.here.1.2).cell 10
      have fl2 := (hE.here.1.2).frozen 10
      have l3 : w46.cell? ⟨g16, 11, none⟩ = some (.slice none 0 0) := (hE.here.1.2).cell 11
      have fl3 := (hE.here.1.2).frozen 11
      have e0 : w46.cell? ⟨g17, 2, none⟩ = some (.int .i64 0) := (hE.here.2).cell 2
      have fe0 := (hE.here.2).frozen 2
      go_upto_region 10 with (fail)
      have s0 : w46.setCell ⟨g16, 8, none⟩ (.bool false) = w46 := Blk.same (hE.here.1.2) rfl
      have s1 : w46.setCell ⟨g16, 9, none⟩ (.slice none 0 0) = w46 := Blk.same (hE.here.1.2) rfl
      have s2 : w46.setCell ⟨g16, 10, none⟩ (.bool false) = w46 := Blk.same (hE.here.1.2) rfl
      have s3 : w46.setCell ⟨g16, 11, none⟩ (.slice none 0 0) = w46 := Blk.same (hE.here.1.2) rfl
      rw [s0, s1, s2, s3]
      clear s0 s1 s2 s3 l0 l1 l2 l3 fl0 fl1 fl2 fl3 e0 fe0
      have hgl9 : w.heap.size ≤ g17 := by omega
      have hBk : Blk 32 g17 #[.int .i64 2, .int .i64 2, .int .i64 2, .int .i64 0, .int .i64 0, .int .i64 0, .int .i64 0, .int .i64 0] (w46.setCell ⟨g17, 2, none⟩ (.int .i64 2)) := (hE.here.2).set_ 2 (.int .i64 2)
      replace hE := (((((((Env.again (hE.bel.setCell (p := ⟨g17, 2, none⟩) hgl9 (.int .i64 2))).frd (FRd.sepI (i := 2) (hE.here.1.1.1.1.1.2) (hE.here.2) rfl (.int .i64 2))).frd (FRd.sepI (i := 2) (hE.here.1.1.1.1.2) (hE.here.2) rfl (.int .i64 2))).blkI ((hE.here.1.1.1.2).far (p := ⟨g17, 2, none⟩) (show _ ≠ g17 by omega) (.int .i64 2))).blkI ((hE.here.1.1.2).far (p := ⟨g17, 2, none⟩) (show _ ≠ g17 by omega) (.int .i64 2))).blkI ((hE.here.1.2).far (p := ⟨g17, 2, none⟩) (show _ ≠ g17 by omega) (.int .i64 2))).blkI hBk)
      clear hBk hgl9
      generalize w46.setCell ⟨g17, 2, none⟩ (.int .i64 2) = W47 at hE ⊢
      obtain ⟨k48, k49, k50, k51⟩ := (hE.here.1.1.1.2).c4
      obtain ⟨k52, k53, k54, k55⟩ := (hE.here.1.1.2).c4
      go_wp2_with fail
      refine (fdiv_bad (ca := cb) (da := db) (cb := ca) (db := da) (hE.here.1.1.1.1.2) lb (hE.here.1.1.1.1.1.2) la Hbad2.out).mono ?_
      clear k48 k49 k50 k51 k52 k53 k54 k55
      rintro e w56 ⟨rfl, hb⟩
      replace hE := hE.step hb
      clear hb
      have l0 : w56.cell? ⟨g16, 12, none⟩ = some (.bool false) := (hE.here.1.2).cell 12
      have fl0 := (hE.here.1.2).frozen 12
      have l1 : w56.cell? ⟨g16, 13, none⟩ = some (.slice none 0 0) := (hE.here.1.2).cell 13
      have fl1 := (hE.here.1.2).frozen 13
      have l2 : w56.cell? ⟨g16, 14, none⟩ = some (.bool false) := (hE.here.1.2).cell 14
      have fl2 := (hE.here.1.2).frozen 14
      have l3 : w56.cell? ⟨g16, 15, none⟩ = some (.slice none 0 0) := (hE.here.1.2).cell 15
      have fl3 := (hE.here.1.2).frozen 15
      have e0 : w56.cell? ⟨g17, 3, none⟩ = some (.int .i64 0) := (hE.here.2).cell 3
      have fe0 := (hE.here.2).frozen 3
      go_upto_region 11 with (fail)
      have s0 : w56.setCell ⟨g16, 12, none⟩ (.bool false) = w56 := Blk.same (hE.here.1.2) rfl
      have s1 : w56.setCell ⟨g16, 13, none⟩ (.slice none 0 0) = w56 := Blk.same (hE.here.1.2) rfl
      have s2 : w56.setCell ⟨g16, 14, none⟩ (.bool false) = w56 := Blk.same (hE.here.1.2) rfl
      have s3 : w56.setCell ⟨g16, 15, none⟩ (.slice none 0 0) = w56 := Blk.same (hE.here.1.2) rfl
      rw [s0, s1, s2, s3]
      clear s0 s1 s2 s3 l0 l1 l2 l3 fl0 fl1 fl2 fl3 e0 fe0
      have hgl9 : w.heap.size ≤ g17 := by omega
      have hBk : Blk 32 g17 #[.int .i64 2, .int .i64 2, .int .i64 2, .int .i64 2, .int .i64 0, .int .i64 0, .int .i64 0, .int .i64 0] (w56.setCell ⟨g17, 3, none⟩ (.int .i64 2)) := (hE.here.2).set_ 3 (.int .i64 2)
      replace hE := (((((((Env.again (hE.bel.setCell (p := ⟨g17, 3, none⟩) hgl9 (.int .i64 2))).frd (FRd.sepI (i := 3) (hE.here.1.1.1.1.1.2) (hE.here.2) rfl (.int .i64 2))).frd (FRd.sepI (i := 3) (hE.here.1.1.1.1.2) (hE.here.2) rfl (.int .i64 2))).blkI ((hE.here.1.1.1.2).far (p := ⟨g17, 3, none⟩) (show _ ≠ g17 by omega) (.int .i64 2))).blkI ((hE.here.1.1.2).far (p := ⟨g17, 3, none⟩) (show _ ≠ g17 by omega) (.int .i64 2))).blkI ((hE.here.1.2).far (p := ⟨g17, 3, none⟩) (show _ ≠ g17 by omega) (.int .i64 2))).blkI hBk)
      clear hBk hgl9
      generalize w56.setCell ⟨g17, 3, none⟩ (.int .i64 2) = W57 at hE ⊢
      obtain ⟨k58, k59, k60, k61⟩ := (hE.here.1.1.1.2).c4
      obtain ⟨k62, k63, k64, k65⟩ := (hE.here.1.1.2).c4
      go_wp2_with fail
      refine (fneg_bad (ca := ca) (da := da) (hE.here.1.1.1.1.1.2) la Hbad.out).mono ?_
      clear k58 k59 k60 k61 k62 k63 k64 k65
      rintro e w66 ⟨rfl, hb⟩
      replace hE := hE.step hb
      clear hb
      have l0 : w66.cell? ⟨g16, 16, none⟩ = some (.bool false) := (hE.here.1.2).cell 16
      have fl0 := (hE.here.1.2).frozen 16
      have l1 : w66.cell? ⟨g16, 17, none⟩ = some (.slice none 0 0) := (hE.here.1.2).cell 17
      have fl1 := (hE.here.1.2).frozen 17
      have l2 : w66.cell? ⟨g16, 18, none⟩ = some (.bool false) := (hE.here.1.2).cell 18
      have fl2 := (hE.here.1.2).frozen 18
      have l3 : w66.cell? ⟨g16, 19, none⟩ = some (.slice none 0 0) := (hE.here.1.2).cell 19
      have fl3 := (hE.here.1.2).frozen 19
      have e0 : w66.cell? ⟨g17, 4, none⟩ = some (.int .i64 0) := (hE.here.2).cell 4
      have fe0 := (hE.here.2).frozen 4
      go_upto_region 12 with (fail)
      have s0 : w66.setCell ⟨g16, 16, none⟩ (.bool false) = w66 := Blk.same (hE.here.1.2) rfl
      have s1 : w66.setCell ⟨g16, 17, none⟩ (.slice none 0 0) = w66 := Blk.same (hE.here.1.2) rfl
      have s2 : w66.setCell ⟨g16, 18, none⟩ (.bool false) = w66 := Blk.same (hE.here.1.2) rfl
      have s3 : w66.setCell ⟨g16, 19, none⟩ (.slice none 0 0) = w66 := Blk.same (hE.here.1.2) rfl
      rw [s0, s1, s2, s3]
      clear s0 s1 s2 s3 l0 l1 l2 l3 fl0 fl1 fl2 fl3 e0 fe0
      have hgl9 : w.heap.size ≤ g17 := by omega
      have hBk : Blk 32 g17 #[.int .i64 2, .int .i64 2, .int .i64 2, .int .i64 2, .int .i64 2, .int .i64 0, .int .i64 0, .int .i64 0] (w66.setCell ⟨g17, 4, none⟩ (.int .i64 2)) := (hE.here.2).set_ 4 (.int .i64 2)
      replace hE := (((((((Env.again (hE.bel.setCell (p := ⟨g17, 4, none⟩) hgl9 (.int .i64 2))).frd (FRd.sepI (i := 4) (hE.here.1.1.1.1.1.2) (hE.here.2) rfl (.int .i64 2))).frd (FRd.sepI (i := 4) (hE.here.1.1.1.1.2) (hE.here.2) rfl (.int .i64 2))).blkI ((hE.here.1.1.1.2).far (p := ⟨g17, 4, none⟩) (show _ ≠ g17 by omega) (.int .i64 2))).blkI ((hE.here.1.1.2).far (p := ⟨g17, 4, none⟩) (show _ ≠ g17 by omega) (.int .i64 2))).blkI ((hE.here.1.2).far (p := ⟨g17, 4, none⟩) (show _ ≠ g17 by omega) (.int .i64 2))).blkI hBk)
      clear hBk hgl9
      generalize w66.setCell ⟨g17, 4, none⟩ (.int .i64 2) = W67 at hE ⊢
      obtain ⟨k68, k69, k70, k71⟩ := (hE.here.1.1.1.2).c4
      obtain ⟨k72, k73, k74, k75⟩ := (hE.here.1.1.2).c4
      go_wp2_with fail
      refine (fpow_bad (ca := ca) (da := da) (hE.here.1.1.1.1.1.2) la Hbad.out).mono ?_
      clear k68 k69 k70 k71 k72 k73 k74 k75
      rintro e w76 ⟨rfl, hb⟩
      replace hE := hE.step hb
      clear hb
      have l0 : w76.cell? ⟨g16, 20, none⟩ = some (.bool false) := (hE.here.1.2).cell 20
      have fl0 := (hE.here.1.2).frozen 20
      have l1 : w76.cell? ⟨g16, 21, none⟩ = some (.slice none 0 0) := (hE.here.1.2).cell 21
      have fl1 := (hE.here.1.2).frozen 21
      have l2 : w76.cell? ⟨g16, 22, none⟩ = some (.bool false) := (hE.here.1.2).cell 22
      have fl2 := (hE.here.1.2).frozen 22
      have l3 : w76.cell? ⟨g16, 23, none⟩ = some (.slice none 0 0) := (hE.here.1.2).cell 23
      have fl3 := (hE.here.1.2).frozen 23
      have e0 : w76.cell? ⟨g17, 5, none⟩ = some (.int .i64 0) := (hE.here.2).cell 5
      have fe0 := (hE.here.2).frozen 5
      go_upto_region 13 with (fail)
      have s0 : w76.setCell ⟨g16, 20, none⟩ (.bool false) = w76 := Blk.same (hE.here.1.2) rfl
      have s1 : w76.setCell ⟨g16, 21, none⟩ (.slice none 0 0) = w76 := Blk.same (hE.here.1.2) rfl
      have s2 : w76.setCell ⟨g16, 22, none⟩ (.bool false) = w76 := Blk.same (hE.here.1.2) rfl
      have s3 : w76.setCell ⟨g16, 23, none⟩ (.slice none 0 0) = w76 := Blk.same (hE.here.1.2) rfl
      rw [s0, s1, s2, s3]
      clear s0 s1 s2 s3 l0 l1 l2 l3 fl0 fl1 fl2 fl3 e0 fe0
      have hgl9 : w.heap.size ≤ g17 := by omega
      have hBk : Blk 32 g17 #[.int .i64 2, .int .i64 2, .int .i64 2, .int .i64 2, .int .i64 2, .int .i64 2, .int .i64 0, .int .i64 0] (w76.setCell ⟨g17, 5, none⟩ (.int .i64 2)) := (hE.here.2).set_ 5 (.int .i64 2)
      replace hE := (((((((Env.again (hE.bel.setCell (p := ⟨g17, 5, none⟩) hgl9 (.int .i64 2))).frd (FRd.sepI (i := 5) (hE.here.1.1.1.1.1.2) (hE.here.2) rfl (.int .i64 2))).frd (FRd.sepI (i := 5) (hE.here.1.1.1.1.2) (hE.here.2) rfl (.int .i64 2))).blkI ((hE.here.1.1.1.2).far (p := ⟨g17, 5, none⟩) (show _ ≠ g17 by omega) (.int .i64 2))).blkI ((hE.here.1.1.2).far (p := ⟨g17, 5, none⟩) (show _ ≠ g17 by omega) (.int .i64 2))).blkI ((hE.here.1.2).far (p := ⟨g17, 5, none⟩) (show _ ≠ g17 by omega) (.int .i64 2))).blkI hBk)
      clear hBk hgl9
      generalize w76.setCell ⟨g17, 5, none⟩ (.int .i64 2) = W77 at hE ⊢
      obtain ⟨k78, k79, k80, k81⟩ := (hE.here.1.1.1.2).c4
      obtain ⟨k82, k83, k84, k85⟩ := (hE.here.1.1.2).c4
      go_wp2_with fail
      refine (fround_bad (ca := ca) (da := da) (cb := cb) (db := db) (hE.here.1.1.1.1.1.2) la (hE.here.1.1.1.1.2) lb Hbad1.out).mono ?_
      clear k78 k79 k80 k81 k82 k83 k84 k85
      rintro e w86 ⟨rfl, hb⟩
      replace hE := hE.step hb
      clear hb
      have l0 : w86.cell? ⟨g16, 24, none⟩ = some (.bool false) := (hE.here.1.2).cell 24
      have fl0 := (hE.here.1.2).frozen 24
      have l1 : w86.cell? ⟨g16, 25, none⟩ = some (.slice none 0 0) := (hE.here.1.2).cell 25
      have fl1 := (hE.here.1.2).frozen 25
      have l2 : w86.cell? ⟨g16, 26, none⟩ = some (.bool false) := (hE.here.1.2).cell 26
      have fl2 := (hE.here.1.2).frozen 26
      have l3 : w86.cell? ⟨g16, 27, none⟩ = some (.slice none 0 0) := (hE.here.1.2).cell 27
      have fl3 := (hE.here.1.2).frozen 27
      have e0 : w86.cell? ⟨g17, 6, none⟩ = some (.int .i64 0) := (hE.here.2).cell 6
      have fe0 := (hE.here.2).frozen 6
      go_upto_region 14 with (fail)
      have s0 : w86.setCell ⟨g16, 24, none⟩ (.bool false) = w86 := Blk.same (hE.here.1.2) rfl
      have s1 : w86.setCell ⟨g16, 25, none⟩ (.slice none 0 0) = w86 := Blk.same (hE.here.1.2) rfl
      have s2 : w86.setCell ⟨g16, 26, none⟩ (.bool false) = w86 := Blk.same (hE.here.1.2) rfl
      have s3 : w86.setCell ⟨g16, 27, none⟩ (.slice none 0 0) = w86 := Blk.same (hE.here.1.2) rfl
      rw [s0, s1, s2, s3]
      clear s0 s1 s2 s3 l0 l1 l2 l3 fl0 fl1 fl2 fl3 e0 fe0
      have hgl9 : w.heap.size ≤ g17 := by omega
      have hBk : Blk 32 g17 #[.int .i64 2, .int .i64 2, .int .i64 2, .int .i64 2, .int .i64 2, .int .i64 2, .int .i64 2, .int .i64 0] (w86.setCell ⟨g17, 6, none⟩ (.int .i64 2)) := (hE.here.2).set_ 6 (.int .i64 2)
      replace hE := (((((((Env.again (hE.bel.setCell (p := ⟨g17, 6, none⟩) hgl9 (.int .i64 2))).frd (FRd.sepI (i := 6) (hE.here.1.1.1.1.1.2) (hE.here.2) rfl (.int .i64 2))).frd (FRd.sepI (i := 6) (hE.here.1.1.1.1.2) (hE.here.2) rfl (.int .i64 2))).blkI ((hE.here.1.1.1.2).far (p := ⟨g17, 6, none⟩) (show _ ≠ g17 by omega) (.int .i64 2))).blkI ((hE.here.1.1.2).far (p := ⟨g17, 6, none⟩) (show _ ≠ g17 by omega) (.int .i64 2))).blkI ((hE.here.1.2).far (p := ⟨g17, 6, none⟩) (show _ ≠ g17 by omega) (.int .i64 2))).blkI hBk)
      clear hBk hgl9
      generalize w86.setCell ⟨g17, 6, none⟩ (.int .i64 2) = W87 at hE ⊢
      obtain ⟨k88, k89, k90, k91⟩ := (hE.here.1.1.1.2).c4
      obtain ⟨k92, k93, k94, k95⟩ := (hE.here.1.1.2).c4
      go_wp2_with fail
      refine (fround_bad (ca := cb) (da := db) (cb := ca) (db := da) (hE.here.1.1.1.1.2) lb (hE.here.1.1.1.1.1.2) la Hbad2.out).mono ?_
      clear k88 k89 k90 k91 k92 k93 k94 k95
      rintro e w96 ⟨rfl, hb⟩
      replace hE := hE.step hb
      clear hb
      have l0 : w96.cell? ⟨g16, 28, none⟩ = some (.bool false) := (hE.here.1.2).cell 28
      have fl0 := (hE.here.1.2).frozen 28
      have l1 : w96.cell? ⟨g16, 29, none⟩ = some (.slice none 0 0) := (hE.here.1.2).cell 29
      have fl1 := (hE.here.1.2).frozen 29
      have l2 : w96.cell? ⟨g16, 30, none⟩ = some (.bool false) := (hE.here.1.2).cell 30
      have fl2 := (hE.here.1.2).frozen 30
      have l3 : w96.cell? ⟨g16, 31, none⟩ = some (.slice none 0 0) := (hE.here.1.2).cell 31
      have fl3 := (hE.here.1.2).frozen 31
      have e0 : w96.cell? ⟨g17, 7, none⟩ = some (.int .i64 0) := (hE.here.2).cell 7
      have fe0 := (hE.here.2).frozen 7
      go_upto_region 15 with (fail)
      have s0 : w96.setCell ⟨g16, 28, none⟩ (.bool false) = w96 := Blk.same (hE.here.1.2) rfl
      have s1 : w96.setCell ⟨g16, 29, none⟩ (.slice none 0 0) = w96 := Blk.same (hE.here.1.2) rfl
      have s2 : w96.setCell ⟨g16, 30, none⟩ (.bool false) = w96 := Blk.same (hE.here.1.2) rfl
      have s3 : w96.setCell ⟨g16, 31, none⟩ (.slice none 0 0) = w96 := Blk.same (hE.here.1.2) rfl
      rw [s0, s1, s2, s3]
      clear s0 s1 s2 s3 l0 l1 l2 l3 fl0 fl1 fl2 fl3 e0 fe0
      have hgl9 : w.heap.size ≤ g17 := by omega
      have hBk : Blk 32 g17 #[.int .i64 2, .int .i64 2, .int .i64 2, .int .i64 2, .int .i64 2, .int .i64 2, .int .i64 2, .int .i64 2] (w96.setCell ⟨g17, 7, none⟩ (.int .i64 2)) := (hE.here.2).set_ 7 (.int .i64 2)
      replace hE := (((((((Env.again (hE.bel.setCell (p := ⟨g17, 7, none⟩) hgl9 (.int .i64 2))).frd (FRd.sepI (i := 7) (hE.here.1.1.1.1.1.2) (hE.here.2) rfl (.int .i64 2))).frd (FRd.sepI (i := 7) (hE.here.1.1.1.1.2) (hE.here.2) rfl (.int .i64 2))).blkI ((hE.here.1.1.1.2).far (p := ⟨g17, 7, none⟩) (show _ ≠ g17 by omega) (.int .i64 2))).blkI ((hE.here.1.1.2).far (p := ⟨g17, 7, none⟩) (show _ ≠ g17 by omega) (.int .i64 2))).blkI ((hE.here.1.2).far (p := ⟨g17, 7, none⟩) (show _ ≠ g17 by omega) (.int .i64 2))).blkI hBk)
      clear hBk hgl9
      generalize w96.setCell ⟨g17, 7, none⟩ (.int .i64 2) = W97 at hE ⊢
      go_wp2_with fail
      go_loopw [11] (fun x wr => ∃ i : Nat, i ≤ 8 ∧ x = .int .i64 (i : Int) ∧ Env w (fun V => ((((((True ∧ FRd V Aa na fa Ba ma ga) ∧ FRd V Ab nb fb Bb mb gb) ∧ Blk 26 (w.heap.size) #[.bool sa, .slice Aa na ca, .bool ta, .slice Ba ma da] V) ∧ Blk 26 (w.heap.size + 1) #[.bool sb, .slice Ab nb cb, .bool tb, .slice Bb mb db] V) ∧ Blk 26 (g16) #[.bool false, .slice none 0 0, .bool false, .slice none 0 0, .bool false, .slice none 0 0, .bool false, .slice none 0 0, .bool false, .slice none 0 0, .bool false, .slice none 0 0, .bool false, .slice none 0 0, .bool false, .slice none 0 0, .bool false, .slice none 0 0, .bool false, .slice none 0 0, .bool false, .slice none 0 0, .bool false, .slice none 0 0, .bool false, .slice none 0 0, .bool false, .slice none 0 0, .bool false, .slice none 0 0, .bool false, .slice none 0 0] V) ∧ Blk 32 (g17) #[.int .i64 2, .int .i64 2, .int .i64 2, .int .i64 2, .int .i64 2, .int .i64 2, .int .i64 2, .int .i64 2] V)) wr) (fun x _ => 8 - (intOf x).toNat)
      case atStart => exact ⟨0, Nat.zero_le _, rfl, hE⟩
      case round =>
        clear hE
        obtain ⟨i, hi, rfl, hE⟩ := hrel
        by_cases hlt9 : i < 8
        · have t1 : decide ((i : Int) < 8) = true := decide_eq_true (by omega)
          have t2 : (i : Int) < 8 := by omega
          have ce : wr.cell? ⟨g17, i, none⟩ = some (.int .i64 2) := by
            rcases (show i = 0 ∨ i = 1 ∨ i = 2 ∨ i = 3 ∨ i = 4 ∨ i = 5 ∨ i = 6 ∨ i = 7 by omega) with rfl | rfl | rfl | rfl | rfl | rfl | rfl | rfl
            · exact (hE.here.2).cell 0
            · exact (hE.here.2).cell 1
            · exact (hE.here.2).cell 2
            · exact (hE.here.2).cell 3
            · exact (hE.here.2).cell 4
            · exact (hE.here.2).cell 5
            · exact (hE.here.2).cell 6
            · exact (hE.here.2).cell 7
          have c0 : wr.cell? ⟨g16, i * 4, none⟩ = some (.bool false) := by
            rcases (show i = 0 ∨ i = 1 ∨ i = 2 ∨ i = 3 ∨ i = 4 ∨ i = 5 ∨ i = 6 ∨ i = 7 by omega) with rfl | rfl | rfl | rfl | rfl | rfl | rfl | rfl
            · exact (hE.here.1.2).cell 0
            · exact (hE.here.1.2).cell 4
            · exact (hE.here.1.2).cell 8
            · exact (hE.here.1.2).cell 12
            · exact (hE.here.1.2).cell 16
            · exact (hE.here.1.2).cell 20
            · exact (hE.here.1.2).cell 24
            · exact (hE.here.1.2).cell 28
          have c1 : wr.cell? ⟨g16, i * 4 + 1, none⟩ = some (.slice none 0 0) := by
            rcases (show i = 0 ∨ i = 1 ∨ i = 2 ∨ i = 3 ∨ i = 4 ∨ i = 5 ∨ i = 6 ∨ i = 7 by omega) with rfl | rfl | rfl | rfl | rfl | rfl | rfl | rfl
            · exact (hE.here.1.2).cell 1
            · exact (hE.here.1.2).cell 5
            · exact (hE.here.1.2).cell 9
            · exact (hE.here.1.2).cell 13
            · exact (hE.here.1.2).cell 17
            · exact (hE.here.1.2).cell 21
            · exact (hE.here.1.2).cell 25
            · exact (hE.here.1.2).cell 29
          have c2 : wr.cell? ⟨g16, i * 4 + 2, none⟩ = some (.bool false) := by
            rcases (show i = 0 ∨ i = 1 ∨ i = 2 ∨ i = 3 ∨ i = 4 ∨ i = 5 ∨ i = 6 ∨ i = 7 by omega) with rfl | rfl | rfl | rfl | rfl | rfl | rfl | rfl
            · exact (hE.here.1.2).cell 2
            · exact (hE.here.1.2).cell 6
            · exact (hE.here.1.2).cell 10
            · exact (hE.here.1.2).cell 14
            · exact (hE.here.1.2).cell 18
            · exact (hE.here.1.2).cell 22
            · exact (hE.here.1.2).cell 26
            · exact (hE.here.1.2).cell 30
          have c3 : wr.cell? ⟨g16, i * 4 + 3, none⟩ = some (.slice none 0 0) := by
            rcases (show i = 0 ∨ i = 1 ∨ i = 2 ∨ i = 3 ∨ i = 4 ∨ i = 5 ∨ i = 6 ∨ i = 7 by omega) with rfl | rfl | rfl | rfl | rfl | rfl | rfl | rfl
            · exact (hE.here.1.2).cell 3
            · exact (hE.here.1.2).cell 7
            · exact (hE.here.1.2).cell 11
            · exact (hE.here.1.2).cell 15
            · exact (hE.here.1.2).cell 19
            · exact (hE.here.1.2).cell 23
            · exact (hE.here.1.2).cell 27
            · exact (hE.here.1.2).cell 31
          go_wp2_with fail
          clear ce c0 c1 c2 c3
          refine (frsame_00).mono ?_
          rintro e w98 ⟨rfl, hb⟩
          replace hE := hE.step hb
          clear hb
          have o1 : IntKind.i64.wrap ((i : Int) + 1) = ((i + 1 : Nat) : Int) := by rw [IntKind.wrap_i64]; omega
          go_wp2_with fail
          go_roundw
          case rel => exact ⟨i + 1, by omega, by go_num, hE⟩
          case measure => (simp [intOf]) <;> omega
        · have t1 : decide ((i : Int) < 8) = false := decide_eq_false (by omega)
          have t2 : ¬ (i : Int) < 8 := by omega
          go_upto_region 20 with (fail)
          obtain ⟨k99, k100, k101, k102⟩ := (hE.here.1.1.1.2).c4
          go_wp2_with fail
          refine (ffloor_bad (ca := ca) (da := da) (hE.here.1.1.1.1.1.2) la Hbad.out).mono ?_
          clear k99 k100 k101 k102
          rintro e w103 ⟨rfl, hb⟩
          replace hE := hE.step hb
          clear hb
          go_upto_region 21 with (fail)
          obtain ⟨g104, hg104⟩ : ∃ g104, g104 = w103.heap.size := ⟨_, rfl⟩
          have hl104_2 : w.heap.size < g104 := by rw [hg104]; exact (hE.here.1.1.1.2).lt
          have hl104_3 : w.heap.size + 1 < g104 := by rw [hg104]; exact (hE.here.1.1.2).lt
          have hl104_4 : g16 < g104 := by rw [hg104]; exact (hE.here.1.2).lt
          have hl104_5 : g17 < g104 := by rw [hg104]; exact (hE.here.2).lt
          replace hE := hE.blk 24 #[.bool false, .slice none 0 0] (g := g104) hg104.symm
          generalize w103.alloc (.cells #[.bool false, .slice none 0 0] 24) = W104 at hE ⊢
          rw [← hg104]
          clear hg104
          obtain ⟨k105, k106, k107, k108⟩ := (hE.here.1.1.1.1.2).c4
          go_wp2_with fail
          refine (fceil_bad (ca := ca) (da := da) (hE.here.1.1.1.1.1.1.2) la Hbad.out).mono ?_
          clear k105 k106 k107 k108
          rintro e w109 ⟨rfl, hb⟩
          replace hE := hE.step hb
          clear hb
          go_upto_region 22 with (fail)
          obtain ⟨g110, hg110⟩ : ∃ g110, g110 = w109.heap.size := ⟨_, rfl⟩
          have hl110_2 : w.heap.size < g110 := by rw [hg110]; exact (hE.here.1.1.1.1.2).lt
          have hl110_3 : w.heap.size + 1 < g110 := by rw [hg110]; exact (hE.here.1.1.1.2).lt
          have hl110_4 : g16 < g110 := by rw [hg110]; exact (hE.here.1.1.2).lt
          have hl110_5 : g17 < g110 := by rw [hg110]; exact (hE.here.1.2).lt
          have hl110_6 : g104 < g110 := by rw [hg110]; exact (hE.here.2).lt
          replace hE := hE.blk 24 #[.bool false, .slice none 0 0] (g := g110) hg110.symm
          generalize w109.alloc (.cells #[.bool false, .slice none 0 0] 24) = W110 at hE ⊢
          rw [← hg110]
          clear hg110
          obtain ⟨k111, k112, k113, k114⟩ := (hE.here.1.1.1.1.1.2).c4
          go_wp2_with fail
          refine (fint_bad (ca := ca) (da := da) (hE.here.1.1.1.1.1.1.1.2) la Hbad.out).mono ?_
          clear k111 k112 k113 k114
          rintro e w115 ⟨rfl, hb⟩
          replace hE := hE.step hb
          clear hb
          go_upto_region 23 with (fail)
          obtain ⟨k116, k117, k118, k119⟩ := (hE.here.1.1.1.1.1.2).c4
          go_wp2_with fail
          refine (ftext_bad (ca := ca) (da := da) (hE.here.1.1.1.1.1.1.1.2) la Hbad.out).mono ?_
          clear k116 k117 k118 k119
          rintro e w120 ⟨rfl, hb⟩
          replace hE := hE.step hb
          clear hb
          go_upto_region 24 with (fail)
          obtain ⟨k121, k122⟩ := (hE.here.1.2).c2
          obtain ⟨k123, k124⟩ := (hE.here.2).c2
          obtain ⟨k125, k126, k127, k128⟩ := (hE.here.1.1.1.1.1.2).c4
          obtain ⟨k129, k130, k131, k132⟩ := (hE.here.1.1.1.1.2).c4
          go_wp2_with fail
          refine (fcmp_bad (ca := ca) (da := da) (cb := cb) (db := db) (hE.here.1.1.1.1.1.1.1.2) la (hE.here.1.1.1.1.1.1.2) lb Hbad1.out).mono ?_
          clear k121 k122 k123 k124 k125 k126 k127 k128 k129 k130 k131 k132
          rintro e w133 ⟨rfl, hb⟩
          replace hE := hE.step hb
          clear hb
          obtain ⟨k134, k135, k136, k137⟩ := (hE.here.1.1.1.1.1.2).c4
          obtain ⟨k138, k139, k140, k141⟩ := (hE.here.1.1.1.1.2).c4
          go_wp2_with fail
          refine (fcmp_bad (ca := cb) (da := db) (cb := ca) (db := da) (hE.here.1.1.1.1.1.1.2) lb (hE.here.1.1.1.1.1.1.1.2) la Hbad2.out).mono ?_
          clear k134 k135 k136 k137 k138 k139 k140 k141
          rintro e w142 ⟨rfl, hb⟩
          replace hE := hE.step hb
          clear hb
          go_wp2_with fail
          go_ret
          exact ⟨rfl, hE.bel⟩
end Go.Proofs.YtifikcemcflgjaaGreatDoor
