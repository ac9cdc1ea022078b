/-
  The walk of FracRounds.
-/
import Derived.Test.YtifikcemcflgjaaGreatGO
import Derived.Test.YtifikcemcflgjaaGreatGN
import Derived.Test.YtifikcemcflgjaaGreatG4
import Derived.Test.YtifikcemcflgjaaGreatGA
namespace Go.Proofs.YtifikcemcflgjaaGreat
open Go.RowKit

theorem ro_fl {w : World} {q : Rat} {s t : Bool} {A B : Option Addr} {n c m d k : Nat} {f g : Nat → Nat} (h : (Fc.mk s A n c f t B m d g).sh (k : Int)) (hq : FV w q s A n t B m) : fl q ≤ k := by
 obtain ⟨h1, h2⟩ := h
 dsimp only at h1 h2
 refine fl_le.2 ⟨?_, ?_⟩
 · rw [← hq.1.len]; omega
 ·
  have := hq.2.len
  rw [Int.natAbs_natCast] at this
  rw [← this]; omega
set_option linter.unusedSimpArgs false in
set_option maxRecDepth 100000 in
set_option maxHeartbeats 16000000 in
theorem frounds_walk {sa ta sb tb : Bool} {Aa Ba Ab Bb : Option Addr} {na ca ma da nb cb mb db : Nat} {fa ga fb gb : Nat → Nat} {k0 : Int} {w : World} (hlt : 0 < w.heap.size) (hm : w.cell? ⟨0, 0, none⟩ = some (.int .i64 k0)) (ra : FRd w Aa na fa Ba ma ga) (rb : FRd w Ab nb fb Bb mb gb) (z2 : Int) (_l2 : 0 ≤ z2) (_u2 : z2 ≤ 255) :
  Calls Tryz.prog 3 #[.agg #[.bool sa, .slice Aa na ca, .bool ta, .slice Ba ma da], .agg #[.bool sb, .slice Ab nb cb, .bool tb, .slice Bb mb db], .int .u8 z2] w (fun e w' => e = .returned (.bool true) ∧ Below w.heap.size w w') := by
 have hE := (((((Env.start w).at_ hlt hm).frd ra).frd rb).blk 26 #[.bool sa, .slice Aa na ca, .bool ta, .slice Ba ma da] (g := w.heap.size) rfl).blk 26 #[.bool sb, .slice Ab nb cb, .bool tb, .slice Bb mb db] (g := w.heap.size + 1) (by simp)
 obtain ⟨W0, hW0⟩ : ∃ W0, W0 = ((w.alloc (.cells #[.bool sa, .slice Aa na ca, .bool ta, .slice Ba ma da] 26)).alloc (.cells #[.bool sb, .slice Ab nb cb, .bool tb, .slice Bb mb db] 26)) := ⟨_, rfl⟩
 rw [← hW0] at hE
 have HW0 := Lib.hid hW0
 clear hW0
 go_enter Tryz.func3, Tryz.ntmps3
 go_upto_region 1 with (fail)
 rw [← HW0.out]
 obtain ⟨k1, k2, k3, k4⟩ := (hE.here.1.2).c4
 obtain ⟨k5, k6, k7, k8⟩ := (hE.here.2).c4
 go_wp2_with fail
 refine (short2 ⟨sa, Aa, na, ca, fa, ta, Ba, ma, da, ga⟩ ⟨sb, Ab, nb, cb, fb, tb, Bb, mb, db, gb⟩ 8 _ (hE.here.1.1.1.2) (hE.here.1.1.2)).mono ?_
 clear k1 k2 k3 k4 k5 k6 k7 k8
 rintro e w9 ⟨v, rfl, hv, hb⟩
 replace hE := hE.step hb
 clear hb
 cases v with
 | false =>
  clear hv
  go_wp2_with fail
  refine (awake2_t _ (hE.here.1.1.1.1.2).2 (hE.here.1.1.1.1.2).1).mono ?_
  rintro e w10 ⟨rfl, hb⟩
  replace hE := hE.step hb
  clear hb
  go_wp2_with fail
  go_ret
  exact ⟨rfl, hE.bel⟩
 | true =>
  obtain ⟨xa, xb⟩ := hv rfl
  clear hv
  have Hxa := Lib.hid xa
  clear xa
  have Hxb := Lib.hid xb
  clear xb
  go_wp2_with fail
  go_loopw [7] (fun x wr => ∃ i : Nat, i ≤ 8 ∧ x = .int .i64 (i : Int) ∧ Env w (fun V => (((((True ∧ At 0 0 (.int .i64 k0) V) ∧ FRd V Aa na fa Ba ma ga) ∧ FRd V Ab nb fb Bb mb gb) ∧ Blk 26 (w.heap.size) #[.bool sa, .slice Aa na ca, .bool ta, .slice Ba ma da] V) ∧ Blk 26 (w.heap.size + 1) #[.bool sb, .slice Ab nb cb, .bool tb, .slice Bb mb db] V)) wr) (fun x _ => 8 - (intOf x).toNat)
  case atStart => exact ⟨0, Nat.zero_le _, rfl, hE⟩
  case round =>
   clear hE
   obtain ⟨i, hi, rfl, hE⟩ := hrel
   by_cases hlt9 : i < 8
   ·
    have t1 : decide ((i : Int) < 8) = true := decide_eq_true (by omega)
    have t2 : (i : Int) < 8 := by omega
    have o1 : IntKind.i64.wrap ((i : Int) + 1) = ((i + 1 : Nat) : Int) := by rw [IntKind.wrap_i64]; omega
    have o3 : IntKind.u8.wrap (i : Int) = (i : Int) := by rw [IntKind.wrap_u8]; omega
    obtain ⟨md, hmd⟩ : ∃ x, IntKind.u8.wrap (z2 + (i : Int)) = x := ⟨_, rfl⟩
    have o4 : IntKind.u8.wrap (z2 + IntKind.u8.wrap (i : Int)) = md := by rw [o3, hmd]
    have o5 : (z2 + (i : Int)) % 256 = md := by rw [← hmd, IntKind.wrap_u8]
    cases h1 : okF sa na fa ta ma ga
    ·
     have bad : (Fc.ok ⟨sa, Aa, na, ca, fa, ta, Ba, ma, da, ga⟩ && Fc.ok ⟨sb, Ab, nb, cb, fb, tb, Bb, mb, db, gb⟩) = false := by show (okF sa na fa ta ma ga && okF sb nb fb tb mb gb) = false; rw [h1]; rfl
     have la : Fc.len ⟨sa, Aa, na, ca, fa, ta, Ba, ma, da, ga⟩ := ⟨show na ≤ 1000000 by have h := Hxa.out.1; dsimp only at h; omega, show ma ≤ 1000000 by have h := Hxa.out.2; dsimp only at h; omega⟩
     have lb : Fc.len ⟨sb, Ab, nb, cb, fb, tb, Bb, mb, db, gb⟩ := ⟨show nb ≤ 1000000 by have h := Hxb.out.1; dsimp only at h; omega, show mb ≤ 1000000 by have h := Hxb.out.2; dsimp only at h; omega⟩
     have H1 := Lib.hid h1
     have BAD := Lib.hid bad
     clear h1 bad
     obtain ⟨k11, k12, k13, k14⟩ := (hE.here.1.2).c4
     obtain ⟨k15, k16, k17, k18⟩ := (hE.here.2).c4
     go_wp2_with fail
     refine (fround_bad (ca := ca) (da := da) (cb := cb) (db := db) (hE.here.1.1.1.2) la (hE.here.1.1.2) lb BAD.out).mono ?_
     clear k11 k12 k13 k14 k15 k16 k17 k18
     rintro e w19 ⟨rfl, hb⟩
     replace hE := hE.step hb
     clear hb
     go_upto_region 7 with (fail)
     obtain ⟨g20, hg20⟩ : ∃ g20, g20 = w19.heap.size := ⟨_, rfl⟩
     have hl20_3 : w.heap.size < g20 := by rw [hg20]; exact (hE.here.1.2).lt
     have hl20_4 : w.heap.size + 1 < g20 := by rw [hg20]; exact (hE.here.2).lt
     replace hE := hE.blk 26 #[.bool false, .slice none 0 0, .bool false, .slice none 0 0] (g := g20) hg20.symm
     generalize w19.alloc (.cells #[.bool false, .slice none 0 0, .bool false, .slice none 0 0] 26) = W20 at hE ⊢
     rw [← hg20]
     clear hg20
     obtain ⟨k21, k22, k23, k24⟩ := (hE.here.1.1.2).c4
     obtain ⟨k25, k26, k27, k28⟩ := (hE.here.1.2).c4
     go_wp2_with fail
     refine (rround_bad1 (ca := ca) (da := da) (cb := cb) (db := db) (hE.here.1.1.1.1.2) (⟨show na ≤ 900000 by have h := Hxa.out.1; dsimp only at h; omega, show ma ≤ 900000 by have h := Hxa.out.2; dsimp only at h; omega⟩) (hE.here.1.1.1.2) (⟨show nb ≤ 900000 by have h := Hxb.out.1; dsimp only at h; omega, show mb ≤ 900000 by have h := Hxb.out.2; dsimp only at h; omega⟩) H1.out).mono ?_
     clear k21 k22 k23 k24 k25 k26 k27 k28
     rintro e w29 ⟨rfl, hb⟩
     replace hE := hE.step hb
     clear hb
     go_upto_region 8 with (fail)
     obtain ⟨g30, hg30⟩ : ∃ g30, g30 = w29.heap.size := ⟨_, rfl⟩
     have hl30_3 : w.heap.size < g30 := by rw [hg30]; exact (hE.here.1.1.2).lt
     have hl30_4 : w.heap.size + 1 < g30 := by rw [hg30]; exact (hE.here.1.2).lt
     have hl30_5 : g20 < g30 := by rw [hg30]; exact (hE.here.2).lt
     replace hE := hE.blk 26 #[.bool false, .slice none 0 0, .bool false, .slice none 0 0] (g := g30) hg30.symm
     generalize w29.alloc (.cells #[.bool false, .slice none 0 0, .bool false, .slice none 0 0] 26) = W30 at hE ⊢
     rw [← hg30]
     clear hg30
     obtain ⟨k31, k32, k33, k34⟩ := (hE.here.1.2).c4
     obtain ⟨k35, k36, k37, k38⟩ := (hE.here.2).c4
     go_wp2_with fail
     refine (lsame_err).mono ?_
     clear k31 k32 k33 k34 k35 k36 k37 k38
     rintro e w39 ⟨rfl, hb⟩
     replace hE := hE.step hb
     clear hb
     go_wp2_with fail
     go_roundw
     case rel => exact ⟨i + 1, by omega, by go_num, ((((((Env.again hE.bel).atI (hE.here.1.1.1.1.1.1.2)).frd (hE.here.1.1.1.1.1.2)).frd (hE.here.1.1.1.1.2)).blkI (hE.here.1.1.1.2)).blkI (hE.here.1.1.2))⟩
     case measure => (simp [intOf]) <;> omega
    ·
     cases h2 : okF sb nb fb tb mb gb
     ·
      have bad : (Fc.ok ⟨sa, Aa, na, ca, fa, ta, Ba, ma, da, ga⟩ && Fc.ok ⟨sb, Ab, nb, cb, fb, tb, Bb, mb, db, gb⟩) = false := by show (okF sa na fa ta ma ga && okF sb nb fb tb mb gb) = false; rw [h1, h2]; rfl
      have la : Fc.len ⟨sa, Aa, na, ca, fa, ta, Ba, ma, da, ga⟩ := ⟨show na ≤ 1000000 by have h := Hxa.out.1; dsimp only at h; omega, show ma ≤ 1000000 by have h := Hxa.out.2; dsimp only at h; omega⟩
      have lb : Fc.len ⟨sb, Ab, nb, cb, fb, tb, Bb, mb, db, gb⟩ := ⟨show nb ≤ 1000000 by have h := Hxb.out.1; dsimp only at h; omega, show mb ≤ 1000000 by have h := Hxb.out.2; dsimp only at h; omega⟩
      have H1 := Lib.hid h1
      have BAD := Lib.hid bad
      clear h1 bad
      have H2 := Lib.hid h2
      clear h2
      obtain ⟨k40, k41, k42, k43⟩ := (hE.here.1.2).c4
      obtain ⟨k44, k45, k46, k47⟩ := (hE.here.2).c4
      go_wp2_with fail
      refine (fround_bad (ca := ca) (da := da) (cb := cb) (db := db) (hE.here.1.1.1.2) la (hE.here.1.1.2) lb BAD.out).mono ?_
      clear k40 k41 k42 k43 k44 k45 k46 k47
      rintro e w48 ⟨rfl, hb⟩
      replace hE := hE.step hb
      clear hb
      go_upto_region 7 with (fail)
      obtain ⟨g49, hg49⟩ : ∃ g49, g49 = w48.heap.size := ⟨_, rfl⟩
      have hl49_3 : w.heap.size < g49 := by rw [hg49]; exact (hE.here.1.2).lt
      have hl49_4 : w.heap.size + 1 < g49 := by rw [hg49]; exact (hE.here.2).lt
      replace hE := hE.blk 26 #[.bool false, .slice none 0 0, .bool false, .slice none 0 0] (g := g49) hg49.symm
      generalize w48.alloc (.cells #[.bool false, .slice none 0 0, .bool false, .slice none 0 0] 26) = W49 at hE ⊢
      rw [← hg49]
      clear hg49
      obtain ⟨k50, k51, k52, k53⟩ := (hE.here.1.1.2).c4
      obtain ⟨k54, k55, k56, k57⟩ := (hE.here.1.2).c4
      go_wp2_with fail
      refine (rround_bad2 (ca := ca) (da := da) (cb := cb) (db := db) (hE.here.1.1.1.1.2) (⟨show na ≤ 900000 by have h := Hxa.out.1; dsimp only at h; omega, show ma ≤ 900000 by have h := Hxa.out.2; dsimp only at h; omega⟩) (hE.here.1.1.1.2) (⟨show nb ≤ 900000 by have h := Hxb.out.1; dsimp only at h; omega, show mb ≤ 900000 by have h := Hxb.out.2; dsimp only at h; omega⟩) H1.out H2.out).mono ?_
      clear k50 k51 k52 k53 k54 k55 k56 k57
      rintro e w58 ⟨rfl, hb⟩
      replace hE := hE.step hb
      clear hb
      go_upto_region 8 with (fail)
      obtain ⟨g59, hg59⟩ : ∃ g59, g59 = w58.heap.size := ⟨_, rfl⟩
      have hl59_3 : w.heap.size < g59 := by rw [hg59]; exact (hE.here.1.1.2).lt
      have hl59_4 : w.heap.size + 1 < g59 := by rw [hg59]; exact (hE.here.1.2).lt
      have hl59_5 : g49 < g59 := by rw [hg59]; exact (hE.here.2).lt
      replace hE := hE.blk 26 #[.bool false, .slice none 0 0, .bool false, .slice none 0 0] (g := g59) hg59.symm
      generalize w58.alloc (.cells #[.bool false, .slice none 0 0, .bool false, .slice none 0 0] 26) = W59 at hE ⊢
      rw [← hg59]
      clear hg59
      obtain ⟨k60, k61, k62, k63⟩ := (hE.here.1.2).c4
      obtain ⟨k64, k65, k66, k67⟩ := (hE.here.2).c4
      go_wp2_with fail
      refine (lsame_err).mono ?_
      clear k60 k61 k62 k63 k64 k65 k66 k67
      rintro e w68 ⟨rfl, hb⟩
      replace hE := hE.step hb
      clear hb
      go_wp2_with fail
      go_roundw
      case rel => exact ⟨i + 1, by omega, by go_num, ((((((Env.again hE.bel).atI (hE.here.1.1.1.1.1.1.2)).frd (hE.here.1.1.1.1.1.2)).frd (hE.here.1.1.1.1.2)).blkI (hE.here.1.1.1.2)).blkI (hE.here.1.1.2))⟩
      case measure => (simp [intOf]) <;> omega
     ·
      obtain ⟨a, ha, -, -, -⟩ := okF_fv (hE.here.1.1.1.2) h1
      obtain ⟨b, hb, -, -, -⟩ := okF_fv (hE.here.1.1.2) h2
      clear h1 h2
      have la8 : fl a ≤ 8 := ro_fl (k := 8) Hxa.out ha
      have lb8 : fl b ≤ 8 := ro_fl (k := 8) Hxb.out hb
      have la : fl a ≤ 256 := Nat.le_trans la8 (by decide)
      have lb : fl b ≤ 256 := Nat.le_trans lb8 (by decide)
      replace hE := (hE.fv ha).fv hb
      clear ha hb
      have LA8 := Lib.hid la8
      have LB8 := Lib.hid lb8
      clear la8 lb8
      by_cases hm1 : md < 1
      ·
       have HM := Lib.hid hm1
       clear hm1
       obtain ⟨k69, k70, k71, k72⟩ := (hE.here.1.1.1.2).c4
       obtain ⟨k73, k74, k75, k76⟩ := (hE.here.1.1.2).c4
       go_wp2_with fail
       refine (fround_low (ca := ca) (da := da) (cb := cb) (db := db) (hE.here.1.2) (hE.here.2) la lb HM.out).mono ?_
       clear k69 k70 k71 k72 k73 k74 k75 k76
       rintro e w77 ⟨rfl, hb⟩
       replace hE := hE.step hb
       clear hb
       go_upto_region 7 with (fail)
       obtain ⟨g78, hg78⟩ : ∃ g78, g78 = w77.heap.size := ⟨_, rfl⟩
       have hl78_3 : w.heap.size < g78 := by rw [hg78]; exact (hE.here.1.1.1.2).lt
       have hl78_4 : w.heap.size + 1 < g78 := by rw [hg78]; exact (hE.here.1.1.2).lt
       replace hE := hE.blk 26 #[.bool false, .slice none 0 0, .bool false, .slice none 0 0] (g := g78) hg78.symm
       generalize w77.alloc (.cells #[.bool false, .slice none 0 0, .bool false, .slice none 0 0] 26) = W78 at hE ⊢
       rw [← hg78]
       clear hg78
       obtain ⟨k79, k80, k81, k82⟩ := (hE.here.1.1.1.1.2).c4
       obtain ⟨k83, k84, k85, k86⟩ := (hE.here.1.1.1.2).c4
       go_wp2_with fail
       refine (rround_low (ca := ca) (da := da) (cb := cb) (db := db) (hE.here.1.1.2) (hE.here.1.2) la lb HM.out).mono ?_
       clear k79 k80 k81 k82 k83 k84 k85 k86
       rintro e w87 ⟨rfl, hb⟩
       replace hE := hE.step hb
       clear hb
       go_upto_region 8 with (fail)
       obtain ⟨g88, hg88⟩ : ∃ g88, g88 = w87.heap.size := ⟨_, rfl⟩
       have hl88_3 : w.heap.size < g88 := by rw [hg88]; exact (hE.here.1.1.1.1.2).lt
       have hl88_4 : w.heap.size + 1 < g88 := by rw [hg88]; exact (hE.here.1.1.1.2).lt
       have hl88_7 : g78 < g88 := by rw [hg88]; exact (hE.here.2).lt
       replace hE := hE.blk 26 #[.bool false, .slice none 0 0, .bool false, .slice none 0 0] (g := g88) hg88.symm
       generalize w87.alloc (.cells #[.bool false, .slice none 0 0, .bool false, .slice none 0 0] 26) = W88 at hE ⊢
       rw [← hg88]
       clear hg88
       obtain ⟨k89, k90, k91, k92⟩ := (hE.here.1.2).c4
       obtain ⟨k93, k94, k95, k96⟩ := (hE.here.2).c4
       go_wp2_with fail
       refine (lsame_err).mono ?_
       clear k89 k90 k91 k92 k93 k94 k95 k96
       rintro e w97 ⟨rfl, hb⟩
       replace hE := hE.step hb
       clear hb
       go_wp2_with fail
       go_roundw
       case rel => exact ⟨i + 1, by omega, by go_num, ((((((Env.again hE.bel).atI (hE.here.1.1.1.1.1.1.1.1.2)).frd (hE.here.1.1.1.1.1.1.1.2)).frd (hE.here.1.1.1.1.1.1.2)).blkI (hE.here.1.1.1.1.1.2)).blkI (hE.here.1.1.1.1.2))⟩
       case measure => (simp [intOf]) <;> omega
      ·
       by_cases hm6 : 6 < md
       ·
        have HM := Lib.hid hm6
        clear hm1 hm6
        obtain ⟨k98, k99, k100, k101⟩ := (hE.here.1.1.1.2).c4
        obtain ⟨k102, k103, k104, k105⟩ := (hE.here.1.1.2).c4
        go_wp2_with fail
        refine (fround_high (ca := ca) (da := da) (cb := cb) (db := db) (hE.here.1.2) (hE.here.2) la lb HM.out).mono ?_
        clear k98 k99 k100 k101 k102 k103 k104 k105
        rintro e w106 ⟨rfl, hb⟩
        replace hE := hE.step hb
        clear hb
        go_upto_region 7 with (fail)
        obtain ⟨g107, hg107⟩ : ∃ g107, g107 = w106.heap.size := ⟨_, rfl⟩
        have hl107_3 : w.heap.size < g107 := by rw [hg107]; exact (hE.here.1.1.1.2).lt
        have hl107_4 : w.heap.size + 1 < g107 := by rw [hg107]; exact (hE.here.1.1.2).lt
        replace hE := hE.blk 26 #[.bool false, .slice none 0 0, .bool false, .slice none 0 0] (g := g107) hg107.symm
        generalize w106.alloc (.cells #[.bool false, .slice none 0 0, .bool false, .slice none 0 0] 26) = W107 at hE ⊢
        rw [← hg107]
        clear hg107
        obtain ⟨k108, k109, k110, k111⟩ := (hE.here.1.1.1.1.2).c4
        obtain ⟨k112, k113, k114, k115⟩ := (hE.here.1.1.1.2).c4
        go_wp2_with fail
        refine (rround_high (ca := ca) (da := da) (cb := cb) (db := db) (hE.here.1.1.2) (hE.here.1.2) la lb HM.out).mono ?_
        clear k108 k109 k110 k111 k112 k113 k114 k115
        rintro e w116 ⟨rfl, hb⟩
        replace hE := hE.step hb
        clear hb
        go_upto_region 8 with (fail)
        obtain ⟨g117, hg117⟩ : ∃ g117, g117 = w116.heap.size := ⟨_, rfl⟩
        have hl117_3 : w.heap.size < g117 := by rw [hg117]; exact (hE.here.1.1.1.1.2).lt
        have hl117_4 : w.heap.size + 1 < g117 := by rw [hg117]; exact (hE.here.1.1.1.2).lt
        have hl117_7 : g107 < g117 := by rw [hg117]; exact (hE.here.2).lt
        replace hE := hE.blk 26 #[.bool false, .slice none 0 0, .bool false, .slice none 0 0] (g := g117) hg117.symm
        generalize w116.alloc (.cells #[.bool false, .slice none 0 0, .bool false, .slice none 0 0] 26) = W117 at hE ⊢
        rw [← hg117]
        clear hg117
        obtain ⟨k118, k119, k120, k121⟩ := (hE.here.1.2).c4
        obtain ⟨k122, k123, k124, k125⟩ := (hE.here.2).c4
        go_wp2_with fail
        refine (lsame_err).mono ?_
        clear k118 k119 k120 k121 k122 k123 k124 k125
        rintro e w126 ⟨rfl, hb⟩
        replace hE := hE.step hb
        clear hb
        go_wp2_with fail
        go_roundw
        case rel => exact ⟨i + 1, by omega, by go_num, ((((((Env.again hE.bel).atI (hE.here.1.1.1.1.1.1.1.1.2)).frd (hE.here.1.1.1.1.1.1.1.2)).frd (hE.here.1.1.1.1.1.1.2)).blkI (hE.here.1.1.1.1.1.2)).blkI (hE.here.1.1.1.1.2))⟩
        case measure => (simp [intOf]) <;> omega
       ·
        obtain ⟨m, hmm⟩ : ∃ m : Nat, md = (m : Int) := ⟨md.toNat, by omega⟩
        subst hmm
        have m1 : 1 ≤ m := by omega
        have m6 : m ≤ 6 := by omega
        clear hm1 hm6
        rcases Int.lt_trichotomy b.num 0 with hb0 | hb0 | hb0
        ·
         have HB := Lib.hid hb0
         clear hb0
         obtain ⟨k127, k128, k129, k130⟩ := (hE.here.1.1.1.2).c4
         obtain ⟨k131, k132, k133, k134⟩ := (hE.here.1.1.2).c4
         go_wp2_with fail
         refine (fround_unitn (ca := ca) (da := da) (cb := cb) (db := db) (hE.here.1.2) (hE.here.2) la lb HB.out m m1 m6).mono ?_
         clear k127 k128 k129 k130 k131 k132 k133 k134
         rintro e w135 ⟨rfl, hb⟩
         replace hE := hE.step hb
         clear hb
         go_upto_region 7 with (fail)
         obtain ⟨g136, hg136⟩ : ∃ g136, g136 = w135.heap.size := ⟨_, rfl⟩
         have hl136_3 : w.heap.size < g136 := by rw [hg136]; exact (hE.here.1.1.1.2).lt
         have hl136_4 : w.heap.size + 1 < g136 := by rw [hg136]; exact (hE.here.1.1.2).lt
         replace hE := hE.blk 26 #[.bool false, .slice none 0 0, .bool false, .slice none 0 0] (g := g136) hg136.symm
         generalize w135.alloc (.cells #[.bool false, .slice none 0 0, .bool false, .slice none 0 0] 26) = W136 at hE ⊢
         rw [← hg136]
         clear hg136
         obtain ⟨k137, k138, k139, k140⟩ := (hE.here.1.1.1.1.2).c4
         obtain ⟨k141, k142, k143, k144⟩ := (hE.here.1.1.1.2).c4
         go_wp2_with fail
         refine (rround_unitn (ca := ca) (da := da) (cb := cb) (db := db) (hE.here.1.1.2) (hE.here.1.2) la lb HB.out m m1 m6).mono ?_
         clear k137 k138 k139 k140 k141 k142 k143 k144
         rintro e w145 ⟨rfl, hb⟩
         replace hE := hE.step hb
         clear hb
         go_upto_region 8 with (fail)
         obtain ⟨g146, hg146⟩ : ∃ g146, g146 = w145.heap.size := ⟨_, rfl⟩
         have hl146_3 : w.heap.size < g146 := by rw [hg146]; exact (hE.here.1.1.1.1.2).lt
         have hl146_4 : w.heap.size + 1 < g146 := by rw [hg146]; exact (hE.here.1.1.1.2).lt
         have hl146_7 : g136 < g146 := by rw [hg146]; exact (hE.here.2).lt
         replace hE := hE.blk 26 #[.bool false, .slice none 0 0, .bool false, .slice none 0 0] (g := g146) hg146.symm
         generalize w145.alloc (.cells #[.bool false, .slice none 0 0, .bool false, .slice none 0 0] 26) = W146 at hE ⊢
         rw [← hg146]
         clear hg146
         obtain ⟨k147, k148, k149, k150⟩ := (hE.here.1.2).c4
         obtain ⟨k151, k152, k153, k154⟩ := (hE.here.2).c4
         go_wp2_with fail
         refine (lsame_err).mono ?_
         clear k147 k148 k149 k150 k151 k152 k153 k154
         rintro e w155 ⟨rfl, hb⟩
         replace hE := hE.step hb
         clear hb
         go_wp2_with fail
         go_roundw
         case rel => exact ⟨i + 1, by omega, by go_num, ((((((Env.again hE.bel).atI (hE.here.1.1.1.1.1.1.1.1.2)).frd (hE.here.1.1.1.1.1.1.1.2)).frd (hE.here.1.1.1.1.1.1.2)).blkI (hE.here.1.1.1.1.1.2)).blkI (hE.here.1.1.1.1.2))⟩
         case measure => (simp [intOf]) <;> omega
        ·
         have HB := Lib.hid hb0
         clear hb0
         obtain ⟨k156, k157, k158, k159⟩ := (hE.here.1.1.1.2).c4
         obtain ⟨k160, k161, k162, k163⟩ := (hE.here.1.1.2).c4
         go_wp2_with fail
         refine (fround_unit0 (ca := ca) (da := da) (cb := cb) (db := db) (hE.here.1.2) (hE.here.2) la lb HB.out m m1 m6).mono ?_
         clear k156 k157 k158 k159 k160 k161 k162 k163
         rintro e w164 ⟨rfl, hb⟩
         replace hE := hE.step hb
         clear hb
         go_upto_region 7 with (fail)
         obtain ⟨g165, hg165⟩ : ∃ g165, g165 = w164.heap.size := ⟨_, rfl⟩
         have hl165_3 : w.heap.size < g165 := by rw [hg165]; exact (hE.here.1.1.1.2).lt
         have hl165_4 : w.heap.size + 1 < g165 := by rw [hg165]; exact (hE.here.1.1.2).lt
         replace hE := hE.blk 26 #[.bool false, .slice none 0 0, .bool false, .slice none 0 0] (g := g165) hg165.symm
         generalize w164.alloc (.cells #[.bool false, .slice none 0 0, .bool false, .slice none 0 0] 26) = W165 at hE ⊢
         rw [← hg165]
         clear hg165
         obtain ⟨k166, k167, k168, k169⟩ := (hE.here.1.1.1.1.2).c4
         obtain ⟨k170, k171, k172, k173⟩ := (hE.here.1.1.1.2).c4
         go_wp2_with fail
         refine (rround_unit0 (ca := ca) (da := da) (cb := cb) (db := db) (hE.here.1.1.2) (hE.here.1.2) la lb HB.out m m1 m6).mono ?_
         clear k166 k167 k168 k169 k170 k171 k172 k173
         rintro e w174 ⟨rfl, hb⟩
         replace hE := hE.step hb
         clear hb
         go_upto_region 8 with (fail)
         obtain ⟨g175, hg175⟩ : ∃ g175, g175 = w174.heap.size := ⟨_, rfl⟩
         have hl175_3 : w.heap.size < g175 := by rw [hg175]; exact (hE.here.1.1.1.1.2).lt
         have hl175_4 : w.heap.size + 1 < g175 := by rw [hg175]; exact (hE.here.1.1.1.2).lt
         have hl175_7 : g165 < g175 := by rw [hg175]; exact (hE.here.2).lt
         replace hE := hE.blk 26 #[.bool false, .slice none 0 0, .bool false, .slice none 0 0] (g := g175) hg175.symm
         generalize w174.alloc (.cells #[.bool false, .slice none 0 0, .bool false, .slice none 0 0] 26) = W175 at hE ⊢
         rw [← hg175]
         clear hg175
         obtain ⟨k176, k177, k178, k179⟩ := (hE.here.1.2).c4
         obtain ⟨k180, k181, k182, k183⟩ := (hE.here.2).c4
         go_wp2_with fail
         refine (lsame_err).mono ?_
         clear k176 k177 k178 k179 k180 k181 k182 k183
         rintro e w184 ⟨rfl, hb⟩
         replace hE := hE.step hb
         clear hb
         go_wp2_with fail
         go_roundw
         case rel => exact ⟨i + 1, by omega, by go_num, ((((((Env.again hE.bel).atI (hE.here.1.1.1.1.1.1.1.1.2)).frd (hE.here.1.1.1.1.1.1.1.2)).frd (hE.here.1.1.1.1.1.1.2)).blkI (hE.here.1.1.1.1.1.2)).blkI (hE.here.1.1.1.1.2))⟩
         case measure => (simp [intOf]) <;> omega
        ·
         have HB := Lib.hid hb0
         clear hb0
         have lr : fl (Rat.divInt (roundZ m a b * b.num) (b.den : Int)) ≤ 256 := by rw [round_q]; exact Nat.le_trans (round_fl LA8.out LB8.out (by decide)) (by decide)
         obtain ⟨k185, k186, k187, k188⟩ := (hE.here.1.1.1.2).c4
         obtain ⟨k189, k190, k191, k192⟩ := (hE.here.1.1.2).c4
         go_wp2_with fail
         refine (fround_v (ca := ca) (da := da) (cb := cb) (db := db) (hE.here.1.2) (hE.here.2) la lb HB.out m m1 m6 lr).mono ?_
         clear k185 k186 k187 k188 k189 k190 k191 k192
         rintro e w193 ⟨sr, Ar, nr, cr, tr, Br, mr, dr, rfl, hr, hb⟩
         replace hE := hE.step hb
         clear hb
         replace hE := hE.fv hr
         clear hr
         go_upto_region 7 with (fail)
         obtain ⟨g194, hg194⟩ : ∃ g194, g194 = w193.heap.size := ⟨_, rfl⟩
         have hl194_3 : w.heap.size < g194 := by rw [hg194]; exact (hE.here.1.1.1.1.2).lt
         have hl194_4 : w.heap.size + 1 < g194 := by rw [hg194]; exact (hE.here.1.1.1.2).lt
         replace hE := hE.blk 26 #[.bool sr, .slice Ar nr cr, .bool tr, .slice Br mr dr] (g := g194) hg194.symm
         generalize w193.alloc (.cells #[.bool sr, .slice Ar nr cr, .bool tr, .slice Br mr dr] 26) = W194 at hE ⊢
         rw [← hg194]
         clear hg194
         obtain ⟨k195, k196, k197, k198⟩ := (hE.here.1.1.1.1.1.2).c4
         obtain ⟨k199, k200, k201, k202⟩ := (hE.here.1.1.1.1.2).c4
         go_wp2_with fail
         refine (rround_v (ca := ca) (da := da) (cb := cb) (db := db) (hE.here.1.1.1.2) (hE.here.1.1.2) la lb HB.out m m1 m6 lr).mono ?_
         clear k195 k196 k197 k198 k199 k200 k201 k202
         rintro e w203 ⟨ss, As, ns, cs, ts, Bs, ms, ds, rfl, hs, hb⟩
         replace hE := hE.step hb
         clear hb
         replace hE := hE.fv hs
         clear hs
         go_upto_region 8 with (fail)
         obtain ⟨g204, hg204⟩ : ∃ g204, g204 = w203.heap.size := ⟨_, rfl⟩
         have hl204_3 : w.heap.size < g204 := by rw [hg204]; exact (hE.here.1.1.1.1.1.1.2).lt
         have hl204_4 : w.heap.size + 1 < g204 := by rw [hg204]; exact (hE.here.1.1.1.1.1.2).lt
         have hl204_8 : g194 < g204 := by rw [hg204]; exact (hE.here.1.2).lt
         replace hE := hE.blk 26 #[.bool ss, .slice As ns cs, .bool ts, .slice Bs ms ds] (g := g204) hg204.symm
         generalize w203.alloc (.cells #[.bool ss, .slice As ns cs, .bool ts, .slice Bs ms ds] 26) = W204 at hE ⊢
         rw [← hg204]
         clear hg204
         obtain ⟨k205, k206, k207, k208⟩ := (hE.here.1.1.2).c4
         obtain ⟨k209, k210, k211, k212⟩ := (hE.here.2).c4
         go_wp2_with fail
         refine (lsame_ok (ca := cr) (da := dr) (cb := cs) (db := ds) (hE.here.1.1.1.2) (hE.here.1.2) lr).mono ?_
         clear k205 k206 k207 k208 k209 k210 k211 k212
         rintro e w213 ⟨rfl, hb⟩
         replace hE := hE.step hb
         clear hb
         go_wp2_with fail
         go_roundw
         case rel => exact ⟨i + 1, by omega, by go_num, ((((((Env.again hE.bel).atI (hE.here.1.1.1.1.1.1.1.1.1.1.2)).frd (hE.here.1.1.1.1.1.1.1.1.1.2)).frd (hE.here.1.1.1.1.1.1.1.1.2)).blkI (hE.here.1.1.1.1.1.1.1.2)).blkI (hE.here.1.1.1.1.1.1.2))⟩
         case measure => (simp [intOf]) <;> omega
   ·
    have t1 : decide ((i : Int) < 8) = false := decide_eq_false (by omega)
    have t2 : ¬ (i : Int) < 8 := by omega
    go_wp2_with fail
    refine (awake2_t _ (hE.here.1.1.1.1.2).2 (hE.here.1.1.1.1.2).1).mono ?_
    rintro e w214 ⟨rfl, hb⟩
    replace hE := hE.step hb
    clear hb
    go_wp2_with fail
    go_ret
    exact ⟨rfl, hE.bel⟩
end Go.Proofs.YtifikcemcflgjaaGreat
