/-
  The laws' awake of layer 02: the examples of the chapter.
-/
import Derived.Test.YtifikcemcflgjaaGreatDoorK1
import Derived.Test.YtifikcemcflgjaaGreatDoorG4
import Derived.Test.YtifikcemcflgjaaGreatDoorK10
import Derived.Test.YtifikcemcflgjaaGreatDoorK9
namespace Go.Proofs.YtifikcemcflgjaaGreatDoor
open Go.RowKit

theorem Blk.c6 {t : TypeId} {g : Nat} {w : World} {a b c d e f : Value} (h : Blk t g #[a, b, c, d, e, f] w) : w.cell? ⟨g, 0, none⟩ = some a ∧ w.cell? ⟨g, 1, none⟩ = some b ∧ w.cell? ⟨g, 2, none⟩ = some c ∧ w.cell? ⟨g, 3, none⟩ = some d ∧ w.cell? ⟨g, 4, none⟩ = some e ∧ w.cell? ⟨g, 5, none⟩ = some f := ⟨h.cell 0, h.cell 1, h.cell 2, h.cell 3, h.cell 4, h.cell 5⟩
set_option linter.unusedSimpArgs false in
set_option maxRecDepth 100000 in
set_option maxHeartbeats 8000000 in
theorem rounds_v {a : Rat} {sa ta : Bool} {Aa Ba : Option Addr} {na ca ma da : Nat} {w : World} (ha : FV w a sa Aa na ta Ba ma) (la : fl a ≤ 256) (v : Nat → Int) (h : ∀ k, k < 6 → roundZ (k + 1) a 1 = v k ∧ fl (Rat.divInt (v k) 1) ≤ 256 ∧ -9223372036854775808 ≤ v k ∧ v k ≤ 9223372036854775807) :
    Calls Tryz.prog 38 #[.agg #[.bool sa, .slice Aa na ca, .bool ta, .slice Ba ma da], .agg #[.int .i64 (v 0), .int .i64 (v 1), .int .i64 (v 2), .int .i64 (v 3), .int .i64 (v 4), .int .i64 (v 5)]] w (fun e w' => e = .returned (.bool true) ∧ Below w.heap.size w w') := by
  have hE := (((Env.start w).fv ha).blk 26 #[.bool sa, .slice Aa na ca, .bool ta, .slice Ba ma da] (g := w.heap.size) rfl).blk 61 #[.int .i64 (v 0), .int .i64 (v 1), .int .i64 (v 2), .int .i64 (v 3), .int .i64 (v 4), .int .i64 (v 5)] (g := w.heap.size + 1) (by simp)
  obtain ⟨W0, hW0⟩ : ∃ W0, W0 = ((w.alloc (.cells #[.bool sa, .slice Aa na ca, .bool ta, .slice Ba ma da] 26)).alloc (.cells #[.int .i64 (v 0), .int .i64 (v 1), .int .i64 (v 2), .int .i64 (v 3), .int .i64 (v 4), .int .i64 (v 5)] 61)) := ⟨_, rfl⟩
  rw [← hW0] at hE
  have HW0 := Lib.hid hW0
  clear hW0
  go_enter Tryz.func38, Tryz.ntmps38
  go_upto_region 1 with (fail)
  rw [← HW0.out]
  go_wp2_with fail
  go_loopw [5] (fun x wr => ∃ k : Nat, k ≤ 6 ∧ x = .int .i64 (k : Int) ∧ Env w (fun V => (((True ∧ FV V a sa Aa na ta Ba ma) ∧ Blk 26 (w.heap.size) #[.bool sa, .slice Aa na ca, .bool ta, .slice Ba ma da] V) ∧ Blk 61 (w.heap.size + 1) #[.int .i64 (v 0), .int .i64 (v 1), .int .i64 (v 2), .int .i64 (v 3), .int .i64 (v 4), .int .i64 (v 5)] V)) wr) (fun x _ => 6 - (intOf x).toNat)
  case atStart => exact ⟨0, Nat.zero_le _, rfl, hE⟩
  case round =>
    clear hE
    obtain ⟨k, hk, rfl, hE⟩ := hrel
    by_cases hlt : k < 6
    · obtain ⟨hz, hfl, hlo, hhi⟩ := h k hlt
      obtain ⟨vk, hvk⟩ : ∃ x, x = v k := ⟨_, rfl⟩
      rw [← hvk] at hz hfl hlo hhi
      have hw0 := hE.here.2
      have hcell : wr.cell? ⟨w.heap.size + 1, k, none⟩ = some (.int .i64 vk) := by
        rw [hvk]
        rcases (show k = 0 ∨ k = 1 ∨ k = 2 ∨ k = 3 ∨ k = 4 ∨ k = 5 by omega) with rfl | rfl | rfl | rfl | rfl | rfl
        · exact hw0.cell 0
        · exact hw0.cell 1
        · exact hw0.cell 2
        · exact hw0.cell 3
        · exact hw0.cell 4
        · exact hw0.cell 5
      replace hE := hE.at_ hw0.lt hcell
      clear hw0 hcell hvk
      have t1 : decide ((k : Int) < 6) = true := decide_eq_true (by omega)
      have t2 : (k : Int) < 6 := by omega
      have o1 : IntKind.i64.wrap ((k : Int) + 1) = ((k + 1 : Nat) : Int) := by rw [IntKind.wrap_i64]; omega
      have o2 : IntKind.u8.wrap ((k + 1 : Nat) : Int) = ((k + 1 : Nat) : Int) := by rw [IntKind.wrap_u8]; omega
      have o3 : IntKind.u8.wrap ((k : Int) + 1) = ((k + 1 : Nat) : Int) := by rw [IntKind.wrap_u8]; omega
      go_upto_region 4 with (fail)
      replace hE := hE.drew
      refine wp_region_held_drew (S := fun w' => w'.cell? ⟨w.heap.size, 0, none⟩ = some (.bool sa) ∧ w'.cell? ⟨w.heap.size, 1, none⟩ = some (.slice Aa na ca) ∧ w'.cell? ⟨w.heap.size, 2, none⟩ = some (.bool ta) ∧ w'.cell? ⟨w.heap.size, 3, none⟩ = some (.slice Ba ma da)) (by kernel_rfl) (hE.here.1.1.2.c4) (fun hHeld => ?_)
      generalize wr.drew = wd at *
      refine tk 0 ?_
      try simp only [PL]
      refine tk 2 ?_
      try simp only [PL]
      refine tk 3 ?_
      try simp only [PL]
      refine tk 4 ?_
      try simp only [PL]
      refine wpAnyH_ready (rs := [1, 9]) (by kernel_rfl) (by simp) (AllReadyH.cons rfl (fun K hK => ?_) (AllReadyH.cons rfl (fun K hK => ?_) (AllReadyH.nil)))
      · skip
        go_simp
        have hc := law_quick 1 1 wd (by decide) (by decide) (by decide) (by decide) (by decide)
        rw [show Rat.divInt 1 1 = 1 by decide +kernel] at hc
        refine hc.mono ?_
        clear hc
        rintro e w1 ⟨su, Au, nu, cu, tu, Bu, mu, du, rfl, hu, hb⟩
        replace hE := hE.step hb
        clear hb
        replace hE := hE.fv hu
        clear hu
        go_wp2_with fail
        refine hK.out _ _ (hE.here.1.1.1.2.c4) (fun hHeld => ?_)
        clear hK K
        try simp only [PL]
        refine wpAnyH_ready (rs := [5, 9]) (by kernel_rfl) (by simp) (AllReadyH.cons rfl (fun K hK => ?_) (AllReadyH.cons rfl (fun K hK => ?_) (AllReadyH.nil)))
        · skip
          go_simp
          have hc := fround_v (ca := ca) (da := da) (cb := cu) (db := du) hE.here.1.1.1.1.2 hE.here.2 la fl_one2 (by decide) (k + 1) (by omega) (by omega) (by rw [hz]; show fl (Rat.divInt (vk * 1) 1) ≤ 256; rw [Int.mul_one]; exact hfl)
          rw [hz, show Rat.divInt (vk * (1 : Rat).num) (((1 : Rat).den : Nat) : Int) = Rat.divInt vk 1 by show Rat.divInt (vk * 1) 1 = _; rw [Int.mul_one]] at hc
          refine hc.mono ?_
          clear hc
          rintro e w2 ⟨sr, Ar, nr, cr, tr, Br, mr, dr, rfl, hr, hb⟩
          replace hE := hE.step hb
          clear hb
          replace hE := hE.fv hr
          clear hr
          go_wp2_with fail
          refine hK.out _ _ (hE.here.1.1.1.1.2.c4) (fun hHeld => ?_)
          clear hK K
          try simp only [PL]
          refine tk 6 ?_
          try simp only [PL]
          refine tk 7 ?_
          try simp only [PL]
          refine tk 8 ?_
          try simp only [PL]
          refine r1 9 (fun K hK => ?_)
          go_simp
          obtain ⟨g3, hg3⟩ : ∃ g3, g3 = w2.heap.size := ⟨_, rfl⟩
          have hl3_1 : w.heap.size < g3 := by rw [hg3]; exact (hE.here.1.1.1.1.2).lt
          have hl3_2 : w.heap.size + 1 < g3 := by rw [hg3]; exact (hE.here.1.1.1.2).lt
          replace hE := hE.blk 26 #[.bool false, .slice none 0 0, .bool false, .slice none 0 0] (g := g3) hg3.symm
          generalize w2.alloc (.cells #[.bool false, .slice none 0 0, .bool false, .slice none 0 0] 26) = W3 at hE ⊢
          rw [← hg3]
          clear hg3
          refine hK.out _ _ (hE.here.1.1.1.1.1.2.c4) (fun hHeld => ?_)
          clear hK K
          try simp only [PL]
          refine r1 10 (fun K hK => ?_)
          have hgl4 : w.heap.size ≤ g3 := by omega
          obtain ⟨x4_0, x4_1, x4_2, x4_3⟩ := (hE.here.2).c4
          obtain ⟨f4_0, f4_1, f4_2, f4_3⟩ := hE.here.2.f4
          replace hE := ((((((((Env.again (bel4 hE.bel hgl4 (.bool sr) (.slice Ar nr cr) (.bool tr) (.slice Br mr dr))).fv ((hE.here.1.1.1.1.1.1.2).sep4 hE.here.2 rfl (.bool sr) (.slice Ar nr cr) (.bool tr) (.slice Br mr dr) rfl rfl rfl)).blkI ((hE.here.1.1.1.1.1.2).far4 (R := g3) (by omega) (.bool sr) (.slice Ar nr cr) (.bool tr) (.slice Br mr dr))).blkI ((hE.here.1.1.1.1.2).far4 (R := g3) (by omega) (.bool sr) (.slice Ar nr cr) (.bool tr) (.slice Br mr dr))).atI ((hE.here.1.1.1.2).far4 (R := g3) (by first | omega | exact At.apart (hE.here.1.1.1.2) (hE.here.2) rfl) (.bool sr) (.slice Ar nr cr) (.bool tr) (.slice Br mr dr))).fv ((hE.here.1.1.2).sep4 hE.here.2 rfl (.bool sr) (.slice Ar nr cr) (.bool tr) (.slice Br mr dr) rfl rfl rfl)).fv ((hE.here.1.2).sep4 hE.here.2 rfl (.bool sr) (.slice Ar nr cr) (.bool tr) (.slice Br mr dr) rfl rfl rfl)).blkI ((hE.here.2).s4 (.bool sr) (.slice Ar nr cr) (.bool tr) (.slice Br mr dr)))
          go_simp
          clear x4_0 x4_1 x4_2 x4_3 f4_0 f4_1 f4_2 f4_3 hgl4
          generalize ((((W3.setCell ⟨g3, 0, none⟩ (.bool sr)).setCell ⟨g3, 1, none⟩ (.slice Ar nr cr)).setCell ⟨g3, 2, none⟩ (.bool tr)).setCell ⟨g3, 3, none⟩ (.slice Br mr dr)) = W4 at hE ⊢
          refine hK.out _ _ (hE.here.1.1.1.1.1.2.c4) (fun hHeld => ?_)
          clear hK K
          try simp only [PL]
          refine tk 11 ?_
          try simp only [PL]
          refine wpAnyH_done (by kernel_rfl) ?_ _
          go_upto_region 5 with (fail)
          replace hE := hE.drew
          refine wp_region_held_drew (S := fun w' => w'.cell? ⟨g3, 0, none⟩ = some (.bool sr) ∧ w'.cell? ⟨g3, 1, none⟩ = some (.slice Ar nr cr) ∧ w'.cell? ⟨g3, 2, none⟩ = some (.bool tr) ∧ w'.cell? ⟨g3, 3, none⟩ = some (.slice Br mr dr) ∧ w'.cell? ⟨w.heap.size + 1, k, none⟩ = some (.int .i64 vk)) (by kernel_rfl) (hE.here.2.j4 (hE.here.1.1.1.2).2) (fun hHeld => ?_)
          refine tk 0 ?_
          try simp only [PL]
          refine tk 1 ?_
          try simp only [PL]
          refine tk 2 ?_
          try simp only [PL]
          refine tk 3 ?_
          try simp only [PL]
          refine tk 4 ?_
          try simp only [PL]
          refine r1 5 (fun K hK => ?_)
          go_simp
          have hc := law_is (ca := cr) (da := dr) (n := vk) (d := 1) hE.here.1.2 hfl hlo hhi (by decide) (by decide) (by decide) rfl
          refine hc.mono ?_
          clear hc
          rintro e w5 ⟨rfl, hb⟩
          replace hE := hE.step hb
          clear hb
          go_wp2_with fail
          refine hK.out _ _ (hE.here.2.j4 (hE.here.1.1.1.2).2) (fun hHeld => ?_)
          clear hK K
          try simp only [PL]
          refine tk 6 ?_
          try simp only [PL]
          refine wpAnyH_done (by kernel_rfl) ?_ _
          go_wp2_with fail
          go_roundw
          case rel => exact ⟨k + 1, by omega, by go_num, (((Env.again hE.bel).fv (hE.here.1.1.1.1.1.1.2)).blkI (hE.here.1.1.1.1.1.2)).blkI (hE.here.1.1.1.1.2)⟩
          case measure => (simp [intOf]) <;> omega
        · skip
          go_simp
          obtain ⟨g6, hg6⟩ : ∃ g6, g6 = w1.heap.size := ⟨_, rfl⟩
          have hl6_1 : w.heap.size < g6 := by rw [hg6]; exact (hE.here.1.1.1.2).lt
          have hl6_2 : w.heap.size + 1 < g6 := by rw [hg6]; exact (hE.here.1.1.2).lt
          replace hE := hE.blk 26 #[.bool false, .slice none 0 0, .bool false, .slice none 0 0] (g := g6) hg6.symm
          generalize w1.alloc (.cells #[.bool false, .slice none 0 0, .bool false, .slice none 0 0] 26) = W6 at hE ⊢
          rw [← hg6]
          clear hg6
          refine hK.out _ _ (hE.here.1.1.1.1.2.c4) (fun hHeld => ?_)
          clear hK K
          try simp only [PL]
          refine r1 5 (fun K hK => ?_)
          go_simp
          have hc := fround_v (ca := ca) (da := da) (cb := cu) (db := du) hE.here.1.1.1.1.1.2 hE.here.1.2 la fl_one2 (by decide) (k + 1) (by omega) (by omega) (by rw [hz]; show fl (Rat.divInt (vk * 1) 1) ≤ 256; rw [Int.mul_one]; exact hfl)
          rw [hz, show Rat.divInt (vk * (1 : Rat).num) (((1 : Rat).den : Nat) : Int) = Rat.divInt vk 1 by show Rat.divInt (vk * 1) 1 = _; rw [Int.mul_one]] at hc
          refine hc.mono ?_
          clear hc
          rintro e w7 ⟨sr, Ar, nr, cr, tr, Br, mr, dr, rfl, hr, hb⟩
          replace hE := hE.step hb
          clear hb
          replace hE := hE.fv hr
          clear hr
          go_wp2_with fail
          refine hK.out _ _ (hE.here.1.1.1.1.1.2.c4) (fun hHeld => ?_)
          clear hK K
          try simp only [PL]
          refine tk 6 ?_
          try simp only [PL]
          refine tk 7 ?_
          try simp only [PL]
          refine tk 8 ?_
          try simp only [PL]
          refine r1 10 (fun K hK => ?_)
          have hgl8 : w.heap.size ≤ g6 := by omega
          obtain ⟨x8_0, x8_1, x8_2, x8_3⟩ := (hE.here.1.2).c4
          obtain ⟨f8_0, f8_1, f8_2, f8_3⟩ := hE.here.1.2.f4
          replace hE := ((((((((Env.again (bel4 hE.bel hgl8 (.bool sr) (.slice Ar nr cr) (.bool tr) (.slice Br mr dr))).fv ((hE.here.1.1.1.1.1.1.2).sep4 hE.here.1.2 rfl (.bool sr) (.slice Ar nr cr) (.bool tr) (.slice Br mr dr) rfl rfl rfl)).blkI ((hE.here.1.1.1.1.1.2).far4 (R := g6) (by omega) (.bool sr) (.slice Ar nr cr) (.bool tr) (.slice Br mr dr))).blkI ((hE.here.1.1.1.1.2).far4 (R := g6) (by omega) (.bool sr) (.slice Ar nr cr) (.bool tr) (.slice Br mr dr))).atI ((hE.here.1.1.1.2).far4 (R := g6) (by first | omega | exact At.apart (hE.here.1.1.1.2) (hE.here.1.2) rfl) (.bool sr) (.slice Ar nr cr) (.bool tr) (.slice Br mr dr))).fv ((hE.here.1.1.2).sep4 hE.here.1.2 rfl (.bool sr) (.slice Ar nr cr) (.bool tr) (.slice Br mr dr) rfl rfl rfl)).blkI ((hE.here.1.2).s4 (.bool sr) (.slice Ar nr cr) (.bool tr) (.slice Br mr dr))).fv ((hE.here.2).sep4 hE.here.1.2 rfl (.bool sr) (.slice Ar nr cr) (.bool tr) (.slice Br mr dr) rfl rfl rfl))
          go_simp
          clear x8_0 x8_1 x8_2 x8_3 f8_0 f8_1 f8_2 f8_3 hgl8
          generalize ((((w7.setCell ⟨g6, 0, none⟩ (.bool sr)).setCell ⟨g6, 1, none⟩ (.slice Ar nr cr)).setCell ⟨g6, 2, none⟩ (.bool tr)).setCell ⟨g6, 3, none⟩ (.slice Br mr dr)) = W8 at hE ⊢
          refine hK.out _ _ (hE.here.1.1.1.1.1.2.c4) (fun hHeld => ?_)
          clear hK K
          try simp only [PL]
          refine tk 11 ?_
          try simp only [PL]
          refine wpAnyH_done (by kernel_rfl) ?_ _
          go_upto_region 5 with (fail)
          replace hE := hE.drew
          refine wp_region_held_drew (S := fun w' => w'.cell? ⟨g6, 0, none⟩ = some (.bool sr) ∧ w'.cell? ⟨g6, 1, none⟩ = some (.slice Ar nr cr) ∧ w'.cell? ⟨g6, 2, none⟩ = some (.bool tr) ∧ w'.cell? ⟨g6, 3, none⟩ = some (.slice Br mr dr) ∧ w'.cell? ⟨w.heap.size + 1, k, none⟩ = some (.int .i64 vk)) (by kernel_rfl) (hE.here.1.2.j4 (hE.here.1.1.1.2).2) (fun hHeld => ?_)
          refine tk 0 ?_
          try simp only [PL]
          refine tk 1 ?_
          try simp only [PL]
          refine tk 2 ?_
          try simp only [PL]
          refine tk 3 ?_
          try simp only [PL]
          refine tk 4 ?_
          try simp only [PL]
          refine r1 5 (fun K hK => ?_)
          go_simp
          have hc := law_is (ca := cr) (da := dr) (n := vk) (d := 1) hE.here.2 hfl hlo hhi (by decide) (by decide) (by decide) rfl
          refine hc.mono ?_
          clear hc
          rintro e w9 ⟨rfl, hb⟩
          replace hE := hE.step hb
          clear hb
          go_wp2_with fail
          refine hK.out _ _ (hE.here.1.2.j4 (hE.here.1.1.1.2).2) (fun hHeld => ?_)
          clear hK K
          try simp only [PL]
          refine tk 6 ?_
          try simp only [PL]
          refine wpAnyH_done (by kernel_rfl) ?_ _
          go_wp2_with fail
          go_roundw
          case rel => exact ⟨k + 1, by omega, by go_num, (((Env.again hE.bel).fv (hE.here.1.1.1.1.1.1.2)).blkI (hE.here.1.1.1.1.1.2)).blkI (hE.here.1.1.1.1.2)⟩
          case measure => (simp [intOf]) <;> omega
      · skip
        go_simp
        obtain ⟨g10, hg10⟩ : ∃ g10, g10 = wd.heap.size := ⟨_, rfl⟩
        have hl10_1 : w.heap.size < g10 := by rw [hg10]; exact (hE.here.1.1.2).lt
        have hl10_2 : w.heap.size + 1 < g10 := by rw [hg10]; exact (hE.here.1.2).lt
        replace hE := hE.blk 26 #[.bool false, .slice none 0 0, .bool false, .slice none 0 0] (g := g10) hg10.symm
        generalize wd.alloc (.cells #[.bool false, .slice none 0 0, .bool false, .slice none 0 0] 26) = W10 at hE ⊢
        rw [← hg10]
        clear hg10
        refine hK.out _ _ (hE.here.1.1.1.2.c4) (fun hHeld => ?_)
        clear hK K
        try simp only [PL]
        refine r1 1 (fun K hK => ?_)
        go_simp
        have hc := law_quick 1 1 W10 (by decide) (by decide) (by decide) (by decide) (by decide)
        rw [show Rat.divInt 1 1 = 1 by decide +kernel] at hc
        refine hc.mono ?_
        clear hc
        rintro e w11 ⟨su, Au, nu, cu, tu, Bu, mu, du, rfl, hu, hb⟩
        replace hE := hE.step hb
        clear hb
        replace hE := hE.fv hu
        clear hu
        go_wp2_with fail
        refine hK.out _ _ (hE.here.1.1.1.1.2.c4) (fun hHeld => ?_)
        clear hK K
        try simp only [PL]
        refine r1 5 (fun K hK => ?_)
        go_simp
        have hc := fround_v (ca := ca) (da := da) (cb := cu) (db := du) hE.here.1.1.1.1.1.2 hE.here.2 la fl_one2 (by decide) (k + 1) (by omega) (by omega) (by rw [hz]; show fl (Rat.divInt (vk * 1) 1) ≤ 256; rw [Int.mul_one]; exact hfl)
        rw [hz, show Rat.divInt (vk * (1 : Rat).num) (((1 : Rat).den : Nat) : Int) = Rat.divInt vk 1 by show Rat.divInt (vk * 1) 1 = _; rw [Int.mul_one]] at hc
        refine hc.mono ?_
        clear hc
        rintro e w12 ⟨sr, Ar, nr, cr, tr, Br, mr, dr, rfl, hr, hb⟩
        replace hE := hE.step hb
        clear hb
        replace hE := hE.fv hr
        clear hr
        go_wp2_with fail
        refine hK.out _ _ (hE.here.1.1.1.1.1.2.c4) (fun hHeld => ?_)
        clear hK K
        try simp only [PL]
        refine tk 6 ?_
        try simp only [PL]
        refine tk 7 ?_
        try simp only [PL]
        refine tk 8 ?_
        try simp only [PL]
        refine r1 10 (fun K hK => ?_)
        have hgl13 : w.heap.size ≤ g10 := by omega
        obtain ⟨x13_0, x13_1, x13_2, x13_3⟩ := (hE.here.1.1.2).c4
        obtain ⟨f13_0, f13_1, f13_2, f13_3⟩ := hE.here.1.1.2.f4
        replace hE := ((((((((Env.again (bel4 hE.bel hgl13 (.bool sr) (.slice Ar nr cr) (.bool tr) (.slice Br mr dr))).fv ((hE.here.1.1.1.1.1.1.2).sep4 hE.here.1.1.2 rfl (.bool sr) (.slice Ar nr cr) (.bool tr) (.slice Br mr dr) rfl rfl rfl)).blkI ((hE.here.1.1.1.1.1.2).far4 (R := g10) (by omega) (.bool sr) (.slice Ar nr cr) (.bool tr) (.slice Br mr dr))).blkI ((hE.here.1.1.1.1.2).far4 (R := g10) (by omega) (.bool sr) (.slice Ar nr cr) (.bool tr) (.slice Br mr dr))).atI ((hE.here.1.1.1.2).far4 (R := g10) (by first | omega | exact At.apart (hE.here.1.1.1.2) (hE.here.1.1.2) rfl) (.bool sr) (.slice Ar nr cr) (.bool tr) (.slice Br mr dr))).blkI ((hE.here.1.1.2).s4 (.bool sr) (.slice Ar nr cr) (.bool tr) (.slice Br mr dr))).fv ((hE.here.1.2).sep4 hE.here.1.1.2 rfl (.bool sr) (.slice Ar nr cr) (.bool tr) (.slice Br mr dr) rfl rfl rfl)).fv ((hE.here.2).sep4 hE.here.1.1.2 rfl (.bool sr) (.slice Ar nr cr) (.bool tr) (.slice Br mr dr) rfl rfl rfl))
        go_simp
        clear x13_0 x13_1 x13_2 x13_3 f13_0 f13_1 f13_2 f13_3 hgl13
        generalize ((((w12.setCell ⟨g10, 0, none⟩ (.bool sr)).setCell ⟨g10, 1, none⟩ (.slice Ar nr cr)).setCell ⟨g10, 2, none⟩ (.bool tr)).setCell ⟨g10, 3, none⟩ (.slice Br mr dr)) = W13 at hE ⊢
        refine hK.out _ _ (hE.here.1.1.1.1.1.2.c4) (fun hHeld => ?_)
        clear hK K
        try simp only [PL]
        refine tk 11 ?_
        try simp only [PL]
        refine wpAnyH_done (by kernel_rfl) ?_ _
        go_upto_region 5 with (fail)
        replace hE := hE.drew
        refine wp_region_held_drew (S := fun w' => w'.cell? ⟨g10, 0, none⟩ = some (.bool sr) ∧ w'.cell? ⟨g10, 1, none⟩ = some (.slice Ar nr cr) ∧ w'.cell? ⟨g10, 2, none⟩ = some (.bool tr) ∧ w'.cell? ⟨g10, 3, none⟩ = some (.slice Br mr dr) ∧ w'.cell? ⟨w.heap.size + 1, k, none⟩ = some (.int .i64 vk)) (by kernel_rfl) (hE.here.1.1.2.j4 (hE.here.1.1.1.2).2) (fun hHeld => ?_)
        refine tk 0 ?_
        try simp only [PL]
        refine tk 1 ?_
        try simp only [PL]
        refine tk 2 ?_
        try simp only [PL]
        refine tk 3 ?_
        try simp only [PL]
        refine tk 4 ?_
        try simp only [PL]
        refine r1 5 (fun K hK => ?_)
        go_simp
        have hc := law_is (ca := cr) (da := dr) (n := vk) (d := 1) hE.here.2 hfl hlo hhi (by decide) (by decide) (by decide) rfl
        refine hc.mono ?_
        clear hc
        rintro e w14 ⟨rfl, hb⟩
        replace hE := hE.step hb
        clear hb
        go_wp2_with fail
        refine hK.out _ _ (hE.here.1.1.2.j4 (hE.here.1.1.1.2).2) (fun hHeld => ?_)
        clear hK K
        try simp only [PL]
        refine tk 6 ?_
        try simp only [PL]
        refine wpAnyH_done (by kernel_rfl) ?_ _
        go_wp2_with fail
        go_roundw
        case rel => exact ⟨k + 1, by omega, by go_num, (((Env.again hE.bel).fv (hE.here.1.1.1.1.1.1.2)).blkI (hE.here.1.1.1.1.1.2)).blkI (hE.here.1.1.1.1.2)⟩
        case measure => (simp [intOf]) <;> omega
    · obtain rfl : k = 6 := by omega
      go_wp2_with fail
      go_ret
      exact ⟨rfl, hE.bel⟩
set_option linter.unusedSimpArgs false in
set_option maxRecDepth 100000 in
set_option maxHeartbeats 16000000 in
theorem awake2_t (w : World) {k : Int} (hm : w.cell? ⟨1, 0, none⟩ = some (.int .i64 k)) (hlt : 1 < w.heap.size) : Calls Tryz.prog 6 #[] w fun e w' => e = .returned (.bool true) ∧ Below w.heap.size w w' := by
  have hE := (Env.start w).at_ hlt hm
  go_enter Tryz.func6, Tryz.ntmps6
  go_wp2_with fail
  have hc := rfromInt_v (4) w (by decide) (by decide)
  refine hc.mono ?_
  clear hc
  rintro e w1 ⟨sp1, Ap1, np1, cp1, rfl, hp1, hb⟩
  replace hE := hE.step hb
  clear hb
  replace hE := hE.wv hp1
  clear hp1
  go_wp2_with fail
  have hc := rfromInt_v (-6) w1 (by decide) (by decide)
  refine hc.mono ?_
  clear hc
  rintro e w2 ⟨sq1, Aq1, nq1, cq1, rfl, hq1, hb⟩
  replace hE := hE.step hb
  clear hb
  replace hE := hE.wv hq1
  clear hq1
  go_wp2_with fail
  have hc := fmake_v (cx := cp1) (cy := cq1) hE.here.1.2 hE.here.2 (Nat.le_trans (small_len hE.here.1.2 (by decide) (by decide)) (by decide)) (Nat.le_trans (small_len hE.here.2 (by decide) (by decide)) (by decide)) (by decide) (by rw [fl_le]; decide +kernel)
  refine hc.mono ?_
  clear hc
  rintro e w3 ⟨sva, Ava, nva, cva, tva, Bva, mva, dva, rfl, hva, hb⟩
  replace hE := hE.step hb
  clear hb
  replace hE := hE.fv hva
  clear hva
  go_upto_region 2 with (fail)
  obtain ⟨g4, hg4⟩ : ∃ g4, g4 = w3.heap.size := ⟨_, rfl⟩
  replace hE := hE.blk 26 #[.bool sva, .slice Ava nva cva, .bool tva, .slice Bva mva dva] (g := g4) hg4.symm
  generalize w3.alloc (.cells #[.bool sva, .slice Ava nva cva, .bool tva, .slice Bva mva dva] 26) = W4 at hE ⊢
  rw [← hg4]
  clear hg4
  go_wp2_with fail
  have hc := law_quick (1) (6) W4 (by decide) (by decide) (by decide) (by decide) (by decide)
  refine hc.mono ?_
  clear hc
  rintro e w5 ⟨su2, Au2, nu2, cu2, tiu2, Bu2, mu2, du2, rfl, hu2, hb⟩
  replace hE := hE.step hb
  clear hb
  replace hE := hE.fv hu2
  clear hu2
  go_wp2_with fail
  have hc := law_quick (1) (3) w5 (by decide) (by decide) (by decide) (by decide) (by decide)
  refine hc.mono ?_
  clear hc
  rintro e w6 ⟨sv2, Av2, nv2, cv2, tiv2, Bv2, mv2, dv2, rfl, hv2, hb⟩
  replace hE := hE.step hb
  clear hb
  replace hE := hE.fv hv2
  clear hv2
  go_wp2_with fail
  have hc := fadd_v (ca := cu2) (da := du2) (cb := cv2) (db := dv2) hE.here.1.2 hE.here.2 (by rw [fl_le]; decide +kernel) (by rw [fl_le]; decide +kernel) (by rw [fl_le]; decide +kernel)
  refine hc.mono ?_
  clear hc
  rintro e w7 ⟨svb, Avb, nvb, cvb, tivb, Bvb, mvb, dvb, rfl, hvb, hb⟩
  replace hE := hE.step hb
  clear hb
  replace hE := hE.fv hvb
  clear hvb
  go_upto_region 3 with (fail)
  obtain ⟨g8, hg8⟩ : ∃ g8, g8 = w7.heap.size := ⟨_, rfl⟩
  have hl8_4 : g4 < g8 := by rw [hg8]; exact (hE.here.1.1.1.2).lt
  replace hE := hE.blk 26 #[.bool svb, .slice Avb nvb cvb, .bool tivb, .slice Bvb mvb dvb] (g := g8) hg8.symm
  generalize w7.alloc (.cells #[.bool svb, .slice Avb nvb cvb, .bool tivb, .slice Bvb mvb dvb] 26) = W8 at hE ⊢
  rw [← hg8]
  clear hg8
  go_wp2_with fail
  have hc := law_quick (-2) (3) W8 (by decide) (by decide) (by decide) (by decide) (by decide)
  refine hc.mono ?_
  clear hc
  rintro e w9 ⟨su3, Au3, nu3, cu3, tiu3, Bu3, mu3, du3, rfl, hu3, hb⟩
  replace hE := hE.step hb
  clear hb
  replace hE := hE.fv hu3
  clear hu3
  go_wp2_with fail
  have hc := fpow_neg (ca := cu3) (da := du3) hE.here.2 (by rw [fl_le]; decide +kernel) (by decide +kernel) (by rw [fl_le]; decide +kernel) 3 (by decide) (by decide) (by rw [fl_le]; decide +kernel)
  rw [show (Rat.divInt (-2) 3)⁻¹ ^ 3 = Rat.divInt (-27) 8 by decide +kernel, show -((3 : Nat) : Int) = -3 from rfl] at hc
  refine hc.mono ?_
  clear hc
  rintro e w10 ⟨svc, Avc, nvc, cvc, tvc, Bvc, mvc, dvc, rfl, hvc, hb⟩
  replace hE := hE.step hb
  clear hb
  replace hE := hE.fv hvc
  clear hvc
  go_upto_region 4 with (fail)
  obtain ⟨g11, hg11⟩ : ∃ g11, g11 = w10.heap.size := ⟨_, rfl⟩
  have hl11_4 : g4 < g11 := by rw [hg11]; exact (hE.here.1.1.1.1.1.1.2).lt
  have hl11_8 : g8 < g11 := by rw [hg11]; exact (hE.here.1.1.2).lt
  replace hE := hE.blk 26 #[.bool svc, .slice Avc nvc cvc, .bool tvc, .slice Bvc mvc dvc] (g := g11) hg11.symm
  generalize w10.alloc (.cells #[.bool svc, .slice Avc nvc cvc, .bool tvc, .slice Bvc mvc dvc] 26) = W11 at hE ⊢
  rw [← hg11]
  clear hg11
  go_wp2_with fail
  have hc := law_quick (-1) (2) W11 (by decide) (by decide) (by decide) (by decide) (by decide)
  refine hc.mono ?_
  clear hc
  rintro e w12 ⟨su4, Au4, nu4, cu4, tiu4, Bu4, mu4, du4, rfl, hu4, hb⟩
  replace hE := hE.step hb
  clear hb
  replace hE := hE.fv hu4
  clear hu4
  go_wp2_with fail
  have hc := ffloor_v (ca := cu4) (da := du4) hE.here.2 (by rw [fl_le]; decide +kernel)
  rw [show (Rat.divInt (-1) 2).num.fdiv (((Rat.divInt (-1) 2).den : Nat) : Int) = -1 by decide +kernel] at hc
  refine hc.mono ?_
  clear hc
  rintro e w13 ⟨svd, Avd, nvd, cvd, rfl, hvd, hb⟩
  replace hE := hE.step hb
  clear hb
  replace hE := hE.wv hvd
  clear hvd
  go_upto_region 5 with (fail)
  obtain ⟨g14, hg14⟩ : ∃ g14, g14 = w13.heap.size := ⟨_, rfl⟩
  have hl14_4 : g4 < g14 := by rw [hg14]; exact (hE.here.1.1.1.1.1.1.1.1.1.2).lt
  have hl14_8 : g8 < g14 := by rw [hg14]; exact (hE.here.1.1.1.1.1.2).lt
  have hl14_11 : g11 < g14 := by rw [hg14]; exact (hE.here.1.1.2).lt
  replace hE := hE.blk 24 #[.bool svd, .slice Avd nvd cvd] (g := g14) hg14.symm
  generalize w13.alloc (.cells #[.bool svd, .slice Avd nvd cvd] 24) = W14 at hE ⊢
  rw [← hg14]
  clear hg14
  go_wp2_with fail
  have hc := law_quick (-1) (2) W14 (by decide) (by decide) (by decide) (by decide) (by decide)
  refine hc.mono ?_
  clear hc
  rintro e w15 ⟨su5, Au5, nu5, cu5, tiu5, Bu5, mu5, du5, rfl, hu5, hb⟩
  replace hE := hE.step hb
  clear hb
  replace hE := hE.fv hu5
  clear hu5
  go_wp2_with fail
  have hc := fceil_v (ca := cu5) (da := du5) hE.here.2 (by rw [fl_le]; decide +kernel)
  rw [show ceilQ (Rat.divInt (-1) 2) = 0 by decide +kernel] at hc
  refine hc.mono ?_
  clear hc
  rintro e w16 ⟨svk, Avk, nvk, cvk, rfl, hvk, hb⟩
  replace hE := hE.step hb
  clear hb
  replace hE := hE.wv hvk
  clear hvk
  obtain rfl : nvk = 0 := by rw [(hE.here.2).len]; exact ln_zero
  go_upto_region 6 with (fail)
  obtain ⟨g17, hg17⟩ : ∃ g17, g17 = w16.heap.size := ⟨_, rfl⟩
  have hl17_4 : g4 < g17 := by rw [hg17]; exact (hE.here.1.1.1.1.1.1.1.1.1.1.1.1.2).lt
  have hl17_8 : g8 < g17 := by rw [hg17]; exact (hE.here.1.1.1.1.1.1.1.1.2).lt
  have hl17_11 : g11 < g17 := by rw [hg17]; exact (hE.here.1.1.1.1.1.2).lt
  have hl17_14 : g14 < g17 := by rw [hg17]; exact (hE.here.1.1.2).lt
  replace hE := hE.blk 24 #[.bool svk, .slice Avk 0 cvk] (g := g17) hg17.symm
  generalize w16.alloc (.cells #[.bool svk, .slice Avk 0 cvk] 24) = W17 at hE ⊢
  rw [← hg17]
  clear hg17
  go_wp2_with fail
  have hc := law_quick (1) (1) W17 (by decide) (by decide) (by decide) (by decide) (by decide)
  refine hc.mono ?_
  clear hc
  rintro e w18 ⟨su6, Au6, nu6, cu6, tiu6, Bu6, mu6, du6, rfl, hu6, hb⟩
  replace hE := hE.step hb
  clear hb
  replace hE := hE.fv hu6
  clear hu6
  go_wp2_with fail
  have hc := law_quick (3) (10) w18 (by decide) (by decide) (by decide) (by decide) (by decide)
  refine hc.mono ?_
  clear hc
  rintro e w19 ⟨sv6, Av6, nv6, cv6, tiv6, Bv6, mv6, dv6, rfl, hv6, hb⟩
  replace hE := hE.step hb
  clear hb
  replace hE := hE.fv hv6
  clear hv6
  go_wp2_with fail
  have hc := fround_v (ca := cu6) (da := du6) (cb := cv6) (db := dv6) hE.here.1.2 hE.here.2 (by rw [fl_le]; decide +kernel) (by rw [fl_le]; decide +kernel) (by decide +kernel) 5 (by decide) (by decide) (by rw [fl_le]; decide +kernel)
  rw [show Rat.divInt (roundZ 5 (Rat.divInt 1 1) (Rat.divInt 3 10) * (Rat.divInt 3 10).num) (((Rat.divInt 3 10).den : Nat) : Int) = Rat.divInt 9 10 by decide +kernel, show ((5 : Nat) : Int) = 5 from rfl] at hc
  refine hc.mono ?_
  clear hc
  rintro e w20 ⟨svm, Avm, nvm, cvm, tvm, Bvm, mvm, dvm, rfl, hvm, hb⟩
  replace hE := hE.step hb
  clear hb
  replace hE := hE.fv hvm
  clear hvm
  go_upto_region 7 with (fail)
  obtain ⟨g21, hg21⟩ : ∃ g21, g21 = w20.heap.size := ⟨_, rfl⟩
  have hl21_4 : g4 < g21 := by rw [hg21]; exact (hE.here.1.1.1.1.1.1.1.1.1.1.1.1.1.1.1.1.2).lt
  have hl21_8 : g8 < g21 := by rw [hg21]; exact (hE.here.1.1.1.1.1.1.1.1.1.1.1.1.2).lt
  have hl21_11 : g11 < g21 := by rw [hg21]; exact (hE.here.1.1.1.1.1.1.1.1.1.2).lt
  have hl21_14 : g14 < g21 := by rw [hg21]; exact (hE.here.1.1.1.1.1.1.2).lt
  have hl21_17 : g17 < g21 := by rw [hg21]; exact (hE.here.1.1.1.2).lt
  replace hE := hE.blk 26 #[.bool svm, .slice Avm nvm cvm, .bool tvm, .slice Bvm mvm dvm] (g := g21) hg21.symm
  generalize w20.alloc (.cells #[.bool svm, .slice Avm nvm cvm, .bool tvm, .slice Bvm mvm dvm] 26) = W21 at hE ⊢
  rw [← hg21]
  clear hg21
  go_wp2_with fail
  refine (fparse_24 _ (hE.here.1.1.1.1.1.1.1.1.1.1.1.1.1.1.1.1.1.1.1.1.1.2).2 (hE.here.1.1.1.1.1.1.1.1.1.1.1.1.1.1.1.1.1.1.1.1.1.2).1).mono ?_
  rintro e w68 ⟨rfl, hb⟩
  replace hE := hE.step hb
  clear hb
  go_upto_region 8 with (fail)
  obtain ⟨g22, hg22⟩ : ∃ g22, g22 = w68.heap.size := ⟨_, rfl⟩
  have hl22_4 : g4 < g22 := by rw [hg22]; exact (hE.here.1.1.1.1.1.1.1.1.1.1.1.1.1.1.1.1.1.2).lt
  have hl22_8 : g8 < g22 := by rw [hg22]; exact (hE.here.1.1.1.1.1.1.1.1.1.1.1.1.1.2).lt
  have hl22_11 : g11 < g22 := by rw [hg22]; exact (hE.here.1.1.1.1.1.1.1.1.1.1.2).lt
  have hl22_14 : g14 < g22 := by rw [hg22]; exact (hE.here.1.1.1.1.1.1.1.2).lt
  have hl22_17 : g17 < g22 := by rw [hg22]; exact (hE.here.1.1.1.1.2).lt
  have hl22_21 : g21 < g22 := by rw [hg22]; exact (hE.here.2).lt
  replace hE := hE.blk 26 #[.bool false, .slice none 0 0, .bool false, .slice none 0 0] (g := g22) hg22.symm
  generalize w68.alloc (.cells #[.bool false, .slice none 0 0, .bool false, .slice none 0 0] 26) = W22 at hE ⊢
  rw [← hg22]
  clear hg22
  go_wp2_with fail
  refine (fparse_02 _ (hE.here.1.1.1.1.1.1.1.1.1.1.1.1.1.1.1.1.1.1.1.1.1.1.2).2 (hE.here.1.1.1.1.1.1.1.1.1.1.1.1.1.1.1.1.1.1.1.1.1.1.2).1).mono ?_
  rintro e w69 ⟨rfl, hb⟩
  replace hE := hE.step hb
  clear hb
  go_upto_region 9 with (fail)
  obtain ⟨g23, hg23⟩ : ∃ g23, g23 = w69.heap.size := ⟨_, rfl⟩
  have hl23_4 : g4 < g23 := by rw [hg23]; exact (hE.here.1.1.1.1.1.1.1.1.1.1.1.1.1.1.1.1.1.1.2).lt
  have hl23_8 : g8 < g23 := by rw [hg23]; exact (hE.here.1.1.1.1.1.1.1.1.1.1.1.1.1.1.2).lt
  have hl23_11 : g11 < g23 := by rw [hg23]; exact (hE.here.1.1.1.1.1.1.1.1.1.1.1.2).lt
  have hl23_14 : g14 < g23 := by rw [hg23]; exact (hE.here.1.1.1.1.1.1.1.1.2).lt
  have hl23_17 : g17 < g23 := by rw [hg23]; exact (hE.here.1.1.1.1.1.2).lt
  have hl23_21 : g21 < g23 := by rw [hg23]; exact (hE.here.1.2).lt
  have hl23_22 : g22 < g23 := by rw [hg23]; exact (hE.here.2).lt
  replace hE := hE.blk 26 #[.bool false, .slice none 0 0, .bool false, .slice none 0 0] (g := g23) hg23.symm
  generalize w69.alloc (.cells #[.bool false, .slice none 0 0, .bool false, .slice none 0 0] 26) = W23 at hE ⊢
  rw [← hg23]
  clear hg23
  obtain ⟨k24, k25, k26, k27⟩ := (hE.here.1.1.1.1.1.1.1.1.1.1.1.1.1.1.1.1.1.1.1.2).c4
  go_wp2_with fail
  have hc := law_is (ca := cva) (da := dva) (n := -2) (d := 3) hE.here.1.1.1.1.1.1.1.1.1.1.1.1.1.1.1.1.1.1.1.1.2 (by rw [fl_le]; decide +kernel) (by decide) (by decide) (by decide) (by decide) (by decide) (by decide +kernel)
  refine hc.mono ?_
  clear hc
  clear k24 k25 k26 k27
  rintro e w28 ⟨rfl, hb⟩
  replace hE := hE.step hb
  clear hb
  obtain ⟨k29, k30, k31, k32⟩ := (hE.here.1.1.1.1.1.1.1.1.1.1.1.1.1.1.1.2).c4
  go_wp2_with fail
  have hc := law_is (ca := cvb) (da := dvb) (n := 1) (d := 2) hE.here.1.1.1.1.1.1.1.1.1.1.1.1.1.1.1.1.2 (by rw [fl_le]; decide +kernel) (by decide) (by decide) (by decide) (by decide) (by decide) (by decide +kernel)
  refine hc.mono ?_
  clear hc
  clear k29 k30 k31 k32
  rintro e w33 ⟨rfl, hb⟩
  replace hE := hE.step hb
  clear hb
  obtain ⟨k34, k35, k36, k37⟩ := (hE.here.1.1.1.1.1.1.1.1.1.1.1.1.2).c4
  go_wp2_with fail
  have hc := law_is (ca := cvc) (da := dvc) (n := -27) (d := 8) hE.here.1.1.1.1.1.1.1.1.1.1.1.1.1.2 (by rw [fl_le]; decide +kernel) (by decide) (by decide) (by decide) (by decide) (by decide) rfl
  refine hc.mono ?_
  clear hc
  clear k34 k35 k36 k37
  rintro e w38 ⟨rfl, hb⟩
  replace hE := hE.step hb
  clear hb
  obtain ⟨k39, k40, k41, k42⟩ := (hE.here.1.1.2).c4
  go_wp2_with fail
  have hc := law_is (ca := cvm) (da := dvm) (n := 9) (d := 10) hE.here.1.1.1.2 (by rw [fl_le]; decide +kernel) (by decide) (by decide) (by decide) (by decide) (by decide) rfl
  refine hc.mono ?_
  clear hc
  clear k39 k40 k41 k42
  rintro e w43 ⟨rfl, hb⟩
  replace hE := hE.step hb
  clear hb
  go_upto_region 11 with (fail)
  replace hE := hE.drew
  refine wp_region_held_drew (S := fun w' => w'.cell? ⟨g14, 0, none⟩ = some (.bool svd) ∧ w'.cell? ⟨g14, 1, none⟩ = some (.slice Avd nvd cvd) ∧ w'.cell? ⟨g17, 0, none⟩ = some (.bool svk) ∧ w'.cell? ⟨g17, 1, none⟩ = some (.slice Avk 0 cvk)) (by kernel_rfl) (hE.here.1.1.1.1.1.1.1.1.1.2.j2 hE.here.1.1.1.1.1.1.2.c2) (fun hHeld => ?_)
  refine tk 0 ?_
  try simp only [PL]
  refine tk 1 ?_
  try simp only [PL]
  refine tk 2 ?_
  try simp only [PL]
  refine tk 3 ?_
  try simp only [PL]
  refine tk 4 ?_
  try simp only [PL]
  refine tk 5 ?_
  try simp only [PL]
  refine tk 6 ?_
  try simp only [PL]
  refine tk 7 ?_
  try simp only [PL]
  refine r1 8 (fun K hK => ?_)
  go_simp
  have hc := rfromInt_v (-1) w43.drew (by decide) (by decide)
  refine hc.mono ?_
  clear hc
  rintro e w44 ⟨so, Ao, no, co, rfl, ho, hb⟩
  replace hE := hE.step hb
  clear hb
  replace hE := hE.wv ho
  clear ho
  go_wp2_with fail
  refine hK.out _ _ (hE.here.1.1.1.1.1.1.1.1.1.1.2.j2 hE.here.1.1.1.1.1.1.1.2.c2) (fun hHeld => ?_)
  clear hK K
  try simp only [PL]
  refine r1 9 (fun K hK => ?_)
  go_simp
  have hc := refSame_v (c := cvd) (d := co) hE.here.1.1.1.1.1.1.1.1.1.1.1.2 hE.here.2 (Nat.le_trans (small_len hE.here.1.1.1.1.1.1.1.1.1.1.1.2 (by decide) (by decide)) (by decide)) (Nat.le_trans (small_len hE.here.2 (by decide) (by decide)) (by decide))
  rw [decide_eq_true (rfl : (-1 : Int) = -1)] at hc
  refine hc.mono ?_
  clear hc
  rintro e w45 ⟨rfl, hb⟩
  replace hE := hE.step hb
  clear hb
  go_wp2_with fail
  refine hK.out _ _ (hE.here.1.1.1.1.1.1.1.1.1.1.2.j2 hE.here.1.1.1.1.1.1.1.2.c2) (fun hHeld => ?_)
  clear hK K
  try simp only [PL]
  refine tk 10 ?_
  try simp only [PL]
  refine tk 11 ?_
  try simp only [PL]
  refine tk 12 ?_
  try simp only [PL]
  refine tk 13 ?_
  try simp only [PL]
  refine tk 14 ?_
  try simp only [PL]
  refine tk 15 ?_
  try simp only [PL]
  refine tk 16 ?_
  try simp only [PL]
  refine tk 17 ?_
  try simp only [PL]
  refine tk 19 ?_
  try simp only [PL]
  refine r1 18 (fun K hK => ?_)
  go_simp
  have hc := law_quick (7) (2) w45 (by decide) (by decide) (by decide) (by decide) (by decide)
  refine hc.mono ?_
  clear hc
  rintro e w46 ⟨sx7, Ax7, nx7, cx7, tx7, Bx7, mx7, dx7, rfl, hx7, hb⟩
  replace hE := hE.step hb
  clear hb
  replace hE := hE.fv hx7
  clear hx7
  go_wp2_with fail
  refine hK.out _ _ (hE.here.1.1.1.1.1.1.1.1.1.1.1.2.j2 hE.here.1.1.1.1.1.1.1.1.2.c2) (fun hHeld => ?_)
  clear hK K
  try simp only [PL]
  refine r1 20 (fun K hK => ?_)
  go_simp
  have hc := rounds_v (ca := cx7) (da := dx7) hE.here.2 (by rw [fl_le]; decide +kernel) (fun k => [(3 : Int), (4 : Int), (3 : Int), (4 : Int), (4 : Int), (4 : Int)].getD k 0) (by intro k hk; rcases (show k = 0 ∨ k = 1 ∨ k = 2 ∨ k = 3 ∨ k = 4 ∨ k = 5 by omega) with rfl | rfl | rfl | rfl | rfl | rfl <;> exact ⟨by decide +kernel, by rw [fl_le]; decide +kernel, by decide, by decide⟩)
  refine hc.mono ?_
  clear hc
  rintro e w47 ⟨rfl, hb⟩
  replace hE := hE.step hb
  clear hb
  go_wp2_with fail
  refine hK.out _ _ (hE.here.1.1.1.1.1.1.1.1.1.1.1.2.j2 hE.here.1.1.1.1.1.1.1.1.2.c2) (fun hHeld => ?_)
  clear hK K
  try simp only [PL]
  refine tk 21 ?_
  try simp only [PL]
  refine tk 22 ?_
  try simp only [PL]
  refine tk 24 ?_
  try simp only [PL]
  refine r1 23 (fun K hK => ?_)
  go_simp
  have hc := law_quick (-5) (2) w47 (by decide) (by decide) (by decide) (by decide) (by decide)
  refine hc.mono ?_
  clear hc
  rintro e w48 ⟨sx5, Ax5, nx5, cx5, tx5, Bx5, mx5, dx5, rfl, hx5, hb⟩
  replace hE := hE.step hb
  clear hb
  replace hE := hE.fv hx5
  clear hx5
  go_wp2_with fail
  refine hK.out _ _ (hE.here.1.1.1.1.1.1.1.1.1.1.1.1.2.j2 hE.here.1.1.1.1.1.1.1.1.1.2.c2) (fun hHeld => ?_)
  clear hK K
  try simp only [PL]
  refine r1 25 (fun K hK => ?_)
  go_simp
  have hc := rounds_v (ca := cx5) (da := dx5) hE.here.2 (by rw [fl_le]; decide +kernel) (fun k => [(-2 : Int), (-3 : Int), (-3 : Int), (-2 : Int), (-3 : Int), (-2 : Int)].getD k 0) (by intro k hk; rcases (show k = 0 ∨ k = 1 ∨ k = 2 ∨ k = 3 ∨ k = 4 ∨ k = 5 by omega) with rfl | rfl | rfl | rfl | rfl | rfl <;> exact ⟨by decide +kernel, by rw [fl_le]; decide +kernel, by decide, by decide⟩)
  refine hc.mono ?_
  clear hc
  rintro e w49 ⟨rfl, hb⟩
  replace hE := hE.step hb
  clear hb
  go_wp2_with fail
  refine hK.out _ _ (hE.here.1.1.1.1.1.1.1.1.1.1.1.1.2.j2 hE.here.1.1.1.1.1.1.1.1.1.2.c2) (fun hHeld => ?_)
  clear hK K
  try simp only [PL]
  refine tk 26 ?_
  try simp only [PL]
  refine tk 27 ?_
  try simp only [PL]
  refine wpAnyH_done (by kernel_rfl) ?_ _
  go_wp2_with fail
  go_ret
  exact ⟨rfl, hE.bel⟩
end Go.Proofs.YtifikcemcflgjaaGreatDoor
