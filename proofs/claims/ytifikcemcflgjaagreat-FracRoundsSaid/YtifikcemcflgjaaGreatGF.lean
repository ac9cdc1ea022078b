/-
  The walk of the reference's Floor of whole numbers.
-/
import Derived.Test.YtifikcemcflgjaaGreatK1
import Derived.Test.YtifikcemcflgjaaGreatGR
namespace Go.Proofs.YtifikcemcflgjaaGreat
open Go.RowKit

theorem rplus_one {a : Int} {s : Bool} {A : Option Addr} {n c : Nat} {w : World} (ha : WV w a s A n) (la : n ≤ 900000) :
    Calls Tryz.prog 110 #[.slice A n c, .slice (some ⟨w.heap.size, 0, none⟩) 1 1] (w.alloc (.cells #[.int .u16 1] 48)) (LR (a.natAbs + 1) w) := by
  obtain ⟨-, rfl, hA⟩ := ha
  have hb := (Below.refl w.heap.size w).alloc (Nat.le_refl _) (.cells #[.int .u16 1] 48)
  have h1 : Num16 (w.alloc (.cells #[.int .u16 1] 48)) (some ⟨w.heap.size, 0, none⟩) 1 := num_cell w 1 (by decide) (by decide)
  have hc := rplus_any A (some ⟨w.heap.size, 0, none⟩) c 1 a.natAbs 1 _ (Num16.below hA hb) h1 (by omega) (by decide)
  rw [ln_one] at hc
  refine hc.mono ?_
  rintro e w' ⟨A', c', rfl, ho, hb'⟩
  exact ⟨A', _, c', rfl, WV.nat ho.num, hb.trans (hb'.mono hb.size)⟩
theorem rminus_w {a b : Int} {s t : Bool} {A B : Option Addr} {n c m d : Nat} {w : World} (ha : WV w a s A n) (hb : WV w b t B m) (la : n ≤ 900000) (hab : b.natAbs ≤ a.natAbs) :
    Calls Tryz.prog 112 #[.slice A n c, .slice B m d] w (LR (a.natAbs - b.natAbs) w) := by
  obtain ⟨-, rfl, hA⟩ := ha
  obtain ⟨-, rfl, hB⟩ := hb
  refine (rminus_any A B c d a.natAbs b.natAbs w hA hB (by omega) hab).mono ?_
  rintro e w' ⟨A', c', rfl, ho, -, hb'⟩
  exact ⟨A', _, c', rfl, WV.nat ho, hb'⟩
set_option linter.unusedSimpArgs false in
set_option maxRecDepth 100000 in
set_option maxHeartbeats 4000000 in
theorem rfloor_v {a b : Int} {sa sb : Bool} {Aa Ab : Option Addr} {na ca nb cb : Nat} {w : World} (ha : WV w a sa Aa na) (hb : WV w b sb Ab nb) (la : na ≤ 900000) (lb : nb ≤ 900000) (hb0 : b ≠ 0) :
    Calls Tryz.prog 108 #[.agg #[.bool sa, .slice Aa na ca], .agg #[.bool sb, .slice Ab nb cb]] w (WR2 (a.fdiv b) (a.fmod b) w) := by
  have hE := ((((Env.start w).wv ha).wv hb).blk 24 #[.bool sa, .slice Aa na ca] (g := w.heap.size) rfl).blk 24 #[.bool sb, .slice Ab nb cb] (g := w.heap.size + 1) (by simp)
  have hE := hE.blk 24 #[.bool false, .slice none 0 0] (g := w.heap.size + 1 + 1) (by simp)
  have hE := hE.blk 24 #[.bool false, .slice none 0 0] (g := w.heap.size + 1 + 1 + 1) (by simp)
  obtain ⟨W0, hW0⟩ : ∃ W0, W0 = ((((w.alloc (.cells #[.bool sa, .slice Aa na ca] 24)).alloc (.cells #[.bool sb, .slice Ab nb cb] 24)).alloc (.cells #[.bool false, .slice none 0 0] 24)).alloc (.cells #[.bool false, .slice none 0 0] 24)) := ⟨_, rfl⟩
  rw [← hW0] at hE
  have HW0 := Lib.hid hW0
  clear hW0
  go_enter Tryz.func108, Tryz.ntmps108
  go_upto_region 1 with (fail)
  rw [← HW0.out]
  have sg1 := ha.sgn
  have sg2 := hb.sgn
  have S1 := Lib.hid sg1
  have S2 := Lib.hid sg2
  clear sg1 sg2
  obtain ⟨k1, k2⟩ := (hE.here.1.1.1.2).c2
  obtain ⟨k3, k4⟩ := (hE.here.1.1.2).c2
  go_wp2_with fail
  have hc := rdivided_v (c := ca) (d := cb) (hE.here.1.1.1.1.1.2) (hE.here.1.1.1.1.2) la lb hb0
  refine hc.mono ?_
  clear hc
  clear k1 k2 k3 k4
  rintro e v1 ⟨Aq, nq, cq, Ar, nr, cr, rfl, hq, hr, hb⟩
  replace hE := hE.step hb
  clear hb
  replace hE := (hE.wv hq).wv hr
  clear hq hr
  by_cases hs : sa = sb
  · skip
    subst hs
    have t1 : (sa != sa) = false := bne_self_eq_false sa
    have e1 := (floor_same a hb0 (fun h => h.1 (by rw [← S1.out, ← S2.out]))).1
    have e2 := (floor_same a hb0 (fun h => h.1 (by rw [← S1.out, ← S2.out]))).2
    rw [← S1.out, ← S2.out, t1] at e1
    rw [← S2.out] at e2
    have E1 := Lib.hid e1
    have E2 := Lib.hid e2
    clear e1 e2
    obtain ⟨k5, k6⟩ := (hE.here.1.1.1.1.1.2).c2
    obtain ⟨k7, k8⟩ := (hE.here.1.1.1.1.2).c2
    go_upto_region 5 with (fail)
    clear k5 k6 k7 k8
    go_upto_region 5 with (fail)
    replace hE := hE.drew
    refine wp_region_held_drew (S := fun w' => w'.cell? ⟨w.heap.size, 0, none⟩ = some (.bool sa) ∧ w'.cell? ⟨w.heap.size, 1, none⟩ = some (.slice Aa na ca) ∧ w'.cell? ⟨w.heap.size + 1, 0, none⟩ = some (.bool sa) ∧ w'.cell? ⟨w.heap.size + 1, 1, none⟩ = some (.slice Ab nb cb)) (by kernel_rfl) (hE.here.1.1.1.1.1.2.j2 hE.here.1.1.1.1.2.c2) (fun hHeld => ?_)
    refine tk 0 ?_
    try simp only [PL]
    refine tk 1 ?_
    try simp only [PL]
    refine tk 2 ?_
    try simp only [PL]
    refine tk 3 ?_
    try simp only [PL]
    refine tk 4 ?_
    try simp only [PL]
    refine tk 5 ?_
    try simp only [PL]
    refine tk 7 ?_
    try simp only [PL]
    refine tk 8 ?_
    try simp only [PL]
    refine tk 9 ?_
    try simp only [PL]
    refine r1 6 (fun K hK => ?_)
    go_simp
    have hc := make_v (c := cq) false (hE.here.1.2)
    rw [Int.natAbs_natCast, E1.out] at hc
    refine hc.mono ?_
    clear hc
    rintro e w9 ⟨sx, Ax, nx, cx, rfl, hx, hb⟩
    replace hE := hE.step hb
    clear hb
    replace hE := hE.wv hx
    clear hx
    go_wp2_with fail
    refine hK.out _ _ (hE.here.1.1.1.1.1.1.2.j2 hE.here.1.1.1.1.1.2.c2) (fun hHeld => ?_)
    clear hK K
    try simp only [PL]
    refine r1 10 (fun K hK => ?_)
    go_simp
    have hc := make_v (c := cr) sa (hE.here.1.2)
    rw [Int.natAbs_natCast, E2.out] at hc
    refine hc.mono ?_
    clear hc
    rintro e w10 ⟨sy, Ay, ny, cy, rfl, hy, hb⟩
    replace hE := hE.step hb
    clear hb
    replace hE := hE.wv hy
    clear hy
    go_wp2_with fail
    refine hK.out _ _ (hE.here.1.1.1.1.1.1.1.2.j2 hE.here.1.1.1.1.1.1.2.c2) (fun hHeld => ?_)
    clear hK K
    try simp only [PL]
    refine r1 11 (fun K hK => ?_)
    have hgl11 : w.heap.size ≤ w.heap.size + 1 + 1 := by omega
    obtain ⟨x11_0, x11_1⟩ := (hE.here.1.1.1.1.1.2).c2
    obtain ⟨f11_0, f11_1⟩ := hE.here.1.1.1.1.1.2.f2
    replace hE := (((((((((((Env.again (bel2 hE.bel hgl11 (.bool sx) (.slice Ax nx cx))).wv ((hE.here.1.1.1.1.1.1.1.1.1.2).sep2 hE.here.1.1.1.1.1.2 rfl (.bool sx) (.slice Ax nx cx) rfl)).wv ((hE.here.1.1.1.1.1.1.1.1.2).sep2 hE.here.1.1.1.1.1.2 rfl (.bool sx) (.slice Ax nx cx) rfl)).blkI ((hE.here.1.1.1.1.1.1.1.2).far2 (R := w.heap.size + 1 + 1) (by omega) (.bool sx) (.slice Ax nx cx))).blkI ((hE.here.1.1.1.1.1.1.2).far2 (R := w.heap.size + 1 + 1) (by omega) (.bool sx) (.slice Ax nx cx))).blkI ((hE.here.1.1.1.1.1.2).s2 (.bool sx) (.slice Ax nx cx))).blkI ((hE.here.1.1.1.1.2).far2 (R := w.heap.size + 1 + 1) (by omega) (.bool sx) (.slice Ax nx cx))).wv ((hE.here.1.1.1.2).sep2 hE.here.1.1.1.1.1.2 rfl (.bool sx) (.slice Ax nx cx) rfl)).wv ((hE.here.1.1.2).sep2 hE.here.1.1.1.1.1.2 rfl (.bool sx) (.slice Ax nx cx) rfl)).wv ((hE.here.1.2).sep2 hE.here.1.1.1.1.1.2 rfl (.bool sx) (.slice Ax nx cx) rfl)).wv ((hE.here.2).sep2 hE.here.1.1.1.1.1.2 rfl (.bool sx) (.slice Ax nx cx) rfl))
    go_simp
    clear x11_0 x11_1 f11_0 f11_1 hgl11
    generalize ((w10.setCell ⟨w.heap.size + 1 + 1, 0, none⟩ (.bool sx)).setCell ⟨w.heap.size + 1 + 1, 1, none⟩ (.slice Ax nx cx)) = W11 at hE ⊢
    refine hK.out _ _ (hE.here.1.1.1.1.1.1.1.2.j2 hE.here.1.1.1.1.1.1.2.c2) (fun hHeld => ?_)
    clear hK K
    try simp only [PL]
    refine r1 12 (fun K hK => ?_)
    have hgl12 : w.heap.size ≤ w.heap.size + 1 + 1 + 1 := by omega
    obtain ⟨x12_0, x12_1⟩ := (hE.here.1.1.1.1.2).c2
    obtain ⟨f12_0, f12_1⟩ := hE.here.1.1.1.1.2.f2
    replace hE := (((((((((((Env.again (bel2 hE.bel hgl12 (.bool sy) (.slice Ay ny cy))).wv ((hE.here.1.1.1.1.1.1.1.1.1.2).sep2 hE.here.1.1.1.1.2 rfl (.bool sy) (.slice Ay ny cy) rfl)).wv ((hE.here.1.1.1.1.1.1.1.1.2).sep2 hE.here.1.1.1.1.2 rfl (.bool sy) (.slice Ay ny cy) rfl)).blkI ((hE.here.1.1.1.1.1.1.1.2).far2 (R := w.heap.size + 1 + 1 + 1) (by omega) (.bool sy) (.slice Ay ny cy))).blkI ((hE.here.1.1.1.1.1.1.2).far2 (R := w.heap.size + 1 + 1 + 1) (by omega) (.bool sy) (.slice Ay ny cy))).blkI ((hE.here.1.1.1.1.1.2).far2 (R := w.heap.size + 1 + 1 + 1) (by omega) (.bool sy) (.slice Ay ny cy))).blkI ((hE.here.1.1.1.1.2).s2 (.bool sy) (.slice Ay ny cy))).wv ((hE.here.1.1.1.2).sep2 hE.here.1.1.1.1.2 rfl (.bool sy) (.slice Ay ny cy) rfl)).wv ((hE.here.1.1.2).sep2 hE.here.1.1.1.1.2 rfl (.bool sy) (.slice Ay ny cy) rfl)).wv ((hE.here.1.2).sep2 hE.here.1.1.1.1.2 rfl (.bool sy) (.slice Ay ny cy) rfl)).wv ((hE.here.2).sep2 hE.here.1.1.1.1.2 rfl (.bool sy) (.slice Ay ny cy) rfl))
    go_simp
    clear x12_0 x12_1 f12_0 f12_1 hgl12
    generalize ((W11.setCell ⟨w.heap.size + 1 + 1 + 1, 0, none⟩ (.bool sy)).setCell ⟨w.heap.size + 1 + 1 + 1, 1, none⟩ (.slice Ay ny cy)) = W12 at hE ⊢
    refine hK.out _ _ (hE.here.1.1.1.1.1.1.1.2.j2 hE.here.1.1.1.1.1.1.2.c2) (fun hHeld => ?_)
    clear hK K
    try simp only [PL]
    refine wpAnyH_done (by kernel_rfl) ?_ _
    obtain ⟨y0, y1⟩ := (hE.here.1.1.1.1.1.2).c2
    obtain ⟨y2, y3⟩ := (hE.here.1.1.1.1.2).c2
    go_wp2_with fail
    refine bodyPost_ret (v := .tuple #[.agg #[.bool sx, .slice Ax nx cx], .agg #[.bool sy, .slice Ay ny cy]]) (by simp [results, Tryz.results108, go_sem, y0, y1, y2, y3]) rfl ?_
    exact ⟨sx, Ax, nx, cx, sy, Ay, ny, cy, rfl, hE.here.1.2, hE.here.2, hE.bel⟩
  · skip
    have hcs : (sa = true ∧ sb = false) ∨ (sa = false ∧ sb = true) := by cases sa <;> cases sb <;> simp at hs ⊢
    clear hs
    rcases hcs with ⟨rfl, rfl⟩ | ⟨rfl, rfl⟩
    · skip
      have t1 : (true != false) = true := rfl
      have hs2 : decide (a < 0) ≠ decide (b < 0) := by rw [← S1.out, ← S2.out]; decide
      have HS := Lib.hid hs2
      clear hs2
      have hnr := (hE.here.2).len
      rw [Int.natAbs_natCast] at hnr
      have HN := Lib.hid hnr
      clear hnr
      by_cases h0 : a.natAbs % b.natAbs = 0
      · skip
        have t2 : nr = 0 := by rw [HN.out, h0]; exact ln_zero
        have t3 : decide (0 < (nr : Int)) = false := decide_eq_false (by omega)
        have t4 : decide (0 < nr) = false := decide_eq_false (by omega)
        have e1 := (floor_same a hb0 (fun h => by omega)).1
        have e2 := (floor_same a hb0 (fun h => by omega)).2
        rw [← S1.out, ← S2.out, t1] at e1
        rw [← S2.out] at e2
        have E1 := Lib.hid e1
        have E2 := Lib.hid e2
        clear e1 e2
        clear h0 t2
        obtain ⟨k13, k14⟩ := (hE.here.1.1.1.1.1.2).c2
        obtain ⟨k15, k16⟩ := (hE.here.1.1.1.1.2).c2
        go_upto_region 5 with (fail)
        clear k13 k14 k15 k16
        go_upto_region 5 with (fail)
        replace hE := hE.drew
        refine wp_region_held_drew (S := fun w' => w'.cell? ⟨w.heap.size, 0, none⟩ = some (.bool true) ∧ w'.cell? ⟨w.heap.size, 1, none⟩ = some (.slice Aa na ca) ∧ w'.cell? ⟨w.heap.size + 1, 0, none⟩ = some (.bool false) ∧ w'.cell? ⟨w.heap.size + 1, 1, none⟩ = some (.slice Ab nb cb)) (by kernel_rfl) (hE.here.1.1.1.1.1.2.j2 hE.here.1.1.1.1.2.c2) (fun hHeld => ?_)
        refine tk 0 ?_
        try simp only [PL]
        refine tk 1 ?_
        try simp only [PL]
        refine tk 2 ?_
        try simp only [PL]
        refine tk 3 ?_
        try simp only [PL]
        refine tk 4 ?_
        try simp only [PL]
        refine tk 5 ?_
        try simp only [PL]
        refine tk 7 ?_
        try simp only [PL]
        refine tk 8 ?_
        try simp only [PL]
        refine tk 9 ?_
        try simp only [PL]
        refine r1 6 (fun K hK => ?_)
        go_simp
        have hc := make_v (c := cq) true (hE.here.1.2)
        rw [Int.natAbs_natCast, E1.out] at hc
        refine hc.mono ?_
        clear hc
        rintro e w17 ⟨sx, Ax, nx, cx, rfl, hx, hb⟩
        replace hE := hE.step hb
        clear hb
        replace hE := hE.wv hx
        clear hx
        go_wp2_with fail
        refine hK.out _ _ (hE.here.1.1.1.1.1.1.2.j2 hE.here.1.1.1.1.1.2.c2) (fun hHeld => ?_)
        clear hK K
        try simp only [PL]
        refine r1 10 (fun K hK => ?_)
        go_simp
        have hc := make_v (c := cr) false (hE.here.1.2)
        rw [Int.natAbs_natCast, E2.out] at hc
        refine hc.mono ?_
        clear hc
        rintro e w18 ⟨sy, Ay, ny, cy, rfl, hy, hb⟩
        replace hE := hE.step hb
        clear hb
        replace hE := hE.wv hy
        clear hy
        go_wp2_with fail
        refine hK.out _ _ (hE.here.1.1.1.1.1.1.1.2.j2 hE.here.1.1.1.1.1.1.2.c2) (fun hHeld => ?_)
        clear hK K
        try simp only [PL]
        refine r1 11 (fun K hK => ?_)
        have hgl19 : w.heap.size ≤ w.heap.size + 1 + 1 := by omega
        obtain ⟨x19_0, x19_1⟩ := (hE.here.1.1.1.1.1.2).c2
        obtain ⟨f19_0, f19_1⟩ := hE.here.1.1.1.1.1.2.f2
        replace hE := (((((((((((Env.again (bel2 hE.bel hgl19 (.bool sx) (.slice Ax nx cx))).wv ((hE.here.1.1.1.1.1.1.1.1.1.2).sep2 hE.here.1.1.1.1.1.2 rfl (.bool sx) (.slice Ax nx cx) rfl)).wv ((hE.here.1.1.1.1.1.1.1.1.2).sep2 hE.here.1.1.1.1.1.2 rfl (.bool sx) (.slice Ax nx cx) rfl)).blkI ((hE.here.1.1.1.1.1.1.1.2).far2 (R := w.heap.size + 1 + 1) (by omega) (.bool sx) (.slice Ax nx cx))).blkI ((hE.here.1.1.1.1.1.1.2).far2 (R := w.heap.size + 1 + 1) (by omega) (.bool sx) (.slice Ax nx cx))).blkI ((hE.here.1.1.1.1.1.2).s2 (.bool sx) (.slice Ax nx cx))).blkI ((hE.here.1.1.1.1.2).far2 (R := w.heap.size + 1 + 1) (by omega) (.bool sx) (.slice Ax nx cx))).wv ((hE.here.1.1.1.2).sep2 hE.here.1.1.1.1.1.2 rfl (.bool sx) (.slice Ax nx cx) rfl)).wv ((hE.here.1.1.2).sep2 hE.here.1.1.1.1.1.2 rfl (.bool sx) (.slice Ax nx cx) rfl)).wv ((hE.here.1.2).sep2 hE.here.1.1.1.1.1.2 rfl (.bool sx) (.slice Ax nx cx) rfl)).wv ((hE.here.2).sep2 hE.here.1.1.1.1.1.2 rfl (.bool sx) (.slice Ax nx cx) rfl))
        go_simp
        clear x19_0 x19_1 f19_0 f19_1 hgl19
        generalize ((w18.setCell ⟨w.heap.size + 1 + 1, 0, none⟩ (.bool sx)).setCell ⟨w.heap.size + 1 + 1, 1, none⟩ (.slice Ax nx cx)) = W19 at hE ⊢
        refine hK.out _ _ (hE.here.1.1.1.1.1.1.1.2.j2 hE.here.1.1.1.1.1.1.2.c2) (fun hHeld => ?_)
        clear hK K
        try simp only [PL]
        refine r1 12 (fun K hK => ?_)
        have hgl20 : w.heap.size ≤ w.heap.size + 1 + 1 + 1 := by omega
        obtain ⟨x20_0, x20_1⟩ := (hE.here.1.1.1.1.2).c2
        obtain ⟨f20_0, f20_1⟩ := hE.here.1.1.1.1.2.f2
        replace hE := (((((((((((Env.again (bel2 hE.bel hgl20 (.bool sy) (.slice Ay ny cy))).wv ((hE.here.1.1.1.1.1.1.1.1.1.2).sep2 hE.here.1.1.1.1.2 rfl (.bool sy) (.slice Ay ny cy) rfl)).wv ((hE.here.1.1.1.1.1.1.1.1.2).sep2 hE.here.1.1.1.1.2 rfl (.bool sy) (.slice Ay ny cy) rfl)).blkI ((hE.here.1.1.1.1.1.1.1.2).far2 (R := w.heap.size + 1 + 1 + 1) (by omega) (.bool sy) (.slice Ay ny cy))).blkI ((hE.here.1.1.1.1.1.1.2).far2 (R := w.heap.size + 1 + 1 + 1) (by omega) (.bool sy) (.slice Ay ny cy))).blkI ((hE.here.1.1.1.1.1.2).far2 (R := w.heap.size + 1 + 1 + 1) (by omega) (.bool sy) (.slice Ay ny cy))).blkI ((hE.here.1.1.1.1.2).s2 (.bool sy) (.slice Ay ny cy))).wv ((hE.here.1.1.1.2).sep2 hE.here.1.1.1.1.2 rfl (.bool sy) (.slice Ay ny cy) rfl)).wv ((hE.here.1.1.2).sep2 hE.here.1.1.1.1.2 rfl (.bool sy) (.slice Ay ny cy) rfl)).wv ((hE.here.1.2).sep2 hE.here.1.1.1.1.2 rfl (.bool sy) (.slice Ay ny cy) rfl)).wv ((hE.here.2).sep2 hE.here.1.1.1.1.2 rfl (.bool sy) (.slice Ay ny cy) rfl))
        go_simp
        clear x20_0 x20_1 f20_0 f20_1 hgl20
        generalize ((W19.setCell ⟨w.heap.size + 1 + 1 + 1, 0, none⟩ (.bool sy)).setCell ⟨w.heap.size + 1 + 1 + 1, 1, none⟩ (.slice Ay ny cy)) = W20 at hE ⊢
        refine hK.out _ _ (hE.here.1.1.1.1.1.1.1.2.j2 hE.here.1.1.1.1.1.1.2.c2) (fun hHeld => ?_)
        clear hK K
        try simp only [PL]
        refine wpAnyH_done (by kernel_rfl) ?_ _
        obtain ⟨y0, y1⟩ := (hE.here.1.1.1.1.1.2).c2
        obtain ⟨y2, y3⟩ := (hE.here.1.1.1.1.2).c2
        go_wp2_with fail
        refine bodyPost_ret (v := .tuple #[.agg #[.bool sx, .slice Ax nx cx], .agg #[.bool sy, .slice Ay ny cy]]) (by simp [results, Tryz.results108, go_sem, y0, y1, y2, y3]) rfl ?_
        exact ⟨sx, Ax, nx, cx, sy, Ay, ny, cy, rfl, hE.here.1.2, hE.here.2, hE.bel⟩
      · skip
        have t2 : 0 < nr := by rw [HN.out]; exact (ln_pos b16_two).2 (by omega)
        have t3 : decide (0 < (nr : Int)) = true := decide_eq_true (by omega)
        have t4 : decide (0 < nr) = true := decide_eq_true t2
        have e1 := (floor_up a hb0 HS.out (by omega)).1
        have e2 := (floor_up a hb0 HS.out (by omega)).2
        rw [← S1.out, ← S2.out, t1] at e1
        rw [← S2.out] at e2
        have E1 := Lib.hid e1
        have E2 := Lib.hid e2
        clear e1 e2
        have lq : nq ≤ 900000 := by
          rw [(hE.here.1.2).len, Int.natAbs_natCast]
          have h1 := ha.len
          exact Nat.le_trans (ln_mono b16_two (Nat.div_le_self _ _)) (by omega)
        have hle : a.natAbs % b.natAbs ≤ b.natAbs := Nat.le_of_lt (Nat.mod_lt _ (by omega))
        have HLE := Lib.hid hle
        clear hle h0 t2
        obtain ⟨k21, k22⟩ := (hE.here.1.1.1.1.1.2).c2
        obtain ⟨k23, k24⟩ := (hE.here.1.1.1.1.2).c2
        go_upto_region 3 with (fail)
        clear k21 k22 k23 k24
        go_wp2_with fail
        have hc := rplus_one (c := cq) (hE.here.1.2) lq
        rw [Int.natAbs_natCast] at hc
        refine hc.mono ?_
        clear hc
        rintro e w25 ⟨Au, nu, cu, rfl, hu, hb⟩
        replace hE := hE.step hb
        clear hb
        replace hE := hE.wv hu
        clear hu
        go_upto_region 4 with (fail)
        obtain ⟨k26, k27⟩ := (hE.here.1.1.1.1.1.2).c2
        go_wp2_with fail
        have hc := rminus_w (c := cb) (d := cr) (hE.here.1.1.1.1.1.1.1.2) (hE.here.1.2) lb (by rw [Int.natAbs_natCast]; exact HLE.out)
        rw [Int.natAbs_natCast] at hc
        refine hc.mono ?_
        clear hc
        clear k26 k27
        rintro e w28 ⟨Av, nv, cv, rfl, hv, hb⟩
        replace hE := hE.step hb
        clear hb
        replace hE := hE.wv hv
        clear hv
        go_upto_region 5 with (fail)
        replace hE := hE.drew
        refine wp_region_held_drew (S := fun w' => w'.cell? ⟨w.heap.size, 0, none⟩ = some (.bool true) ∧ w'.cell? ⟨w.heap.size, 1, none⟩ = some (.slice Aa na ca) ∧ w'.cell? ⟨w.heap.size + 1, 0, none⟩ = some (.bool false) ∧ w'.cell? ⟨w.heap.size + 1, 1, none⟩ = some (.slice Ab nb cb)) (by kernel_rfl) (hE.here.1.1.1.1.1.1.1.2.j2 hE.here.1.1.1.1.1.1.2.c2) (fun hHeld => ?_)
        refine tk 0 ?_
        try simp only [PL]
        refine tk 1 ?_
        try simp only [PL]
        refine tk 2 ?_
        try simp only [PL]
        refine tk 3 ?_
        try simp only [PL]
        refine tk 4 ?_
        try simp only [PL]
        refine tk 5 ?_
        try simp only [PL]
        refine tk 7 ?_
        try simp only [PL]
        refine tk 8 ?_
        try simp only [PL]
        refine tk 9 ?_
        try simp only [PL]
        refine r1 6 (fun K hK => ?_)
        go_simp
        have hc := make_v (c := cu) true (hE.here.1.2)
        rw [Int.natAbs_natCast, E1.out] at hc
        refine hc.mono ?_
        clear hc
        rintro e w29 ⟨sx, Ax, nx, cx, rfl, hx, hb⟩
        replace hE := hE.step hb
        clear hb
        replace hE := hE.wv hx
        clear hx
        go_wp2_with fail
        refine hK.out _ _ (hE.here.1.1.1.1.1.1.1.1.2.j2 hE.here.1.1.1.1.1.1.1.2.c2) (fun hHeld => ?_)
        clear hK K
        try simp only [PL]
        refine r1 10 (fun K hK => ?_)
        go_simp
        have hc := make_v (c := cv) false (hE.here.1.2)
        rw [Int.natAbs_natCast, E2.out] at hc
        refine hc.mono ?_
        clear hc
        rintro e w30 ⟨sy, Ay, ny, cy, rfl, hy, hb⟩
        replace hE := hE.step hb
        clear hb
        replace hE := hE.wv hy
        clear hy
        go_wp2_with fail
        refine hK.out _ _ (hE.here.1.1.1.1.1.1.1.1.1.2.j2 hE.here.1.1.1.1.1.1.1.1.2.c2) (fun hHeld => ?_)
        clear hK K
        try simp only [PL]
        refine r1 11 (fun K hK => ?_)
        have hgl31 : w.heap.size ≤ w.heap.size + 1 + 1 := by omega
        obtain ⟨x31_0, x31_1⟩ := (hE.here.1.1.1.1.1.1.1.2).c2
        obtain ⟨f31_0, f31_1⟩ := hE.here.1.1.1.1.1.1.1.2.f2
        replace hE := (((((((((((((Env.again (bel2 hE.bel hgl31 (.bool sx) (.slice Ax nx cx))).wv ((hE.here.1.1.1.1.1.1.1.1.1.1.1.2).sep2 hE.here.1.1.1.1.1.1.1.2 rfl (.bool sx) (.slice Ax nx cx) rfl)).wv ((hE.here.1.1.1.1.1.1.1.1.1.1.2).sep2 hE.here.1.1.1.1.1.1.1.2 rfl (.bool sx) (.slice Ax nx cx) rfl)).blkI ((hE.here.1.1.1.1.1.1.1.1.1.2).far2 (R := w.heap.size + 1 + 1) (by omega) (.bool sx) (.slice Ax nx cx))).blkI ((hE.here.1.1.1.1.1.1.1.1.2).far2 (R := w.heap.size + 1 + 1) (by omega) (.bool sx) (.slice Ax nx cx))).blkI ((hE.here.1.1.1.1.1.1.1.2).s2 (.bool sx) (.slice Ax nx cx))).blkI ((hE.here.1.1.1.1.1.1.2).far2 (R := w.heap.size + 1 + 1) (by omega) (.bool sx) (.slice Ax nx cx))).wv ((hE.here.1.1.1.1.1.2).sep2 hE.here.1.1.1.1.1.1.1.2 rfl (.bool sx) (.slice Ax nx cx) rfl)).wv ((hE.here.1.1.1.1.2).sep2 hE.here.1.1.1.1.1.1.1.2 rfl (.bool sx) (.slice Ax nx cx) rfl)).wv ((hE.here.1.1.1.2).sep2 hE.here.1.1.1.1.1.1.1.2 rfl (.bool sx) (.slice Ax nx cx) rfl)).wv ((hE.here.1.1.2).sep2 hE.here.1.1.1.1.1.1.1.2 rfl (.bool sx) (.slice Ax nx cx) rfl)).wv ((hE.here.1.2).sep2 hE.here.1.1.1.1.1.1.1.2 rfl (.bool sx) (.slice Ax nx cx) rfl)).wv ((hE.here.2).sep2 hE.here.1.1.1.1.1.1.1.2 rfl (.bool sx) (.slice Ax nx cx) rfl))
        go_simp
        clear x31_0 x31_1 f31_0 f31_1 hgl31
        generalize ((w30.setCell ⟨w.heap.size + 1 + 1, 0, none⟩ (.bool sx)).setCell ⟨w.heap.size + 1 + 1, 1, none⟩ (.slice Ax nx cx)) = W31 at hE ⊢
        refine hK.out _ _ (hE.here.1.1.1.1.1.1.1.1.1.2.j2 hE.here.1.1.1.1.1.1.1.1.2.c2) (fun hHeld => ?_)
        clear hK K
        try simp only [PL]
        refine r1 12 (fun K hK => ?_)
        have hgl32 : w.heap.size ≤ w.heap.size + 1 + 1 + 1 := by omega
        obtain ⟨x32_0, x32_1⟩ := (hE.here.1.1.1.1.1.1.2).c2
        obtain ⟨f32_0, f32_1⟩ := hE.here.1.1.1.1.1.1.2.f2
        replace hE := (((((((((((((Env.again (bel2 hE.bel hgl32 (.bool sy) (.slice Ay ny cy))).wv ((hE.here.1.1.1.1.1.1.1.1.1.1.1.2).sep2 hE.here.1.1.1.1.1.1.2 rfl (.bool sy) (.slice Ay ny cy) rfl)).wv ((hE.here.1.1.1.1.1.1.1.1.1.1.2).sep2 hE.here.1.1.1.1.1.1.2 rfl (.bool sy) (.slice Ay ny cy) rfl)).blkI ((hE.here.1.1.1.1.1.1.1.1.1.2).far2 (R := w.heap.size + 1 + 1 + 1) (by omega) (.bool sy) (.slice Ay ny cy))).blkI ((hE.here.1.1.1.1.1.1.1.1.2).far2 (R := w.heap.size + 1 + 1 + 1) (by omega) (.bool sy) (.slice Ay ny cy))).blkI ((hE.here.1.1.1.1.1.1.1.2).far2 (R := w.heap.size + 1 + 1 + 1) (by omega) (.bool sy) (.slice Ay ny cy))).blkI ((hE.here.1.1.1.1.1.1.2).s2 (.bool sy) (.slice Ay ny cy))).wv ((hE.here.1.1.1.1.1.2).sep2 hE.here.1.1.1.1.1.1.2 rfl (.bool sy) (.slice Ay ny cy) rfl)).wv ((hE.here.1.1.1.1.2).sep2 hE.here.1.1.1.1.1.1.2 rfl (.bool sy) (.slice Ay ny cy) rfl)).wv ((hE.here.1.1.1.2).sep2 hE.here.1.1.1.1.1.1.2 rfl (.bool sy) (.slice Ay ny cy) rfl)).wv ((hE.here.1.1.2).sep2 hE.here.1.1.1.1.1.1.2 rfl (.bool sy) (.slice Ay ny cy) rfl)).wv ((hE.here.1.2).sep2 hE.here.1.1.1.1.1.1.2 rfl (.bool sy) (.slice Ay ny cy) rfl)).wv ((hE.here.2).sep2 hE.here.1.1.1.1.1.1.2 rfl (.bool sy) (.slice Ay ny cy) rfl))
        go_simp
        clear x32_0 x32_1 f32_0 f32_1 hgl32
        generalize ((W31.setCell ⟨w.heap.size + 1 + 1 + 1, 0, none⟩ (.bool sy)).setCell ⟨w.heap.size + 1 + 1 + 1, 1, none⟩ (.slice Ay ny cy)) = W32 at hE ⊢
        refine hK.out _ _ (hE.here.1.1.1.1.1.1.1.1.1.2.j2 hE.here.1.1.1.1.1.1.1.1.2.c2) (fun hHeld => ?_)
        clear hK K
        try simp only [PL]
        refine wpAnyH_done (by kernel_rfl) ?_ _
        obtain ⟨y0, y1⟩ := (hE.here.1.1.1.1.1.1.1.2).c2
        obtain ⟨y2, y3⟩ := (hE.here.1.1.1.1.1.1.2).c2
        go_wp2_with fail
        refine bodyPost_ret (v := .tuple #[.agg #[.bool sx, .slice Ax nx cx], .agg #[.bool sy, .slice Ay ny cy]]) (by simp [results, Tryz.results108, go_sem, y0, y1, y2, y3]) rfl ?_
        exact ⟨sx, Ax, nx, cx, sy, Ay, ny, cy, rfl, hE.here.1.2, hE.here.2, hE.bel⟩
    · skip
      have t1 : (false != true) = true := rfl
      have hs2 : decide (a < 0) ≠ decide (b < 0) := by rw [← S1.out, ← S2.out]; decide
      have HS := Lib.hid hs2
      clear hs2
      have hnr := (hE.here.2).len
      rw [Int.natAbs_natCast] at hnr
      have HN := Lib.hid hnr
      clear hnr
      by_cases h0 : a.natAbs % b.natAbs = 0
      · skip
        have t2 : nr = 0 := by rw [HN.out, h0]; exact ln_zero
        have t3 : decide (0 < (nr : Int)) = false := decide_eq_false (by omega)
        have t4 : decide (0 < nr) = false := decide_eq_false (by omega)
        have e1 := (floor_same a hb0 (fun h => by omega)).1
        have e2 := (floor_same a hb0 (fun h => by omega)).2
        rw [← S1.out, ← S2.out, t1] at e1
        rw [← S2.out] at e2
        have E1 := Lib.hid e1
        have E2 := Lib.hid e2
        clear e1 e2
        clear h0 t2
        obtain ⟨k33, k34⟩ := (hE.here.1.1.1.1.1.2).c2
        obtain ⟨k35, k36⟩ := (hE.here.1.1.1.1.2).c2
        go_upto_region 5 with (fail)
        clear k33 k34 k35 k36
        go_upto_region 5 with (fail)
        replace hE := hE.drew
        refine wp_region_held_drew (S := fun w' => w'.cell? ⟨w.heap.size, 0, none⟩ = some (.bool false) ∧ w'.cell? ⟨w.heap.size, 1, none⟩ = some (.slice Aa na ca) ∧ w'.cell? ⟨w.heap.size + 1, 0, none⟩ = some (.bool true) ∧ w'.cell? ⟨w.heap.size + 1, 1, none⟩ = some (.slice Ab nb cb)) (by kernel_rfl) (hE.here.1.1.1.1.1.2.j2 hE.here.1.1.1.1.2.c2) (fun hHeld => ?_)
        refine tk 0 ?_
        try simp only [PL]
        refine tk 1 ?_
        try simp only [PL]
        refine tk 2 ?_
        try simp only [PL]
        refine tk 3 ?_
        try simp only [PL]
        refine tk 4 ?_
        try simp only [PL]
        refine tk 5 ?_
        try simp only [PL]
        refine tk 7 ?_
        try simp only [PL]
        refine tk 8 ?_
        try simp only [PL]
        refine tk 9 ?_
        try simp only [PL]
        refine r1 6 (fun K hK => ?_)
        go_simp
        have hc := make_v (c := cq) true (hE.here.1.2)
        rw [Int.natAbs_natCast, E1.out] at hc
        refine hc.mono ?_
        clear hc
        rintro e w37 ⟨sx, Ax, nx, cx, rfl, hx, hb⟩
        replace hE := hE.step hb
        clear hb
        replace hE := hE.wv hx
        clear hx
        go_wp2_with fail
        refine hK.out _ _ (hE.here.1.1.1.1.1.1.2.j2 hE.here.1.1.1.1.1.2.c2) (fun hHeld => ?_)
        clear hK K
        try simp only [PL]
        refine r1 10 (fun K hK => ?_)
        go_simp
        have hc := make_v (c := cr) true (hE.here.1.2)
        rw [Int.natAbs_natCast, E2.out] at hc
        refine hc.mono ?_
        clear hc
        rintro e w38 ⟨sy, Ay, ny, cy, rfl, hy, hb⟩
        replace hE := hE.step hb
        clear hb
        replace hE := hE.wv hy
        clear hy
        go_wp2_with fail
        refine hK.out _ _ (hE.here.1.1.1.1.1.1.1.2.j2 hE.here.1.1.1.1.1.1.2.c2) (fun hHeld => ?_)
        clear hK K
        try simp only [PL]
        refine r1 11 (fun K hK => ?_)
        have hgl39 : w.heap.size ≤ w.heap.size + 1 + 1 := by omega
        obtain ⟨x39_0, x39_1⟩ := (hE.here.1.1.1.1.1.2).c2
        obtain ⟨f39_0, f39_1⟩ := hE.here.1.1.1.1.1.2.f2
        replace hE := (((((((((((Env.again (bel2 hE.bel hgl39 (.bool sx) (.slice Ax nx cx))).wv ((hE.here.1.1.1.1.1.1.1.1.1.2).sep2 hE.here.1.1.1.1.1.2 rfl (.bool sx) (.slice Ax nx cx) rfl)).wv ((hE.here.1.1.1.1.1.1.1.1.2).sep2 hE.here.1.1.1.1.1.2 rfl (.bool sx) (.slice Ax nx cx) rfl)).blkI ((hE.here.1.1.1.1.1.1.1.2).far2 (R := w.heap.size + 1 + 1) (by omega) (.bool sx) (.slice Ax nx cx))).blkI ((hE.here.1.1.1.1.1.1.2).far2 (R := w.heap.size + 1 + 1) (by omega) (.bool sx) (.slice Ax nx cx))).blkI ((hE.here.1.1.1.1.1.2).s2 (.bool sx) (.slice Ax nx cx))).blkI ((hE.here.1.1.1.1.2).far2 (R := w.heap.size + 1 + 1) (by omega) (.bool sx) (.slice Ax nx cx))).wv ((hE.here.1.1.1.2).sep2 hE.here.1.1.1.1.1.2 rfl (.bool sx) (.slice Ax nx cx) rfl)).wv ((hE.here.1.1.2).sep2 hE.here.1.1.1.1.1.2 rfl (.bool sx) (.slice Ax nx cx) rfl)).wv ((hE.here.1.2).sep2 hE.here.1.1.1.1.1.2 rfl (.bool sx) (.slice Ax nx cx) rfl)).wv ((hE.here.2).sep2 hE.here.1.1.1.1.1.2 rfl (.bool sx) (.slice Ax nx cx) rfl))
        go_simp
        clear x39_0 x39_1 f39_0 f39_1 hgl39
        generalize ((w38.setCell ⟨w.heap.size + 1 + 1, 0, none⟩ (.bool sx)).setCell ⟨w.heap.size + 1 + 1, 1, none⟩ (.slice Ax nx cx)) = W39 at hE ⊢
        refine hK.out _ _ (hE.here.1.1.1.1.1.1.1.2.j2 hE.here.1.1.1.1.1.1.2.c2) (fun hHeld => ?_)
        clear hK K
        try simp only [PL]
        refine r1 12 (fun K hK => ?_)
        have hgl40 : w.heap.size ≤ w.heap.size + 1 + 1 + 1 := by omega
        obtain ⟨x40_0, x40_1⟩ := (hE.here.1.1.1.1.2).c2
        obtain ⟨f40_0, f40_1⟩ := hE.here.1.1.1.1.2.f2
        replace hE := (((((((((((Env.again (bel2 hE.bel hgl40 (.bool sy) (.slice Ay ny cy))).wv ((hE.here.1.1.1.1.1.1.1.1.1.2).sep2 hE.here.1.1.1.1.2 rfl (.bool sy) (.slice Ay ny cy) rfl)).wv ((hE.here.1.1.1.1.1.1.1.1.2).sep2 hE.here.1.1.1.1.2 rfl (.bool sy) (.slice Ay ny cy) rfl)).blkI ((hE.here.1.1.1.1.1.1.1.2).far2 (R := w.heap.size + 1 + 1 + 1) (by omega) (.bool sy) (.slice Ay ny cy))).blkI ((hE.here.1.1.1.1.1.1.2).far2 (R := w.heap.size + 1 + 1 + 1) (by omega) (.bool sy) (.slice Ay ny cy))).blkI ((hE.here.1.1.1.1.1.2).far2 (R := w.heap.size + 1 + 1 + 1) (by omega) (.bool sy) (.slice Ay ny cy))).blkI ((hE.here.1.1.1.1.2).s2 (.bool sy) (.slice Ay ny cy))).wv ((hE.here.1.1.1.2).sep2 hE.here.1.1.1.1.2 rfl (.bool sy) (.slice Ay ny cy) rfl)).wv ((hE.here.1.1.2).sep2 hE.here.1.1.1.1.2 rfl (.bool sy) (.slice Ay ny cy) rfl)).wv ((hE.here.1.2).sep2 hE.here.1.1.1.1.2 rfl (.bool sy) (.slice Ay ny cy) rfl)).wv ((hE.here.2).sep2 hE.here.1.1.1.1.2 rfl (.bool sy) (.slice Ay ny cy) rfl))
        go_simp
        clear x40_0 x40_1 f40_0 f40_1 hgl40
        generalize ((W39.setCell ⟨w.heap.size + 1 + 1 + 1, 0, none⟩ (.bool sy)).setCell ⟨w.heap.size + 1 + 1 + 1, 1, none⟩ (.slice Ay ny cy)) = W40 at hE ⊢
        refine hK.out _ _ (hE.here.1.1.1.1.1.1.1.2.j2 hE.here.1.1.1.1.1.1.2.c2) (fun hHeld => ?_)
        clear hK K
        try simp only [PL]
        refine wpAnyH_done (by kernel_rfl) ?_ _
        obtain ⟨y0, y1⟩ := (hE.here.1.1.1.1.1.2).c2
        obtain ⟨y2, y3⟩ := (hE.here.1.1.1.1.2).c2
        go_wp2_with fail
        refine bodyPost_ret (v := .tuple #[.agg #[.bool sx, .slice Ax nx cx], .agg #[.bool sy, .slice Ay ny cy]]) (by simp [results, Tryz.results108, go_sem, y0, y1, y2, y3]) rfl ?_
        exact ⟨sx, Ax, nx, cx, sy, Ay, ny, cy, rfl, hE.here.1.2, hE.here.2, hE.bel⟩
      · skip
        have t2 : 0 < nr := by rw [HN.out]; exact (ln_pos b16_two).2 (by omega)
        have t3 : decide (0 < (nr : Int)) = true := decide_eq_true (by omega)
        have t4 : decide (0 < nr) = true := decide_eq_true t2
        have e1 := (floor_up a hb0 HS.out (by omega)).1
        have e2 := (floor_up a hb0 HS.out (by omega)).2
        rw [← S1.out, ← S2.out, t1] at e1
        rw [← S2.out] at e2
        have E1 := Lib.hid e1
        have E2 := Lib.hid e2
        clear e1 e2
        have lq : nq ≤ 900000 := by
          rw [(hE.here.1.2).len, Int.natAbs_natCast]
          have h1 := ha.len
          exact Nat.le_trans (ln_mono b16_two (Nat.div_le_self _ _)) (by omega)
        have hle : a.natAbs % b.natAbs ≤ b.natAbs := Nat.le_of_lt (Nat.mod_lt _ (by omega))
        have HLE := Lib.hid hle
        clear hle h0 t2
        obtain ⟨k41, k42⟩ := (hE.here.1.1.1.1.1.2).c2
        obtain ⟨k43, k44⟩ := (hE.here.1.1.1.1.2).c2
        go_upto_region 3 with (fail)
        clear k41 k42 k43 k44
        go_wp2_with fail
        have hc := rplus_one (c := cq) (hE.here.1.2) lq
        rw [Int.natAbs_natCast] at hc
        refine hc.mono ?_
        clear hc
        rintro e w45 ⟨Au, nu, cu, rfl, hu, hb⟩
        replace hE := hE.step hb
        clear hb
        replace hE := hE.wv hu
        clear hu
        go_upto_region 4 with (fail)
        obtain ⟨k46, k47⟩ := (hE.here.1.1.1.1.1.2).c2
        go_wp2_with fail
        have hc := rminus_w (c := cb) (d := cr) (hE.here.1.1.1.1.1.1.1.2) (hE.here.1.2) lb (by rw [Int.natAbs_natCast]; exact HLE.out)
        rw [Int.natAbs_natCast] at hc
        refine hc.mono ?_
        clear hc
        clear k46 k47
        rintro e w48 ⟨Av, nv, cv, rfl, hv, hb⟩
        replace hE := hE.step hb
        clear hb
        replace hE := hE.wv hv
        clear hv
        go_upto_region 5 with (fail)
        replace hE := hE.drew
        refine wp_region_held_drew (S := fun w' => w'.cell? ⟨w.heap.size, 0, none⟩ = some (.bool false) ∧ w'.cell? ⟨w.heap.size, 1, none⟩ = some (.slice Aa na ca) ∧ w'.cell? ⟨w.heap.size + 1, 0, none⟩ = some (.bool true) ∧ w'.cell? ⟨w.heap.size + 1, 1, none⟩ = some (.slice Ab nb cb)) (by kernel_rfl) (hE.here.1.1.1.1.1.1.1.2.j2 hE.here.1.1.1.1.1.1.2.c2) (fun hHeld => ?_)
        refine tk 0 ?_
        try simp only [PL]
        refine tk 1 ?_
        try simp only [PL]
        refine tk 2 ?_
        try simp only [PL]
        refine tk 3 ?_
        try simp only [PL]
        refine tk 4 ?_
        try simp only [PL]
        refine tk 5 ?_
        try simp only [PL]
        refine tk 7 ?_
        try simp only [PL]
        refine tk 8 ?_
        try simp only [PL]
        refine tk 9 ?_
        try simp only [PL]
        refine r1 6 (fun K hK => ?_)
        go_simp
        have hc := make_v (c := cu) true (hE.here.1.2)
        rw [Int.natAbs_natCast, E1.out] at hc
        refine hc.mono ?_
        clear hc
        rintro e w49 ⟨sx, Ax, nx, cx, rfl, hx, hb⟩
        replace hE := hE.step hb
        clear hb
        replace hE := hE.wv hx
        clear hx
        go_wp2_with fail
        refine hK.out _ _ (hE.here.1.1.1.1.1.1.1.1.2.j2 hE.here.1.1.1.1.1.1.1.2.c2) (fun hHeld => ?_)
        clear hK K
        try simp only [PL]
        refine r1 10 (fun K hK => ?_)
        go_simp
        have hc := make_v (c := cv) true (hE.here.1.2)
        rw [Int.natAbs_natCast, E2.out] at hc
        refine hc.mono ?_
        clear hc
        rintro e w50 ⟨sy, Ay, ny, cy, rfl, hy, hb⟩
        replace hE := hE.step hb
        clear hb
        replace hE := hE.wv hy
        clear hy
        go_wp2_with fail
        refine hK.out _ _ (hE.here.1.1.1.1.1.1.1.1.1.2.j2 hE.here.1.1.1.1.1.1.1.1.2.c2) (fun hHeld => ?_)
        clear hK K
        try simp only [PL]
        refine r1 11 (fun K hK => ?_)
        have hgl51 : w.heap.size ≤ w.heap.size + 1 + 1 := by omega
        obtain ⟨x51_0, x51_1⟩ := (hE.here.1.1.1.1.1.1.1.2).c2
        obtain ⟨f51_0, f51_1⟩ := hE.here.1.1.1.1.1.1.1.2.f2
        replace hE := (((((((((((((Env.again (bel2 hE.bel hgl51 (.bool sx) (.slice Ax nx cx))).wv ((hE.here.1.1.1.1.1.1.1.1.1.1.1.2).sep2 hE.here.1.1.1.1.1.1.1.2 rfl (.bool sx) (.slice Ax nx cx) rfl)).wv ((hE.here.1.1.1.1.1.1.1.1.1.1.2).sep2 hE.here.1.1.1.1.1.1.1.2 rfl (.bool sx) (.slice Ax nx cx) rfl)).blkI ((hE.here.1.1.1.1.1.1.1.1.1.2).far2 (R := w.heap.size + 1 + 1) (by omega) (.bool sx) (.slice Ax nx cx))).blkI ((hE.here.1.1.1.1.1.1.1.1.2).far2 (R := w.heap.size + 1 + 1) (by omega) (.bool sx) (.slice Ax nx cx))).blkI ((hE.here.1.1.1.1.1.1.1.2).s2 (.bool sx) (.slice Ax nx cx))).blkI ((hE.here.1.1.1.1.1.1.2).far2 (R := w.heap.size + 1 + 1) (by omega) (.bool sx) (.slice Ax nx cx))).wv ((hE.here.1.1.1.1.1.2).sep2 hE.here.1.1.1.1.1.1.1.2 rfl (.bool sx) (.slice Ax nx cx) rfl)).wv ((hE.here.1.1.1.1.2).sep2 hE.here.1.1.1.1.1.1.1.2 rfl (.bool sx) (.slice Ax nx cx) rfl)).wv ((hE.here.1.1.1.2).sep2 hE.here.1.1.1.1.1.1.1.2 rfl (.bool sx) (.slice Ax nx cx) rfl)).wv ((hE.here.1.1.2).sep2 hE.here.1.1.1.1.1.1.1.2 rfl (.bool sx) (.slice Ax nx cx) rfl)).wv ((hE.here.1.2).sep2 hE.here.1.1.1.1.1.1.1.2 rfl (.bool sx) (.slice Ax nx cx) rfl)).wv ((hE.here.2).sep2 hE.here.1.1.1.1.1.1.1.2 rfl (.bool sx) (.slice Ax nx cx) rfl))
        go_simp
        clear x51_0 x51_1 f51_0 f51_1 hgl51
        generalize ((w50.setCell ⟨w.heap.size + 1 + 1, 0, none⟩ (.bool sx)).setCell ⟨w.heap.size + 1 + 1, 1, none⟩ (.slice Ax nx cx)) = W51 at hE ⊢
        refine hK.out _ _ (hE.here.1.1.1.1.1.1.1.1.1.2.j2 hE.here.1.1.1.1.1.1.1.1.2.c2) (fun hHeld => ?_)
        clear hK K
        try simp only [PL]
        refine r1 12 (fun K hK => ?_)
        have hgl52 : w.heap.size ≤ w.heap.size + 1 + 1 + 1 := by omega
        obtain ⟨x52_0, x52_1⟩ := (hE.here.1.1.1.1.1.1.2).c2
        obtain ⟨f52_0, f52_1⟩ := hE.here.1.1.1.1.1.1.2.f2
        replace hE := (((((((((((((Env.again (bel2 hE.bel hgl52 (.bool sy) (.slice Ay ny cy))).wv ((hE.here.1.1.1.1.1.1.1.1.1.1.1.2).sep2 hE.here.1.1.1.1.1.1.2 rfl (.bool sy) (.slice Ay ny cy) rfl)).wv ((hE.here.1.1.1.1.1.1.1.1.1.1.2).sep2 hE.here.1.1.1.1.1.1.2 rfl (.bool sy) (.slice Ay ny cy) rfl)).blkI ((hE.here.1.1.1.1.1.1.1.1.1.2).far2 (R := w.heap.size + 1 + 1 + 1) (by omega) (.bool sy) (.slice Ay ny cy))).blkI ((hE.here.1.1.1.1.1.1.1.1.2).far2 (R := w.heap.size + 1 + 1 + 1) (by omega) (.bool sy) (.slice Ay ny cy))).blkI ((hE.here.1.1.1.1.1.1.1.2).far2 (R := w.heap.size + 1 + 1 + 1) (by omega) (.bool sy) (.slice Ay ny cy))).blkI ((hE.here.1.1.1.1.1.1.2).s2 (.bool sy) (.slice Ay ny cy))).wv ((hE.here.1.1.1.1.1.2).sep2 hE.here.1.1.1.1.1.1.2 rfl (.bool sy) (.slice Ay ny cy) rfl)).wv ((hE.here.1.1.1.1.2).sep2 hE.here.1.1.1.1.1.1.2 rfl (.bool sy) (.slice Ay ny cy) rfl)).wv ((hE.here.1.1.1.2).sep2 hE.here.1.1.1.1.1.1.2 rfl (.bool sy) (.slice Ay ny cy) rfl)).wv ((hE.here.1.1.2).sep2 hE.here.1.1.1.1.1.1.2 rfl (.bool sy) (.slice Ay ny cy) rfl)).wv ((hE.here.1.2).sep2 hE.here.1.1.1.1.1.1.2 rfl (.bool sy) (.slice Ay ny cy) rfl)).wv ((hE.here.2).sep2 hE.here.1.1.1.1.1.1.2 rfl (.bool sy) (.slice Ay ny cy) rfl))
        go_simp
        clear x52_0 x52_1 f52_0 f52_1 hgl52
        generalize ((W51.setCell ⟨w.heap.size + 1 + 1 + 1, 0, none⟩ (.bool sy)).setCell ⟨w.heap.size + 1 + 1 + 1, 1, none⟩ (.slice Ay ny cy)) = W52 at hE ⊢
        refine hK.out _ _ (hE.here.1.1.1.1.1.1.1.1.1.2.j2 hE.here.1.1.1.1.1.1.1.1.2.c2) (fun hHeld => ?_)
        clear hK K
        try simp only [PL]
        refine wpAnyH_done (by kernel_rfl) ?_ _
        obtain ⟨y0, y1⟩ := (hE.here.1.1.1.1.1.1.1.2).c2
        obtain ⟨y2, y3⟩ := (hE.here.1.1.1.1.1.1.2).c2
        go_wp2_with fail
        refine bodyPost_ret (v := .tuple #[.agg #[.bool sx, .slice Ax nx cx], .agg #[.bool sy, .slice Ay ny cy]]) (by simp [results, Tryz.results108, go_sem, y0, y1, y2, y3]) rfl ?_
        exact ⟨sx, Ax, nx, cx, sy, Ay, ny, cy, rfl, hE.here.1.2, hE.here.2, hE.bel⟩
end Go.Proofs.YtifikcemcflgjaaGreat
