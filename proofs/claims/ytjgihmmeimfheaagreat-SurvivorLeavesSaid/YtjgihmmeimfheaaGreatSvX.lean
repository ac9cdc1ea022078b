/-
  The examples of layer 23, in plain words.
-/
import Derived.Test.YtjgihmmeimfheaaGreatSvP
namespace Go.Proofs.YtjgihmmeimfheaaGreat

theorem ex_lv50 : Lv [(1, 100), (1, 10), (2, 100)] 50 (Rat.divInt 40 3) := by
 refine ⟨by decide +kernel, by decide +kernel, fun s h1 h2 => ?_⟩
 have h3 := mn_l (s * 1) 100
 have h4 := mn_r (s * 1) 10
 have h5 := mn_l (s * 2) 100
 have e : Rat.divInt 40 3 = 40 / 3 := by decide +kernel
 rw [e] at h1
 show mn (s * 1) 100 + (mn (s * 1) 10 + (mn (s * 2) 100 + 0)) < 50
 grind
theorem ex_lv210 : Lv [(1, 100), (1, 10), (2, 100)] 210 100 := by
 refine ⟨by decide +kernel, by decide +kernel, fun s h1 h2 => ?_⟩
 have h3 := mn_l (s * 1) 100
 have h4 := mn_r (s * 1) 10
 have h5 := mn_r (s * 2) 100
 show mn (s * 1) 100 + (mn (s * 1) 10 + (mn (s * 2) 100 + 0)) < 210
 grind
theorem ex_lv2 : Lv [(1, 9), (1, 9), (1, 9)] 2 (Rat.divInt 2 3) := by
 refine ⟨by decide +kernel, by decide +kernel, fun s h1 h2 => ?_⟩
 have h3 := mn_l (s * 1) 9
 have e : Rat.divInt 2 3 = 2 / 3 := by decide +kernel
 rw [e] at h1
 show mn (s * 1) 9 + (mn (s * 1) 9 + (mn (s * 1) 9 + 0)) < 2
 grind
def ExA (w : Nat → Rat) (K : Nat → Int) : Prop := (w 0 = 1 ∧ w 1 = 1 ∧ w 2 = 2) ∧ K 0 = 100 ∧ K 1 = 10 ∧ K 2 = 100
def ExB (w : Nat → Rat) (K : Nat → Int) : Prop := (w 0 = 1 ∧ w 1 = 1 ∧ w 2 = 1) ∧ K 0 = 9 ∧ K 1 = 9 ∧ K 2 = 9
theorem prs3 (w : Nat → Rat) (K : Nat → Int) : prs w K (List.range 3) = [(w 0, ((K 0 : Int) : Rat)), (w 1, ((K 1 : Int) : Rat)), (w 2, ((K 2 : Int) : Rat))] := rfl
section
variable {w : Nat → Rat} {K : Nat → Int}
theorem ExA.prs (h : ExA w K) : Go.Proofs.YtjgihmmeimfheaaGreat.prs w K (List.range 3) = [(1, 100), (1, 10), (2, 100)] := by
 obtain ⟨⟨h1, h2, h3⟩, h4, h5, h6⟩ := h
 rw [prs3, h1, h2, h3, h4, h5, h6]
 rfl
theorem ExB.prs (h : ExB w K) : Go.Proofs.YtjgihmmeimfheaaGreat.prs w K (List.range 3) = [(1, 9), (1, 9), (1, 9)] := by
 obtain ⟨⟨h1, h2, h3⟩, h4, h5, h6⟩ := h
 rw [prs3, h1, h2, h3, h4, h5, h6]
 rfl
theorem ExA.tot (h : ExA w K) (a : Int) : totZ a w K 3 = min a 210 := by
 obtain ⟨⟨h1, h2, h3⟩, h4, h5, h6⟩ := h
 have e : capS w K 3 = 210 := by
  simp only [capS, h1, h2, h3, h4, h5, h6]
  decide +kernel
 unfold totZ
 rw [e]
theorem ExB.tot (h : ExB w K) (a : Int) : totZ a w K 3 = min a 27 := by
 obtain ⟨⟨h1, h2, h3⟩, h4, h5, h6⟩ := h
 have e : capS w K 3 = 27 := by
  simp only [capS, h1, h2, h3, h4, h5, h6]
  decide +kernel
 unfold totZ
 rw [e]
variable {t : Rat} {p : Nat → Int}
theorem ExA.t50 (h : ExA w K) (hl : Lv (Go.Proofs.YtjgihmmeimfheaaGreat.prs w K (List.range 3)) ((totZ 50 w K 3 : Int) : Rat) t) : t = Rat.divInt 40 3 := by
 rw [h.prs, h.tot] at hl
 exact hl.uniq ex_lv50
theorem ExA.t500 (h : ExA w K) (hl : Lv (Go.Proofs.YtjgihmmeimfheaaGreat.prs w K (List.range 3)) ((totZ 500 w K 3 : Int) : Rat) t) : t = 100 := by
 rw [h.prs, h.tot] at hl
 exact hl.uniq ex_lv210
theorem ExB.t2 (h : ExB w K) (hl : Lv (Go.Proofs.YtjgihmmeimfheaaGreat.prs w K (List.range 3)) ((totZ 2 w K 3 : Int) : Rat) t) : t = Rat.divInt 2 3 := by
 rw [h.prs, h.tot] at hl
 exact hl.uniq ex_lv2
theorem ExA.x50 (h : ExA w K) : xq (Rat.divInt 40 3) w K 0 = Rat.divInt 40 3 ∧ xq (Rat.divInt 40 3) w K 1 = 10 ∧ xq (Rat.divInt 40 3) w K 2 = Rat.divInt 80 3 := by
 obtain ⟨⟨h1, h2, h3⟩, h4, h5, h6⟩ := h
 unfold xq part
 rw [h1, h2, h3, h4, h5, h6]
 decide +kernel
theorem ExA.x500 (h : ExA w K) : xq 100 w K 0 = 100 ∧ xq 100 w K 1 = 10 ∧ xq 100 w K 2 = 100 := by
 obtain ⟨⟨h1, h2, h3⟩, h4, h5, h6⟩ := h
 unfold xq part
 rw [h1, h2, h3, h4, h5, h6]
 decide +kernel
theorem ExB.x2 (h : ExB w K) : xq (Rat.divInt 2 3) w K 0 = Rat.divInt 2 3 ∧ xq (Rat.divInt 2 3) w K 1 = Rat.divInt 2 3 ∧ xq (Rat.divInt 2 3) w K 2 = Rat.divInt 2 3 := by
 obtain ⟨⟨h1, h2, h3⟩, h4, h5, h6⟩ := h
 unfold xq part
 rw [h1, h2, h3, h4, h5, h6]
 decide +kernel
theorem ExA.p50 (h : ExA w K) (hl : Lv (Go.Proofs.YtjgihmmeimfheaaGreat.prs w K (List.range 3)) ((totZ 50 w K 3 : Int) : Rat) t) (hq : PartsQ t w K 3 (totZ 50 w K 3) p) : p 0 = 13 ∧ p 1 = 10 ∧ p 2 = 27 := by
 have hs := parts_sum hl hq
 have h0 := parts_one hl hq (k := 0) (by decide)
 have h1 := parts_one hl hq (k := 1) (by decide)
 have h2 := parts_one hl hq (k := 2) (by decide)
 have hf := parts_fair hq (i := 0) (k := 2) (by decide) (by decide)
 have ht := h.t50 hl
 subst ht
 obtain ⟨x0, x1, x2⟩ := h.x50
 unfold Ord at hf
 unfold lq at h0 h1 h2 hf
 rw [x0] at h0 hf
 rw [x1] at h1
 rw [x2] at h2 hf
 rw [h.tot] at hs
 have f0 : floorQ (Rat.divInt 40 3) = 13 := by decide +kernel
 have f1 : floorQ 10 = 10 := by decide +kernel
 have f2 : floorQ (Rat.divInt 80 3) = 26 := by decide +kernel
 rw [f0] at h0 hf
 rw [f1] at h1
 rw [f2] at h2 hf
 have hs2 : 0 + p 0 + p 1 + p 2 = 50 := hs
 have n1 : ¬ (0 : Rat) < 10 - ((10 : Int) : Rat) := by decide +kernel
 have n2 : ¬ (Rat.divInt 80 3 - ((26 : Int) : Rat) < Rat.divInt 40 3 - ((13 : Int) : Rat) ∨ Rat.divInt 40 3 - ((13 : Int) : Rat) = Rat.divInt 80 3 - ((26 : Int) : Rat) ∧ 0 < 2) := by decide +kernel
 have e1 : p 1 = 10 := h1.elim id (fun h => absurd h.2 n1)
 have e2 : ¬ (13 < p 0 ∧ ¬ 26 < p 2) := fun h => n2 (hf h.1 h.2)
 omega
theorem ExA.p500 (h : ExA w K) (hl : Lv (Go.Proofs.YtjgihmmeimfheaaGreat.prs w K (List.range 3)) ((totZ 500 w K 3 : Int) : Rat) t) (hq : PartsQ t w K 3 (totZ 500 w K 3) p) : p 0 = 100 ∧ p 1 = 10 ∧ p 2 = 100 := by
 have h0 := parts_one hl hq (k := 0) (by decide)
 have h1 := parts_one hl hq (k := 1) (by decide)
 have h2 := parts_one hl hq (k := 2) (by decide)
 have ht := h.t500 hl
 subst ht
 obtain ⟨x0, x1, x2⟩ := h.x500
 unfold lq at h0 h1 h2
 rw [x0] at h0
 rw [x1] at h1
 rw [x2] at h2
 have f0 : floorQ 100 = 100 := by decide +kernel
 have f1 : floorQ 10 = 10 := by decide +kernel
 rw [f0] at h0 h2
 rw [f1] at h1
 have n1 : ¬ (0 : Rat) < 10 - ((10 : Int) : Rat) := by decide +kernel
 have n0 : ¬ (0 : Rat) < 100 - ((100 : Int) : Rat) := by decide +kernel
 exact ⟨h0.elim id (fun h => absurd h.2 n0), h1.elim id (fun h => absurd h.2 n1), h2.elim id (fun h => absurd h.2 n0)⟩
theorem ExB.p2 (h : ExB w K) (hl : Lv (Go.Proofs.YtjgihmmeimfheaaGreat.prs w K (List.range 3)) ((totZ 2 w K 3 : Int) : Rat) t) (hq : PartsQ t w K 3 (totZ 2 w K 3) p) : p 0 = 1 ∧ p 1 = 1 ∧ p 2 = 0 := by
 have hs := parts_sum hl hq
 have h0 := parts_one hl hq (k := 0) (by decide)
 have h1 := parts_one hl hq (k := 1) (by decide)
 have h2 := parts_one hl hq (k := 2) (by decide)
 have g0 := parts_fair hq (i := 2) (k := 0) (by decide) (by decide)
 have g1 := parts_fair hq (i := 2) (k := 1) (by decide) (by decide)
 have ht := h.t2 hl
 subst ht
 obtain ⟨x0, x1, x2⟩ := h.x2
 unfold Ord at g0 g1
 unfold lq at h0 h1 h2 g0 g1
 rw [x0] at h0 g0
 rw [x1] at h1 g1
 rw [x2] at h2 g0 g1
 rw [h.tot] at hs
 have f0 : floorQ (Rat.divInt 2 3) = 0 := by decide +kernel
 rw [f0] at h0 h1 h2 g0 g1
 have hs2 : 0 + p 0 + p 1 + p 2 = 2 := hs
 have n0 : ¬ (Rat.divInt 2 3 - ((0 : Int) : Rat) < Rat.divInt 2 3 - ((0 : Int) : Rat) ∨ Rat.divInt 2 3 - ((0 : Int) : Rat) = Rat.divInt 2 3 - ((0 : Int) : Rat) ∧ 2 < 0) := by decide +kernel
 have n1 : ¬ (Rat.divInt 2 3 - ((0 : Int) : Rat) < Rat.divInt 2 3 - ((0 : Int) : Rat) ∨ Rat.divInt 2 3 - ((0 : Int) : Rat) = Rat.divInt 2 3 - ((0 : Int) : Rat) ∧ 2 < 1) := by decide +kernel
 have e0 : ¬ (0 < p 2 ∧ ¬ 0 < p 0) := fun h => n0 (g0 h.1 h.2)
 have e1 : ¬ (0 < p 2 ∧ ¬ 0 < p 1) := fun h => n1 (g1 h.1 h.2)
 omega
end
end Go.Proofs.YtjgihmmeimfheaaGreat
