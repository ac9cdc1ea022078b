/-
  Several texts in one: The walks of frac.Cmp and of the two functions Same. The walks of the reference's one, Lowest and Quick. Lengths of a fraction and of its opposite. The walks of frac.Make, Div, Neg, Floor and Ceil. The walks of the functions that frac.upwards returns: whether rounding goes up. The walks of frac.power and Pow. The walks of frac.Pow. The walk of frac.Int. The walks of the laws' helpers over fractions: quick, is, sum, product, less, over, equal. The laws' short and usable of layer 02. Lengths of sums and products; usable at one, two and three fractions. The order of fractions, in plain words. Floors and ceilings of fractions, in plain words.
-/
import Derived.Test.YtjgihmmeimfheaaGreatK3
import Derived.Test.YtjgihmmeimfheaaGreatK8
import Derived.Test.YtjgihmmeimfheaaGreatK11
import Derived.Deep.CutRange
import Derived.Lib.Zigzag
set_option linter.unusedSimpArgs false
set_option maxRecDepth 100000
set_option maxHeartbeats 4000000
namespace Go.Proofs.YtjgihmmeimfheaaGreat
section
open Go.RowKit

def cmpQ (a b : Rat) : Int := cmpZ (a.num * (b.den : Int)) (b.num * (a.den : Int))
theorem fcmp_v {a b : Rat} {sa ta sb tb : Bool} {Aa Ba Ab Bb : Option Addr} {na ca ma da nb cb mb db : Nat} {w : World} (ha : FV w a sa Aa na ta Ba ma) (hb : FV w b sb Ab nb tb Bb mb) (la : fl a ≤ 256) (lb : fl b ≤ 256) :
  Calls Tryz.prog 16 #[.agg #[.bool sa, .slice Aa na ca, .bool ta, .slice Ba ma da], .agg #[.bool sb, .slice Ab nb cb, .bool tb, .slice Bb mb db]] w (fun e w' => e = .returned (.int .i64 (cmpQ a b)) ∧ Below w.heap.size w w') := by
 have hE := ((((Env.start w).fv ha).fv hb).blk 29 #[.bool sa, .slice Aa na ca, .bool ta, .slice Ba ma da] (g := w.heap.size) rfl).blk 29 #[.bool sb, .slice Ab nb cb, .bool tb, .slice Bb mb db] (g := w.heap.size + 1) (by simp)
 obtain ⟨W0, hW0⟩ : ∃ W0, W0 = ((w.alloc (.cells #[.bool sa, .slice Aa na ca, .bool ta, .slice Ba ma da] 29)).alloc (.cells #[.bool sb, .slice Ab nb cb, .bool tb, .slice Bb mb db] 29)) := ⟨_, rfl⟩
 rw [← hW0] at hE;have HW0 := Lib.hid hW0;clear hW0
 go_enter Tryz.func16, Tryz.ntmps16
 go_upto_region 1 with (fail)
 rw [← HW0.out];obtain ⟨k1, k2, k3, k4⟩ := (hE.here.1.2).c4;obtain ⟨k5, k6, k7, k8⟩ := (hE.here.2).c4;go_wp2_with fail
 have hc := fallValid_v (c := ca) (d := da) (c2 := cb) (d2 := db) hE.h3 hE.h2 la lb;refine hc.mono ?_;clear hc;clear k1 k2 k3 k4 k5 k6 k7 k8
 rintro e w9 ⟨rfl, hb⟩
 replace hE := hE.step hb;clear hb
 go_upto_region 3 with (fail)
 obtain ⟨qa1, qa2⟩ := fl_le.1 la;obtain ⟨qb1, qb2⟩ := fl_le.1 lb;obtain ⟨ha1, ha2⟩ := (hE.h3).ln la;obtain ⟨hb1, hb2⟩ := (hE.h2).ln lb
 have qa2 : ln b16 ((a.den : Nat) : Int).natAbs ≤ 256 := by rw [Int.natAbs_natCast]; exact qa2
 have qb2 : ln b16 ((b.den : Nat) : Int).natAbs ≤ 256 := by rw [Int.natAbs_natCast]; exact qb2
 obtain ⟨v, hv⟩ : ∃ v, v = cmpZ (a.num * (b.den : Int)) (b.num * (a.den : Int)) := ⟨_, rfl⟩
 have HV := Lib.hid hv;clear hv;replace hE := hE.drew;refine wp_region_held_drew (S := fun w' => w'.cell? ⟨w.heap.size, 0, none⟩ = some (.bool sa) ∧ w'.cell? ⟨w.heap.size, 1, none⟩ = some (.slice Aa na ca) ∧ w'.cell? ⟨w.heap.size, 2, none⟩ = some (.bool ta) ∧ w'.cell? ⟨w.heap.size, 3, none⟩ = some (.slice Ba ma da) ∧ w'.cell? ⟨w.heap.size + 1, 0, none⟩ = some (.bool sb) ∧ w'.cell? ⟨w.heap.size + 1, 1, none⟩ = some (.slice Ab nb cb) ∧ w'.cell? ⟨w.heap.size + 1, 2, none⟩ = some (.bool tb) ∧ w'.cell? ⟨w.heap.size + 1, 3, none⟩ = some (.slice Bb mb db)) (by kernel_rfl) (hE.here.1.2.j4 hE.here.2.c4) (fun hHeld => ?_);refine tk 0 ?_;refine tk 1 ?_;refine tk 2 ?_;refine tk 3 ?_;refine tk 5 ?_;refine tk 6 ?_;refine tk 7 ?_;refine tk 8 ?_;refine r1 4 (fun K hK => ?_);go_simp;have hc := ftimes_v (ca := ca) (cb := db) (hE.h3).1 (hE.h2).2 (Nat.le_trans ha1 (by decide)) (Nat.le_trans hb2 (by decide)) (Nat.le_trans (ln_mulZ (m := 256) (n := 256) qa1 qb2) (by decide));refine hc.mono ?_;clear hc
 rintro e w10 ⟨sx, Ax, nx, cx, rfl, hx, hb⟩
 replace hE := hE.step hb;clear hb;replace hE := hE.wv hx;clear hx
 have lx : nx ≤ 512 := by rw [(hE.here.2).len]; exact (ln_mulZ (m := 256) (n := 256) qa1 qb2)
 go_wp2_with fail
 refine hK.out _ _ (hE.h2.j4 hE.here.1.2.c4) (fun hHeld => ?_);clear hK K;try simp only [PL]
 refine r1 9 (fun K hK => ?_);go_simp;have hc := ftimes_v (ca := cb) (cb := da) (hE.h3).1 (hE.h4).2 (Nat.le_trans hb1 (by decide)) (Nat.le_trans ha2 (by decide)) (Nat.le_trans (ln_mulZ (m := 256) (n := 256) qb1 qa2) (by decide));refine hc.mono ?_;clear hc
 rintro e w11 ⟨sy, Ay, ny, cy, rfl, hy, hb⟩
 replace hE := hE.step hb;clear hb;replace hE := hE.wv hy;clear hy
 have ly : ny ≤ 512 := by rw [(hE.here.2).len]; exact (ln_mulZ (m := 256) (n := 256) qb1 qa2)
 go_wp2_with fail
 refine hK.out _ _ (hE.h3.j4 hE.h2.c4) (fun hHeld => ?_);clear hK K;try simp only [PL]
 refine r1 10 (fun K hK => ?_);go_simp;have hc := cmp_v (c := cx) (d := cy) hE.here.1.2 hE.here.2 (Nat.le_trans lx (by decide)) (Nat.le_trans ly (by decide));rw [← HV.out] at hc;refine hE.br hc ?_;clear hE hc;intro w12 hE;go_wp2_with fail
 refine hK.out _ _ (hE.h3.j4 hE.h2.c4) (fun hHeld => ?_);clear hK K;try simp only [PL]
 refine tk 11 ?_;refine wpAnyH_done (by kernel_rfl) ?_ _;go_wp2_with fail
 go_ret
 exact ⟨by rw [HV.out]; rfl, hE.bel⟩
theorem frsame_v {a b : Rat} {sa ta sb tb : Bool} {Aa Ba Ab Bb : Option Addr} {na ca ma da nb cb mb db : Nat} {w : World} (ha : FV w a sa Aa na ta Ba ma) (hb : FV w b sb Ab nb tb Bb mb) (la1 : na ≤ 1000000) (la2 : ma ≤ 1000000) (lb1 : nb ≤ 1000000) (lb2 : mb ≤ 1000000) :
  Calls Tryz.prog 37 #[.agg #[.bool sa, .slice Aa na ca, .bool ta, .slice Ba ma da], .agg #[.bool sb, .slice Ab nb cb, .bool tb, .slice Bb mb db]] w fun e w' => e = .returned (.bool (decide (a = b))) ∧ Below w.heap.size w w' := by
 by_cases h1 : a.num = b.num
 ·
  have hE := ((((Env.start w).fv ha).fv hb).blk 29 #[.bool sa, .slice Aa na ca, .bool ta, .slice Ba ma da] (g := w.heap.size) rfl).blk 29 #[.bool sb, .slice Ab nb cb, .bool tb, .slice Bb mb db] (g := w.heap.size + 1) (by simp)
  obtain ⟨W0, hW0⟩ : ∃ W0, W0 = ((w.alloc (.cells #[.bool sa, .slice Aa na ca, .bool ta, .slice Ba ma da] 29)).alloc (.cells #[.bool sb, .slice Ab nb cb, .bool tb, .slice Bb mb db] 29)) := ⟨_, rfl⟩
  rw [← hW0] at hE;have HW0 := Lib.hid hW0;clear hW0
  go_enter Tryz.func37, Tryz.ntmps37
  go_upto_region 1 with (fail)
  rw [← HW0.out];obtain ⟨k1, k2, k3, k4⟩ := (hE.here.1.2).c4;obtain ⟨k5, k6, k7, k8⟩ := (hE.here.2).c4;go_wp2_with fail
  have hc := refSame_v (c := ca) (d := cb) (hE.h3).1 (hE.h2).1 la1 lb1;rw [decide_eq_true h1] at hc;refine hE.br hc ?_;clear hE hc k1 k2 k3 k4 k5 k6 k7 k8;intro w1 hE;obtain ⟨k9, k10, k11, k12⟩ := (hE.here.1.2).c4;obtain ⟨k13, k14, k15, k16⟩ := (hE.here.2).c4;go_wp2_with fail
  refine hE.br (refSame_v (c := da) (d := db) (hE.h3).2 (hE.h2).2 la2 lb2) ?_;clear hE k9 k10 k11 k12 k13 k14 k15 k16;intro w2 hE
  obtain ⟨v, hv⟩ : ∃ v, v = decide (((a.den : Nat) : Int) = ((b.den : Nat) : Int)) := ⟨_, rfl⟩
  rw [← hv];have HV := Lib.hid hv;clear hv;have H1 := Lib.hid h1;clear h1;go_wp2_with fail
  go_ret
  refine ⟨ret_bool ?_, hE.bel⟩;rw [HV.out];exact decide_eq_decide.2 ⟨fun h => Rat.ext H1.out (by omega), fun h => by rw [h]⟩
 ·
  have hE := ((((Env.start w).fv ha).fv hb).blk 29 #[.bool sa, .slice Aa na ca, .bool ta, .slice Ba ma da] (g := w.heap.size) rfl).blk 29 #[.bool sb, .slice Ab nb cb, .bool tb, .slice Bb mb db] (g := w.heap.size + 1) (by simp)
  obtain ⟨W0, hW0⟩ : ∃ W0, W0 = ((w.alloc (.cells #[.bool sa, .slice Aa na ca, .bool ta, .slice Ba ma da] 29)).alloc (.cells #[.bool sb, .slice Ab nb cb, .bool tb, .slice Bb mb db] 29)) := ⟨_, rfl⟩
  rw [← hW0] at hE;have HW0 := Lib.hid hW0;clear hW0
  go_enter Tryz.func37, Tryz.ntmps37
  go_upto_region 1 with (fail)
  rw [← HW0.out];obtain ⟨k1, k2, k3, k4⟩ := (hE.here.1.2).c4;obtain ⟨k5, k6, k7, k8⟩ := (hE.here.2).c4;go_wp2_with fail
  have hc := refSame_v (c := ca) (d := cb) (hE.h3).1 (hE.h2).1 la1 lb1;rw [decide_eq_false h1] at hc;refine hE.br hc ?_;clear hE hc k1 k2 k3 k4 k5 k6 k7 k8;intro w1 hE;go_wp2_with fail
  go_ret
  exact ⟨ret_bool (decide_eq_false (fun h => h1 (by rw [h]))).symm, hE.bel⟩
end
section
open Go.RowKit

theorem rone_v {z : Int} {A : Option Addr} {n c : Nat} {w : World} (ha : WV w z false A n) (hn : n ≤ 1000000) :
  Calls Tryz.prog 96 #[.slice A n c] w fun e w' => e = .returned (.bool (decide (z = 1))) ∧ Below w.heap.size w w' := by
 obtain ⟨hs, hl, hr⟩ := ha;have hz : ¬ z < 0 := of_decide_eq_false hs.symm
 by_cases h1 : n = 1
 ·
  subst h1;obtain ⟨b, o, rfl, hb, hc⟩ := hr (by omega);have c1 := hc 0 (by omega);rw [Nat.add_zero] at c1
  have hv : dgt b16 z.natAbs 0 = z.natAbs := by
   have h := vs_dgt_ln b16_two (x := z.natAbs);rw [← hl, vs_succ, vs_zero] at h
   simpa using h
  rw [hv] at c1;have hlt : b < w.heap.size := hb;clear hl hs hc hr hv
  by_cases h2 : z = 1
  ·
   have t2 : (((z.natAbs : Nat) : Int) == 1) = true := beq_iff_eq.2 (by omega);have HE := Lib.hid (decide_eq_true h2);clear h2
   go_enter Tryz.func96, Tryz.ntmps96
   go_wp2_with fail
   go_ret
   exact ⟨ret_bool HE.out.symm, Below.refl _ _⟩
  ·
   have t2 : (((z.natAbs : Nat) : Int) == 1) = false := beq_eq_false_iff_ne.2 (by omega);have HE := Lib.hid (decide_eq_false h2);clear h2
   go_enter Tryz.func96, Tryz.ntmps96
   go_wp2_with fail
   go_ret
   exact ⟨ret_bool HE.out.symm, Below.refl _ _⟩
 ·
  have hz1 : ¬ z = 1 := fun e => h1 (by rw [hl, e]; decide)
  have HE := Lib.hid (decide_eq_false hz1);have t1 : ((n : Int) == 1) = false := beq_eq_false_iff_ne.2 (by omega);clear hl hz1 hs hr
  go_enter Tryz.func96, Tryz.ntmps96
  go_wp2_with fail
  go_ret
  exact ⟨ret_bool HE.out.symm, Below.refl _ _⟩
theorem WV.nat {w : World} {x : Nat} {A : Option Addr} (h : Num16 w A x) : WV w (x : Int) false A (ln b16 x) := ⟨(decide_eq_false (by omega)).symm, by rw [Int.natAbs_natCast], by rw [Int.natAbs_natCast]; exact h⟩
def LR (x : Nat) (w : World) (e : Ending) (w' : World) : Prop := ∃ A n c, e = .returned (.slice A n c) ∧ WV w' (x : Int) false A n ∧ Below w.heap.size w w'
def LR2 (x y : Nat) (w : World) (e : Ending) (w' : World) : Prop := ∃ A n c B m d, e = .returned (.tuple #[.slice A n c, .slice B m d]) ∧ WV w' (x : Int) false A n ∧ WV w' (y : Int) false B m ∧ Below w.heap.size w w'
section
variable {a b : Int} {s t : Bool} {A B : Option Addr} {n m c d : Nat} {w : World}
theorem rcommon_v (ha : WV w a s A n) (hb : WV w b t B m) (la : n ≤ 900000) (lb : m ≤ 900000) :
  Calls Tryz.prog 97 #[.slice A n c, .slice B m d] w (LR (Nat.gcd a.natAbs b.natAbs) w) := by
 obtain ⟨-, rfl, hA⟩ := ha;obtain ⟨-, rfl, hB⟩ := hb
 exact (rcommon_any A B c d a.natAbs b.natAbs w hA hB la lb).mono fun _ _ ⟨A', c', he, h, hb⟩ => ⟨A', _, c', he, WV.nat h, hb⟩
theorem rdivided_v (ha : WV w a s A n) (hb : WV w b t B m) (la : n ≤ 900000) (lb : m ≤ 900000) (hb0 : b ≠ 0) :
  Calls Tryz.prog 108 #[.slice A n c, .slice B m d] w (LR2 (a.natAbs / b.natAbs) (a.natAbs % b.natAbs) w) := by
 obtain ⟨-, rfl, hA⟩ := ha;obtain ⟨-, rfl, hB⟩ := hb
 exact (rdivided_any A B c d a.natAbs b.natAbs w hA hB (by omega) la lb).mono fun _ _ ⟨A', c', B', d', he, h, h', hb⟩ => ⟨A', _, c', B', _, d', he, WV.nat h, WV.nat h', hb⟩
theorem make_v (r : Bool) (ha : WV w a s A n) : Calls Tryz.prog 93 #[.bool r, .slice A n c] w (WR (toI r a.natAbs) w) := by
 obtain ⟨-, rfl, hA⟩ := ha
 refine (make_any r A (ln b16 a.natAbs) c w).mono fun e w' h => ?_
 have hs := sgn_of (z := toI r a.natAbs) (s := r) (x := a.natAbs) rfl;obtain ⟨he, hb⟩ := h;exact ⟨_, A, _, c, he, ⟨hs.2, by rw [hs.1], by rw [hs.1]; exact Num16.below hA hb⟩, hb⟩
end
theorem low_abs (a b : Int) (hb : b ≠ 0) : (Rat.divInt a b).num = toI (decide (a < 0) != decide (b < 0)) (a.natAbs / Nat.gcd a.natAbs b.natAbs) ∧ (((Rat.divInt a b).den : Nat) : Int) = toI false (b.natAbs / Nat.gcd a.natAbs b.natAbs) := by
 have hg : ((Nat.gcd a.natAbs b.natAbs : Nat) : Int) ∣ a := Int.ofNat_dvd_left.2 (Nat.gcd_dvd_left _ _)
 rcases Int.lt_or_lt_of_ne hb with h | h
 ·
  have h1 := low_num (n := -a) (d := -b) (by omega);rw [low_neg, Int.natAbs_neg, Int.natAbs_neg] at h1;refine ⟨?_, ?_⟩
  ·
   rw [h1.1, Int.neg_ediv_of_dvd hg]
   by_cases ha : a < 0
   ·
    rw [decide_eq_true ha, decide_eq_true h]
    obtain ⟨k, rfl⟩ : ∃ k : Nat, a = -(k : Int) := ⟨a.natAbs, by omega⟩
    rw [Int.natAbs_neg, Int.natAbs_natCast] at hg ⊢;rw [Int.neg_ediv_of_dvd (Int.natCast_dvd_natCast.2 (Nat.gcd_dvd_left _ _)), Int.neg_neg];show _ = ((k / Nat.gcd k b.natAbs : Nat) : Int);rw [Int.natCast_ediv]
   ·
    rw [decide_eq_false ha, decide_eq_true h]
    obtain ⟨k, rfl⟩ : ∃ k : Nat, a = (k : Int) := ⟨a.natAbs, by omega⟩
    rw [Int.natAbs_natCast];show _ = -((k / Nat.gcd k b.natAbs : Nat) : Int);rw [Int.natCast_ediv]
  ·
   rw [h1.2]
   obtain ⟨k, rfl⟩ : ∃ k : Nat, b = -(k : Int) := ⟨b.natAbs, by omega⟩
   rw [Int.neg_neg, Int.natAbs_neg, Int.natAbs_natCast];show _ = ((k / Nat.gcd a.natAbs k : Nat) : Int);rw [Int.natCast_ediv]
 ·
  have h1 := low_num (n := a) (d := b) h;refine ⟨?_, ?_⟩
  ·
   rw [h1.1, decide_eq_false (show ¬ b < 0 by omega)]
   by_cases ha : a < 0
   ·
    rw [decide_eq_true ha]
    obtain ⟨k, rfl⟩ : ∃ k : Nat, a = -(k : Int) := ⟨a.natAbs, by omega⟩
    rw [Int.natAbs_neg, Int.natAbs_natCast] at hg ⊢;rw [Int.neg_ediv_of_dvd (Int.natCast_dvd_natCast.2 (Nat.gcd_dvd_left _ _))];show _ = -((k / Nat.gcd k b.natAbs : Nat) : Int);rw [Int.natCast_ediv]
   ·
    rw [decide_eq_false ha]
    obtain ⟨k, rfl⟩ : ∃ k : Nat, a = (k : Int) := ⟨a.natAbs, by omega⟩
    rw [Int.natAbs_natCast];show _ = ((k / Nat.gcd k b.natAbs : Nat) : Int);rw [Int.natCast_ediv]
  ·
   rw [h1.2]
   obtain ⟨k, rfl⟩ : ∃ k : Nat, b = (k : Int) := ⟨b.natAbs, by omega⟩
   rw [Int.natAbs_natCast];show _ = ((k / Nat.gcd a.natAbs k : Nat) : Int);rw [Int.natCast_ediv]
theorem rlowest_v {a b : Int} {sa sb : Bool} {Aa Ab : Option Addr} {na ca nb cb : Nat} {w : World} (ha : WV w a sa Aa na) (hb : WV w b sb Ab nb) (la : na ≤ 900000) (lb : nb ≤ 900000) (hb0 : b ≠ 0) :
  Calls Tryz.prog 65 #[.agg #[.bool sa, .slice Aa na ca], .agg #[.bool sb, .slice Ab nb cb]] w (FR (Rat.divInt a b) w) := by
 by_cases hg1 : Nat.gcd a.natAbs b.natAbs = 1
 ·
  have hE := ((((Env.start w).wv ha).wv hb).blk 27 #[.bool sa, .slice Aa na ca] (g := w.heap.size) rfl).blk 27 #[.bool sb, .slice Ab nb cb] (g := w.heap.size + 1) (by simp);have hE := hE.blk 29 #[.bool false, .slice none 0 0, .bool false, .slice none 0 0] (g := w.heap.size + 1 + 1) (by simp)
  obtain ⟨W0, hW0⟩ : ∃ W0, W0 = (((w.alloc (.cells #[.bool sa, .slice Aa na ca] 27)).alloc (.cells #[.bool sb, .slice Ab nb cb] 27)).alloc (.cells #[.bool false, .slice none 0 0, .bool false, .slice none 0 0] 29)) := ⟨_, rfl⟩
  rw [← hW0] at hE;have HW0 := Lib.hid hW0;clear hW0
  go_enter Tryz.func65, Tryz.ntmps65
  go_upto_region 1 with (fail)
  rw [← HW0.out];obtain ⟨k1, k2⟩ := (hE.h2).c2;obtain ⟨k3, k4⟩ := (hE.here.1.2).c2;go_wp2_with fail
  have hc := rcommon_v (c := ca) (d := cb) hE.h4 hE.h3 la lb;refine hc.mono ?_;clear hc;clear k1 k2 k3 k4
  rintro e w5 ⟨Ag, ng, cg, rfl, hg, hb⟩
  replace hE := hE.step hb;clear hb;replace hE := hE.wv hg;clear hg
  have lg : ng ≤ 900000 := by rw [(hE.here.2).len, Int.natAbs_natCast]; refine Nat.le_trans (ln_mono b16_two (Nat.gcd_le_right _ (show 0 < b.natAbs by omega))) ?_; rw [← (hE.h4).len]; exact lb
  go_wp2_with fail
  have hc := rone_v (c := cg) hE.here.2 (by omega);rw [decide_eq_true (show ((Nat.gcd a.natAbs b.natAbs : Nat) : Int) = 1 by omega)] at hc;refine hE.br hc ?_;clear hE hc;intro w20 hE;obtain ⟨e1, e2⟩ := low_abs a b hb0;rw [← (hE.h5).sgn, ← (hE.h4).sgn] at e1;rw [hg1, Nat.div_one] at e1 e2;have E1 := Lib.hid e1;have E2 := Lib.hid e2;have HG := Lib.hid hg1;clear e1 e2 hg1
  go_upto_region 3 with (fail)
  replace hE := hE.drew;refine wp_region_held_drew (S := fun w' => w'.cell? ⟨w.heap.size, 0, none⟩ = some (.bool sa) ∧ w'.cell? ⟨w.heap.size, 1, none⟩ = some (.slice Aa na ca) ∧ w'.cell? ⟨w.heap.size + 1, 0, none⟩ = some (.bool sb) ∧ w'.cell? ⟨w.heap.size + 1, 1, none⟩ = some (.slice Ab nb cb)) (by kernel_rfl) (hE.h3.j2 hE.h2.c2) (fun hHeld => ?_);refine tk 0 ?_;refine tk 1 ?_;refine tk 2 ?_;refine tk 3 ?_;refine tk 4 ?_;refine tk 5 ?_;refine tk 6 ?_;refine tk 8 ?_;refine tk 9 ?_;refine r1 7 (fun K hK => ?_);go_simp;have hc := make_v (c := ca) (sa != sb) hE.h5;refine hc.mono ?_;clear hc
  rintro e w6 ⟨sx, Ax, nx, cx, rfl, hx, hb⟩
  replace hE := hE.step hb;clear hb;replace hE := hE.wv hx;clear hx;go_wp2_with fail
  refine hK.out _ _ (hE.h4.j2 hE.h3.c2) (fun hHeld => ?_);clear hK K;try simp only [PL]
  refine r1 10 (fun K hK => ?_);go_simp;have hc := make_v (c := cb) false hE.h5;refine hc.mono ?_;clear hc
  rintro e w7 ⟨sy, Ay, ny, cy, rfl, hy, hb⟩
  replace hE := hE.step hb;clear hb;replace hE := hE.wv hy;clear hy;have hfv : FV w7 (Rat.divInt a b) sx Ax nx sy Ay ny := ⟨by rw [E1.out]; exact hE.here.1.2, by rw [E2.out]; exact hE.here.2⟩;replace hE := hE.fv hfv;clear hfv;go_wp2_with fail
  refine hK.out _ _ (hE.h6.j2 hE.h5.c2) (fun hHeld => ?_);clear hK K;try simp only [PL]
  refine tk 11 ?_;refine r1 12 (fun K hK => ?_)
  have hRl : w.heap.size ≤ w.heap.size + 1 + 1 := by omega
  obtain ⟨WW, hWW, hB, hV, hBel⟩ := ret_frac hE hE.h4 hRl hE.here.2 cx cy;obtain ⟨x0, x1, x2, x3⟩ := (hE.h4).c4;obtain ⟨fz0, fz1, fz2, fz3⟩ := hE.h4.f4;have HWW := Lib.hid hWW;clear hWW;have q8 := (hE.h6).far4 (R := w.heap.size + 1 + 1) (by omega) (.bool sx) (.slice Ax nx cx) (.bool sy) (.slice Ay ny cy);rw [← HWW.out] at q8;have q9 := (hE.h5).far4 (R := w.heap.size + 1 + 1) (by omega) (.bool sx) (.slice Ax nx cx) (.bool sy) (.slice Ay ny cy);rw [← HWW.out] at q9;go_simp;rw [← HWW.out];refine hK.out _ _ (q8.j2 q9.c2) (fun hHeld => ?_);clear hK K;try simp only [PL]
  refine wpAnyH_done (by kernel_rfl) ?_ _;go_wp2_with fail
  obtain ⟨y0, y1, y2, y3⟩ := hB.c4;refine bodyPost_ret (v := .agg #[.bool sx, .slice Ax nx cx, .bool sy, .slice Ay ny cy]) (by simp [results, Tryz.results65, go_sem, y0, y1, y2, y3]) rfl ?_;exact ⟨sx, Ax, nx, cx, sy, Ay, ny, cy, rfl, hV, hBel⟩
 ·
  have hE := ((((Env.start w).wv ha).wv hb).blk 27 #[.bool sa, .slice Aa na ca] (g := w.heap.size) rfl).blk 27 #[.bool sb, .slice Ab nb cb] (g := w.heap.size + 1) (by simp);have hE := hE.blk 29 #[.bool false, .slice none 0 0, .bool false, .slice none 0 0] (g := w.heap.size + 1 + 1) (by simp)
  obtain ⟨W0, hW0⟩ : ∃ W0, W0 = (((w.alloc (.cells #[.bool sa, .slice Aa na ca] 27)).alloc (.cells #[.bool sb, .slice Ab nb cb] 27)).alloc (.cells #[.bool false, .slice none 0 0, .bool false, .slice none 0 0] 29)) := ⟨_, rfl⟩
  rw [← hW0] at hE;have HW0 := Lib.hid hW0;clear hW0
  go_enter Tryz.func65, Tryz.ntmps65
  go_upto_region 1 with (fail)
  rw [← HW0.out];obtain ⟨k1, k2⟩ := (hE.h2).c2;obtain ⟨k3, k4⟩ := (hE.here.1.2).c2;go_wp2_with fail
  have hc := rcommon_v (c := ca) (d := cb) hE.h4 hE.h3 la lb;refine hc.mono ?_;clear hc;clear k1 k2 k3 k4
  rintro e w5 ⟨Ag, ng, cg, rfl, hg, hb⟩
  replace hE := hE.step hb;clear hb;replace hE := hE.wv hg;clear hg
  have lg : ng ≤ 900000 := by rw [(hE.here.2).len, Int.natAbs_natCast]; refine Nat.le_trans (ln_mono b16_two (Nat.gcd_le_right _ (show 0 < b.natAbs by omega))) ?_; rw [← (hE.h4).len]; exact lb
  go_wp2_with fail
  have hc := rone_v (c := cg) hE.here.2 (by omega);rw [decide_eq_false (show ¬ ((Nat.gcd a.natAbs b.natAbs : Nat) : Int) = 1 by omega)] at hc;refine hE.br hc ?_;clear hE hc;intro w20 hE;obtain ⟨e1, e2⟩ := low_abs a b hb0;rw [← (hE.h5).sgn, ← (hE.h4).sgn] at e1;have E1 := Lib.hid e1;have E2 := Lib.hid e2;have HG := Lib.hid hg1;clear e1 e2 hg1;have hgn : ((Nat.gcd a.natAbs b.natAbs : Nat) : Int) ≠ 0 := gcd_ne hb0;obtain ⟨k6, k7⟩ := (hE.h3).c2;go_wp2_with fail
  have hc := rdivided_v (c := ca) (d := cg) hE.h5 hE.here.2 la lg hgn;rw [Int.natAbs_natCast] at hc;refine hc.mono ?_;clear hc;clear k6 k7
  rintro e w8 ⟨Ap, np, cp, Ar, nr, cr, rfl, hp, hr, hb⟩
  replace hE := hE.step hb;clear hb;replace hE := (hE.wv hp).wv hr;clear hp hr;obtain ⟨k9, k10⟩ := (hE.h4).c2;go_wp2_with fail
  have hc := rdivided_v (c := cb) (d := cg) hE.h6 hE.h2 lb lg hgn;rw [Int.natAbs_natCast] at hc;refine hc.mono ?_;clear hc;clear k9 k10
  rintro e w11 ⟨Aq, nq, cq, Au, nu, cu, rfl, hq, hu, hb⟩
  replace hE := hE.step hb;clear hb;replace hE := (hE.wv hq).wv hu;clear hq hu;obtain ⟨k12, k13⟩ := (hE.h7).c2;obtain ⟨k14, k15⟩ := (hE.h6).c2;go_wp2_with fail
  have hc := make_v (c := cp) (sa != sb) hE.h3;rw [Int.natAbs_natCast] at hc;refine hc.mono ?_;clear hc;clear k12 k13 k14 k15
  rintro e w16 ⟨sx, Ax, nx, cx, rfl, hx, hb⟩
  replace hE := hE.step hb;clear hb;replace hE := hE.wv hx;clear hx;go_wp2_with fail
  have hc := make_v (c := cq) false hE.h2;rw [Int.natAbs_natCast] at hc;refine hc.mono ?_;clear hc
  rintro e w17 ⟨sy, Ay, ny, cy, rfl, hy, hb⟩
  replace hE := hE.step hb;clear hb;replace hE := hE.wv hy;clear hy;have hfv : FV w17 (Rat.divInt a b) sx Ax nx sy Ay ny := ⟨by rw [E1.out]; exact hE.here.1.2, by rw [E2.out]; exact hE.here.2⟩;replace hE := hE.fv hfv;clear hfv
  have hRl : w.heap.size ≤ w.heap.size + 1 + 1 := by omega
  obtain ⟨WW, hWW, hB, hV, hBel⟩ := ret_frac hE hE.h8 hRl hE.here.2 cx cy;obtain ⟨x0, x1, x2, x3⟩ := (hE.h8).c4;obtain ⟨fz0, fz1, fz2, fz3⟩ := hE.h8.f4;have HWW := Lib.hid hWW;clear hWW;go_wp2_with fail
  rw [← HWW.out];obtain ⟨y0, y1, y2, y3⟩ := hB.c4;refine bodyPost_ret (v := .agg #[.bool sx, .slice Ax nx cx, .bool sy, .slice Ay ny cy]) (by simp [results, Tryz.results65, go_sem, y0, y1, y2, y3]) rfl ?_;exact ⟨sx, Ax, nx, cx, sy, Ay, ny, cy, rfl, hV, hBel⟩
theorem rfromInt_v (z : Int) (w : World) (h1 : -9223372036854775808 ≤ z) (h2 : z ≤ 9223372036854775807) : Calls Tryz.prog 56 #[.int .i64 z] w (WR z w) :=
 (refFromInt_any z w h1 h2).mono fun _ _ h => by obtain ⟨s, A, n, c, he, ho, hb⟩ := h.vi; exact ⟨s, A, n, c, he, ho.v, hb⟩
theorem small_len {w : World} {z : Int} {s : Bool} {A : Option Addr} {n : Nat} (h : WV w z s A n) (h1 : -9223372036854775808 ≤ z) (h2 : z ≤ 9223372036854775807) : n ≤ 4 := by
 rw [h.len]; exact ln_int h1 h2
theorem rquick_v (n d : Int) (w : World) (h1 : -9223372036854775808 ≤ n) (h2 : n ≤ 9223372036854775807) (h3 : -9223372036854775808 ≤ d) (h4 : d ≤ 9223372036854775807) (hd : d ≠ 0) :
  Calls Tryz.prog 29 #[.int .i64 n, .int .i64 d] w (FR (Rat.divInt n d) w) := by
 have hE := Env.start w;have hE := hE.blk 29 #[.bool false, .slice none 0 0, .bool false, .slice none 0 0] (g := w.heap.size) rfl
 obtain ⟨W0, hW0⟩ : ∃ W0, W0 = (w.alloc (.cells #[.bool false, .slice none 0 0, .bool false, .slice none 0 0] 29)) := ⟨_, rfl⟩
 rw [← hW0] at hE;have HW0 := Lib.hid hW0;clear hW0
 go_enter Tryz.func29, Tryz.ntmps29
 go_upto_region 1 with (fail)
 rw [← HW0.out];go_wp2_with fail
 have hc := rfromInt_v n W0 h1 h2;refine hc.mono ?_;clear hc
 rintro e w1 ⟨sx, Ax, nx, cx, rfl, hx, hb⟩
 replace hE := hE.step hb;clear hb;replace hE := hE.wv hx;clear hx;go_wp2_with fail
 have hc := rfromInt_v d w1 h3 h4;refine hc.mono ?_;clear hc
 rintro e w2 ⟨sy, Ay, ny, cy, rfl, hy, hb⟩
 replace hE := hE.step hb;clear hb;replace hE := hE.wv hy;clear hy;have lx := small_len hE.here.1.2 h1 h2;have ly := small_len hE.here.2 h3 h4;go_wp2_with fail
 refine hE.fr (rlowest_v (ca := cx) (cb := cy) hE.here.1.2 hE.here.2 (Nat.le_trans lx (by decide)) (Nat.le_trans ly (by decide)) hd) ?_;clear hE;intro sf Af nf cf tf Bf mf df w3 hE
 have hRl : w.heap.size ≤ w.heap.size := by omega
 obtain ⟨WW, hWW, hB, hV, hBel⟩ := ret_frac hE hE.h3 hRl hE.here.2 cf df;obtain ⟨x0, x1, x2, x3⟩ := (hE.h3).c4;obtain ⟨fz0, fz1, fz2, fz3⟩ := hE.h3.f4;have HWW := Lib.hid hWW;clear hWW;go_wp2_with fail
 rw [← HWW.out];obtain ⟨y0, y1, y2, y3⟩ := hB.c4;refine bodyPost_ret (v := .agg #[.bool sf, .slice Af nf cf, .bool tf, .slice Bf mf df]) (by simp [results, Tryz.results29, go_sem, y0, y1, y2, y3]) rfl ?_;exact ⟨sf, Af, nf, cf, tf, Bf, mf, df, rfl, hV, hBel⟩
end
section
open Go.RowKit

theorem fv_lens {w : World} {q : Rat} {s t : Bool} {A B : Option Addr} {n m k : Nat} (_ : FV w q s A n t B m) (hq : fl q ≤ k) : ln b16 q.num.natAbs ≤ k ∧ ln b16 ((q.den : Nat) : Int).natAbs ≤ k := by
 rw [Int.natAbs_natCast];exact fl_le.1 hq
theorem FV.neg {w : World} {q : Rat} {s s' t : Bool} {A B : Option Addr} {n m : Nat} (h : FV w q s A n t B m) (hn : WV w (-q.num) s' A n) : FV w (-q) s' A n t B m := ⟨by rw [Rat.neg_num]; exact hn, by rw [Rat.neg_den]; exact h.2⟩
theorem fl_neg (q : Rat) : fl (-q) = fl q := by
 unfold fl;rw [Rat.neg_num, Rat.neg_den, Int.natAbs_neg]
end
section
open Go.RowKit

theorem den_nz (a : Rat) : ((a.den : Nat) : Int) ≠ 0 := by have := a.den_pos; omega
theorem ftzero_v {q : Rat} {s t : Bool} {A B : Option Addr} {n m c d : Nat} {w : World} (ha : FV w q s A n t B m) (r : Bool) (hr : decide (q.num = 0) = r) :
  Calls Tryz.prog 74 #[.agg #[.bool s, .slice A n c, .bool t, .slice B m d]] w fun e w' => e = .returned (.bool r) ∧ Below w.heap.size w w' := by
 by_cases h0 : q.num = 0
 ·
  rw [decide_eq_true h0] at hr;subst hr;have hE := ((Env.start w).fv ha).blk 85 #[.bool s, .slice A n c, .bool t, .slice B m d] (g := w.heap.size) rfl
  obtain ⟨W0, hW0⟩ : ∃ W0, W0 = (w.alloc (.cells #[.bool s, .slice A n c, .bool t, .slice B m d] 85)) := ⟨_, rfl⟩
  rw [← hW0] at hE;have HW0 := Lib.hid hW0;clear hW0
  go_enter Tryz.func74, Tryz.ntmps74
  go_upto_region 1 with (fail)
  rw [← HW0.out]
  obtain rfl : n = 0 := by rw [ha.1.len, h0]; exact ln_zero
  obtain ⟨k1, k2, k3, k4⟩ := (hE.here.2).c4;go_wp2_with fail
  go_ret
  exact ⟨rfl, hE.bel⟩
 ·
  rw [decide_eq_false h0] at hr;subst hr;have hE := ((Env.start w).fv ha).blk 85 #[.bool s, .slice A n c, .bool t, .slice B m d] (g := w.heap.size) rfl
  obtain ⟨W0, hW0⟩ : ∃ W0, W0 = (w.alloc (.cells #[.bool s, .slice A n c, .bool t, .slice B m d] 85)) := ⟨_, rfl⟩
  rw [← hW0] at hE;have HW0 := Lib.hid hW0;clear hW0
  go_enter Tryz.func74, Tryz.ntmps74
  go_upto_region 1 with (fail)
  rw [← HW0.out]
  have hz : 0 < n := by rw [ha.1.len]; exact (ln_pos b16_two).2 (by have : q.num ≠ 0 := h0; omega)
  have t1 : ((n : Int) == 0) = false := beq_eq_false_iff_ne.2 (by omega);have t2 : (n == 0) = false := beq_eq_false_iff_ne.2 (by omega);obtain ⟨k1, k2, k3, k4⟩ := (hE.here.2).c4;go_wp2_with fail
  go_ret
  exact ⟨rfl, hE.bel⟩
theorem fdiv_v {a b : Rat} {sa ta sb tb : Bool} {Aa Ba Ab Bb : Option Addr} {na ca ma da nb cb mb db : Nat} {w : World} (ha : FV w a sa Aa na ta Ba ma) (hb : FV w b sb Ab nb tb Bb mb) (la : fl a ≤ 256) (lb : fl b ≤ 256) (hb0 : b.num ≠ 0) (lr : fl (a / b) ≤ 256) :
  Calls Tryz.prog 72 #[.agg #[.bool sa, .slice Aa na ca, .bool ta, .slice Ba ma da], .agg #[.bool sb, .slice Ab nb cb, .bool tb, .slice Bb mb db]] w (FOK (a / b) w) := by
 have hE := ((((Env.start w).fv ha).fv hb).blk 29 #[.bool sa, .slice Aa na ca, .bool ta, .slice Ba ma da] (g := w.heap.size) rfl).blk 29 #[.bool sb, .slice Ab nb cb, .bool tb, .slice Bb mb db] (g := w.heap.size + 1) (by simp);have hE := hE.blk 29 #[.bool false, .slice none 0 0, .bool false, .slice none 0 0] (g := w.heap.size + 1 + 1) (by simp)
 obtain ⟨W0, hW0⟩ : ∃ W0, W0 = (((w.alloc (.cells #[.bool sa, .slice Aa na ca, .bool ta, .slice Ba ma da] 29)).alloc (.cells #[.bool sb, .slice Ab nb cb, .bool tb, .slice Bb mb db] 29)).alloc (.cells #[.bool false, .slice none 0 0, .bool false, .slice none 0 0] 29)) := ⟨_, rfl⟩
 rw [← hW0] at hE;have HW0 := Lib.hid hW0;clear hW0
 go_enter Tryz.func72, Tryz.ntmps72
 go_upto_region 1 with (fail)
 rw [← HW0.out];obtain ⟨k1, k2, k3, k4⟩ := (hE.h2).c4;obtain ⟨k5, k6, k7, k8⟩ := (hE.here.1.2).c4;go_wp2_with fail
 have hc := fallValid_v (c := ca) (d := da) (c2 := cb) (d2 := db) hE.h4 hE.h3 la lb;refine hc.mono ?_;clear hc;clear k1 k2 k3 k4 k5 k6 k7 k8
 rintro e w9 ⟨rfl, hb⟩
 replace hE := hE.step hb;clear hb;obtain ⟨k10, k11, k12, k13⟩ := (hE.here.1.2).c4;go_wp2_with fail
 refine hE.br (ftzero_v (c := cb) (d := db) hE.h3 false (decide_eq_false hb0)) ?_;clear hE k10 k11 k12 k13;intro w14 hE
 go_upto_region 5 with (fail)
 obtain ⟨qa1, qa2⟩ := fv_lens (hE.h4) la;obtain ⟨qb1, qb2⟩ := fv_lens (hE.h3) lb;obtain ⟨ha1, ha2⟩ := (hE.h4).ln la;obtain ⟨hb1, hb2⟩ := (hE.h3).ln lb;replace hE := hE.drew;refine wp_region_held_drew (S := fun w' => w'.cell? ⟨w.heap.size, 0, none⟩ = some (.bool sa) ∧ w'.cell? ⟨w.heap.size, 1, none⟩ = some (.slice Aa na ca) ∧ w'.cell? ⟨w.heap.size, 2, none⟩ = some (.bool ta) ∧ w'.cell? ⟨w.heap.size, 3, none⟩ = some (.slice Ba ma da) ∧ w'.cell? ⟨w.heap.size + 1, 0, none⟩ = some (.bool sb) ∧ w'.cell? ⟨w.heap.size + 1, 1, none⟩ = some (.slice Ab nb cb) ∧ w'.cell? ⟨w.heap.size + 1, 2, none⟩ = some (.bool tb) ∧ w'.cell? ⟨w.heap.size + 1, 3, none⟩ = some (.slice Bb mb db)) (by kernel_rfl) (hE.h2.j4 hE.here.1.2.c4) (fun hHeld => ?_);refine tk 0 ?_;refine tk 1 ?_;refine tk 2 ?_;refine tk 3 ?_;refine tk 5 ?_;refine tk 6 ?_;refine tk 7 ?_;refine tk 8 ?_;refine r1 4 (fun K hK => ?_);go_simp;have hc := ftimes_v (ca := ca) (cb := db) (hE.h4).1 (hE.h3).2 (Nat.le_trans ha1 (by decide)) (Nat.le_trans hb2 (by decide)) (Nat.le_trans (ln_mulZ (m := 256) (n := 256) qa1 qb2) (by decide));refine hc.mono ?_;clear hc
 rintro e w15 ⟨su, Au, nu, cu, rfl, hu, hb⟩
 replace hE := hE.step hb;clear hb;replace hE := hE.wv hu;clear hu
 have lu : nu ≤ 512 := by rw [(hE.here.2).len]; exact (ln_mulZ (m := 256) (n := 256) qa1 qb2)
 go_wp2_with fail
 refine hK.out _ _ (hE.h3.j4 hE.h2.c4) (fun hHeld => ?_);clear hK K;try simp only [PL]
 refine r1 9 (fun K hK => ?_);go_simp;have hc := ftimes_v (ca := da) (cb := cb) (hE.h5).2 (hE.h4).1 (Nat.le_trans ha2 (by decide)) (Nat.le_trans hb1 (by decide)) (Nat.le_trans (ln_mulZ (m := 256) (n := 256) qa2 qb1) (by decide));refine hc.mono ?_;clear hc
 rintro e w16 ⟨sv, Av, nv, cv, rfl, hv, hb⟩
 replace hE := hE.step hb;clear hb;replace hE := hE.wv hv;clear hv
 have lv : nv ≤ 512 := by rw [(hE.here.2).len]; exact (ln_mulZ (m := 256) (n := 256) qa2 qb1)
 go_wp2_with fail
 refine hK.out _ _ (hE.h4.j4 hE.h3.c4) (fun hHeld => ?_);clear hK K;try simp only [PL]
 refine r1 10 (fun K hK => ?_);go_simp;have hc := flowest_v (ca := cu) (cb := cv) hE.here.1.2 hE.here.2 (Nat.le_trans lu (by decide)) (Nat.le_trans lv (by decide)) (Int.mul_ne_zero (den_nz a) hb0);rw [div_low a b] at hc;refine hE.fr hc ?_;clear hE hc;intro sf Af nf cf tf Bf mf df w17 hE;go_wp2_with fail
 refine hK.out _ _ (hE.h5.j4 hE.h4.c4) (fun hHeld => ?_);clear hK K;try simp only [PL]
 refine r1 11 (fun K hK => ?_);go_simp;refine hE.fr (fresult_ok (c := cf) (d := df) hE.here.2 lr) ?_;clear hE;intro sr Ar nr cr tr Br mr dr w18 hE;go_wp2_with fail
 refine hK.out _ _ (hE.h6.j4 hE.h5.c4) (fun hHeld => ?_);clear hK K;try simp only [PL]
 refine tk 12 ?_;refine tk 13 ?_;refine r1 14 (fun K hK => ?_)
 have hRl : w.heap.size ≤ w.heap.size + 1 + 1 := by omega
 obtain ⟨WW, hWW, hB, hV, hBel⟩ := ret_frac hE hE.h4 hRl hE.here.2 cr dr;obtain ⟨x0, x1, x2, x3⟩ := (hE.h4).c4;obtain ⟨fz0, fz1, fz2, fz3⟩ := hE.h4.f4;have HWW := Lib.hid hWW;clear hWW;have q19 := (hE.h6).far4 (R := w.heap.size + 1 + 1) (by omega) (.bool sr) (.slice Ar nr cr) (.bool tr) (.slice Br mr dr);rw [← HWW.out] at q19;have q20 := (hE.h5).far4 (R := w.heap.size + 1 + 1) (by omega) (.bool sr) (.slice Ar nr cr) (.bool tr) (.slice Br mr dr);rw [← HWW.out] at q20;go_simp;rw [← HWW.out];refine hK.out _ _ (q19.j4 q20.c4) (fun hHeld => ?_);clear hK K;try simp only [PL]
 refine tk 15 ?_;refine wpAnyH_done (by kernel_rfl) ?_ _;go_wp2_with fail
 obtain ⟨y0, y1, y2, y3⟩ := hB.c4;refine bodyPost_ret (v := .tuple #[.agg #[.bool sr, .slice Ar nr cr, .bool tr, .slice Br mr dr], .int .i64 0]) (by simp [results, Tryz.results72, go_sem, y0, y1, y2, y3]) rfl ?_;exact ⟨sr, Ar, nr, cr, tr, Br, mr, dr, rfl, hV, hBel⟩
theorem fvalid_v0 {q : Rat} {s t : Bool} {A B : Option Addr} {n m c d : Nat} {w : World} (h : FV w q s A n t B m) (l : fl q ≤ 256) :
  Calls Tryz.prog 32 #[.agg #[.bool s, .slice A n c, .bool t, .slice B m d]] w fun e w' => e = .returned (.bool true) ∧ Below w.heap.size w w' := by
 obtain ⟨h1, h2⟩ := h.ln l;exact fvalid_r s t A B n m c d _ _ w h.rd (by omega) (by omega) true (okF_of h l)
end
section
open Go.RowKit

def upB (m : Nat) (ng od : Bool) (h : Int) : Bool :=
 if m = 1 then ng else if m = 2 then !ng else if m = 3 then false else if m = 4 then true else if m = 5 then decide (0 < h) || (decide (h = 0) && !ng) else decide (0 < h) || (decide (h = 0) && od)
theorem up1_v (ng od : Bool) (h : Int) (w : World) :
  Calls Tryz.prog 112 #[.agg #[.bool ng, .bool od, .int .i64 h]] w fun e w' => e = .returned (.bool (upB 1 ng od h)) ∧ Below w.heap.size w w' := by
 have hE := (Env.start w).blk 106 #[.bool ng, .bool od, .int .i64 h] (g := w.heap.size) rfl
 obtain ⟨W0, hW0⟩ : ∃ W0, W0 = (w.alloc (.cells #[.bool ng, .bool od, .int .i64 h] 106)) := ⟨_, rfl⟩
 rw [← hW0] at hE;have HW0 := Lib.hid hW0;clear hW0
 go_enter Tryz.func112, Tryz.ntmps112
 go_upto_region 1 with (fail)
 rw [← HW0.out];obtain ⟨k1, k2, k3⟩ := (hE.here.2).c3;go_wp2_with fail
 go_ret
 exact ⟨(by first | rfl | (unfold upB; simp [*])), hE.bel⟩
theorem up2_v (ng od : Bool) (h : Int) (w : World) :
  Calls Tryz.prog 113 #[.agg #[.bool ng, .bool od, .int .i64 h]] w fun e w' => e = .returned (.bool (upB 2 ng od h)) ∧ Below w.heap.size w w' := by
 have hE := (Env.start w).blk 106 #[.bool ng, .bool od, .int .i64 h] (g := w.heap.size) rfl
 obtain ⟨W0, hW0⟩ : ∃ W0, W0 = (w.alloc (.cells #[.bool ng, .bool od, .int .i64 h] 106)) := ⟨_, rfl⟩
 rw [← hW0] at hE;have HW0 := Lib.hid hW0;clear hW0
 go_enter Tryz.func113, Tryz.ntmps113
 go_upto_region 1 with (fail)
 rw [← HW0.out];obtain ⟨k1, k2, k3⟩ := (hE.here.2).c3;go_wp2_with fail
 go_ret
 exact ⟨(by first | rfl | (unfold upB; simp [*])), hE.bel⟩
theorem up3_v (ng od : Bool) (h : Int) (w : World) :
  Calls Tryz.prog 114 #[.agg #[.bool ng, .bool od, .int .i64 h]] w fun e w' => e = .returned (.bool (upB 3 ng od h)) ∧ Below w.heap.size w w' := by
 have hE := (Env.start w).blk 106 #[.bool ng, .bool od, .int .i64 h] (g := w.heap.size) rfl
 obtain ⟨W0, hW0⟩ : ∃ W0, W0 = (w.alloc (.cells #[.bool ng, .bool od, .int .i64 h] 106)) := ⟨_, rfl⟩
 rw [← hW0] at hE;have HW0 := Lib.hid hW0;clear hW0
 go_enter Tryz.func114, Tryz.ntmps114
 go_upto_region 1 with (fail)
 rw [← HW0.out];obtain ⟨k1, k2, k3⟩ := (hE.here.2).c3;go_wp2_with fail
 go_ret
 exact ⟨(by first | rfl | (unfold upB; simp [*])), hE.bel⟩
theorem up4_v (ng od : Bool) (h : Int) (w : World) :
  Calls Tryz.prog 115 #[.agg #[.bool ng, .bool od, .int .i64 h]] w fun e w' => e = .returned (.bool (upB 4 ng od h)) ∧ Below w.heap.size w w' := by
 have hE := (Env.start w).blk 106 #[.bool ng, .bool od, .int .i64 h] (g := w.heap.size) rfl
 obtain ⟨W0, hW0⟩ : ∃ W0, W0 = (w.alloc (.cells #[.bool ng, .bool od, .int .i64 h] 106)) := ⟨_, rfl⟩
 rw [← hW0] at hE;have HW0 := Lib.hid hW0;clear hW0
 go_enter Tryz.func115, Tryz.ntmps115
 go_upto_region 1 with (fail)
 rw [← HW0.out];obtain ⟨k1, k2, k3⟩ := (hE.here.2).c3;go_wp2_with fail
 go_ret
 exact ⟨(by first | rfl | (unfold upB; simp [*])), hE.bel⟩
theorem up5_v (ng od : Bool) (h : Int) (w : World) :
  Calls Tryz.prog 116 #[.agg #[.bool ng, .bool od, .int .i64 h]] w fun e w' => e = .returned (.bool (upB 5 ng od h)) ∧ Below w.heap.size w w' := by
 by_cases h1 : 0 < h
 ·
  have t1 : decide (0 < h) = true := decide_eq_true h1;have hE := (Env.start w).blk 106 #[.bool ng, .bool od, .int .i64 h] (g := w.heap.size) rfl
  obtain ⟨W0, hW0⟩ : ∃ W0, W0 = (w.alloc (.cells #[.bool ng, .bool od, .int .i64 h] 106)) := ⟨_, rfl⟩
  rw [← hW0] at hE;have HW0 := Lib.hid hW0;clear hW0
  go_enter Tryz.func116, Tryz.ntmps116
  go_upto_region 1 with (fail)
  rw [← HW0.out];obtain ⟨k1, k2, k3⟩ := (hE.here.2).c3;go_wp2_with fail
  go_ret
  exact ⟨(by first | rfl | (unfold upB; simp [*])), hE.bel⟩
 ·
  have t1 : decide (0 < h) = false := decide_eq_false h1
  by_cases h2 : h = 0
  ·
   subst h2;clear h1 t1
   cases ng
   ·
    have hE := (Env.start w).blk 106 #[.bool false, .bool od, .int .i64 0] (g := w.heap.size) rfl
    obtain ⟨W0, hW0⟩ : ∃ W0, W0 = (w.alloc (.cells #[.bool false, .bool od, .int .i64 0] 106)) := ⟨_, rfl⟩
    rw [← hW0] at hE;have HW0 := Lib.hid hW0;clear hW0
    go_enter Tryz.func116, Tryz.ntmps116
    go_upto_region 1 with (fail)
    rw [← HW0.out];obtain ⟨k1, k2, k3⟩ := (hE.here.2).c3;go_wp2_with fail
    go_ret
    exact ⟨(by first | rfl | (unfold upB; simp [*])), hE.bel⟩
   ·
    have hE := (Env.start w).blk 106 #[.bool true, .bool od, .int .i64 0] (g := w.heap.size) rfl
    obtain ⟨W0, hW0⟩ : ∃ W0, W0 = (w.alloc (.cells #[.bool true, .bool od, .int .i64 0] 106)) := ⟨_, rfl⟩
    rw [← hW0] at hE;have HW0 := Lib.hid hW0;clear hW0
    go_enter Tryz.func116, Tryz.ntmps116
    go_upto_region 1 with (fail)
    rw [← HW0.out];obtain ⟨k1, k2, k3⟩ := (hE.here.2).c3;go_wp2_with fail
    go_ret
    exact ⟨(by first | rfl | (unfold upB; simp [*])), hE.bel⟩
  ·
   have t2 : (h == 0) = false := beq_eq_false_iff_ne.2 h2;have hE := (Env.start w).blk 106 #[.bool ng, .bool od, .int .i64 h] (g := w.heap.size) rfl
   obtain ⟨W0, hW0⟩ : ∃ W0, W0 = (w.alloc (.cells #[.bool ng, .bool od, .int .i64 h] 106)) := ⟨_, rfl⟩
   rw [← hW0] at hE;have HW0 := Lib.hid hW0;clear hW0
   go_enter Tryz.func116, Tryz.ntmps116
   go_upto_region 1 with (fail)
   rw [← HW0.out];obtain ⟨k1, k2, k3⟩ := (hE.here.2).c3;go_wp2_with fail
   go_ret
   exact ⟨(by first | rfl | (unfold upB; simp [*])), hE.bel⟩
theorem up6_v (ng od : Bool) (h : Int) (w : World) :
  Calls Tryz.prog 117 #[.agg #[.bool ng, .bool od, .int .i64 h]] w fun e w' => e = .returned (.bool (upB 6 ng od h)) ∧ Below w.heap.size w w' := by
 by_cases h1 : 0 < h
 ·
  have t1 : decide (0 < h) = true := decide_eq_true h1;have hE := (Env.start w).blk 106 #[.bool ng, .bool od, .int .i64 h] (g := w.heap.size) rfl
  obtain ⟨W0, hW0⟩ : ∃ W0, W0 = (w.alloc (.cells #[.bool ng, .bool od, .int .i64 h] 106)) := ⟨_, rfl⟩
  rw [← hW0] at hE;have HW0 := Lib.hid hW0;clear hW0
  go_enter Tryz.func117, Tryz.ntmps117
  go_upto_region 1 with (fail)
  rw [← HW0.out];obtain ⟨k1, k2, k3⟩ := (hE.here.2).c3;go_wp2_with fail
  go_ret
  exact ⟨(by first | rfl | (unfold upB; simp [*])), hE.bel⟩
 ·
  have t1 : decide (0 < h) = false := decide_eq_false h1
  by_cases h2 : h = 0
  ·
   subst h2;clear h1 t1
   cases od
   ·
    have hE := (Env.start w).blk 106 #[.bool ng, .bool false, .int .i64 0] (g := w.heap.size) rfl
    obtain ⟨W0, hW0⟩ : ∃ W0, W0 = (w.alloc (.cells #[.bool ng, .bool false, .int .i64 0] 106)) := ⟨_, rfl⟩
    rw [← hW0] at hE;have HW0 := Lib.hid hW0;clear hW0
    go_enter Tryz.func117, Tryz.ntmps117
    go_upto_region 1 with (fail)
    rw [← HW0.out];obtain ⟨k1, k2, k3⟩ := (hE.here.2).c3;go_wp2_with fail
    go_ret
    exact ⟨(by first | rfl | (unfold upB; simp [*])), hE.bel⟩
   ·
    have hE := (Env.start w).blk 106 #[.bool ng, .bool true, .int .i64 0] (g := w.heap.size) rfl
    obtain ⟨W0, hW0⟩ : ∃ W0, W0 = (w.alloc (.cells #[.bool ng, .bool true, .int .i64 0] 106)) := ⟨_, rfl⟩
    rw [← hW0] at hE;have HW0 := Lib.hid hW0;clear hW0
    go_enter Tryz.func117, Tryz.ntmps117
    go_upto_region 1 with (fail)
    rw [← HW0.out];obtain ⟨k1, k2, k3⟩ := (hE.here.2).c3;go_wp2_with fail
    go_ret
    exact ⟨(by first | rfl | (unfold upB; simp [*])), hE.bel⟩
  ·
   have t2 : (h == 0) = false := beq_eq_false_iff_ne.2 h2;have hE := (Env.start w).blk 106 #[.bool ng, .bool od, .int .i64 h] (g := w.heap.size) rfl
   obtain ⟨W0, hW0⟩ : ∃ W0, W0 = (w.alloc (.cells #[.bool ng, .bool od, .int .i64 h] 106)) := ⟨_, rfl⟩
   rw [← hW0] at hE;have HW0 := Lib.hid hW0;clear hW0
   go_enter Tryz.func117, Tryz.ntmps117
   go_upto_region 1 with (fail)
   rw [← HW0.out];obtain ⟨k1, k2, k3⟩ := (hE.here.2).c3;go_wp2_with fail
   go_ret
   exact ⟨(by first | rfl | (unfold upB; simp [*])), hE.bel⟩
end
section
open Go.RowKit

def At (b o : Nat) (v : Value) (V : World) : Prop := b < V.heap.size ∧ V.cell? ⟨b, o, none⟩ = some v
theorem At.stable (b o : Nat) (v : Value) : Stable (At b o v) := fun _ _ hb h => ⟨Nat.lt_of_lt_of_le h.1 hb.size, (hb.cell (p := ⟨b, o, none⟩) h.1).trans h.2⟩
theorem Env.at_ {w W : World} {P : World → Prop} {b o : Nat} {v : Value} (h : Env w P W) (hb : b < W.heap.size) (hc : W.cell? ⟨b, o, none⟩ = some v) : Env w (fun V => P V ∧ At b o v V) W := h.and (At.stable b o v) ⟨hb, hc⟩
end
section
open Go.RowKit

end
section
open Go.RowKit

theorem wint_v {z : Int} {s : Bool} {A : Option Addr} {n c : Nat} {w : World} (ha : WV w z s A n) (la : n ≤ 1024) :
  Calls Tryz.prog 78 #[.agg #[.bool s, .slice A n c]] w fun e w' => ∃ r k, e = .returned (.tuple #[.int .i64 r, .int .i64 k]) ∧ IntR z r k ∧ Below w.heap.size w w' := by
 obtain ⟨rfl, rfl, hA⟩ := ha
 by_cases h4 : ln b16 z.natAbs ≤ 4
 ·
  have h := int_walk (decide (z < 0)) A (ln b16 z.natAbs) c (dgt b16 z.natAbs) w hA (fun i => dgt16_lt _ i) (okW_num la) h4;rw [vs_dgt_ln b16_two, toI_int] at h;exact h
 ·
  refine (int_long (decide (z < 0)) A (ln b16 z.natAbs) c (dgt b16 z.natAbs) w hA (fun i _ => dgt16_lt _ i) (by omega) (okW_num la) (by omega)).mono ?_
  rintro e w' ⟨rfl, hb⟩
  have h5 : ¬ z.natAbs < b16 ^ 4 := fun h => h4 ((ln_le b16_two).2 h)
  have h6 : b16 ^ 4 = 18446744073709551616 := rfl;refine ⟨0, 3, rfl, .inr ⟨?_, rfl, rfl⟩, hb⟩;unfold fits
  by_cases h7 : -9223372036854775808 ≤ z
  · rw [decide_eq_false (show ¬ z ≤ 9223372036854775807 by omega), Bool.and_false]
  · rw [decide_eq_false h7, Bool.false_and]
def FIntR (a : Rat) (r k : Int) : Prop := ((a.den : Int) = 1 ∧ IntR a.num r k) ∨ (¬ (a.den : Int) = 1 ∧ r = 0 ∧ k = 22)
theorem fint_v {a : Rat} {sa ta : Bool} {Aa Ba : Option Addr} {na ca ma da : Nat} {w : World} (ha : FV w a sa Aa na ta Ba ma) (la : fl a ≤ 256) :
  Calls Tryz.prog 44 #[.agg #[.bool sa, .slice Aa na ca, .bool ta, .slice Ba ma da]] w (fun e w' => ∃ r k, e = .returned (.tuple #[.int .i64 r, .int .i64 k]) ∧ FIntR a r k ∧ Below w.heap.size w w') := by
 have hE := ((Env.start w).fv ha).blk 29 #[.bool sa, .slice Aa na ca, .bool ta, .slice Ba ma da] (g := w.heap.size) rfl
 obtain ⟨W0, hW0⟩ : ∃ W0, W0 = (w.alloc (.cells #[.bool sa, .slice Aa na ca, .bool ta, .slice Ba ma da] 29)) := ⟨_, rfl⟩
 rw [← hW0] at hE;have HW0 := Lib.hid hW0;clear hW0
 go_enter Tryz.func44, Tryz.ntmps44
 go_upto_region 1 with (fail)
 rw [← HW0.out];obtain ⟨ha1, ha2⟩ := ha.ln la;obtain ⟨qa1, qa2⟩ := fv_lens ha la;obtain ⟨k1, k2, k3, k4⟩ := (hE.here.2).c4;go_wp2_with fail
 refine hE.br (fvalid_v0 (c := ca) (d := da) hE.here.1.2 la) ?_;clear hE k1 k2 k3 k4;intro w5 hE
 by_cases h1 : (a.den : Int) = 1
 ·
  have hd : decide ((a.den : Int) = 1) = true := decide_eq_true h1;obtain ⟨k6, k7, k8, k9⟩ := (hE.here.2).c4;go_wp2_with fail
  have hc := fintegral_v (s := sa) (A := Aa) (n := na) (c := ca) (d := da) (hE.here.1.2).2 (by omega);rw [hd] at hc;refine hE.br hc ?_;clear hE hc k6 k7 k8 k9;intro w10 hE;obtain ⟨k11, k12, k13, k14⟩ := (hE.here.2).c4;go_wp2_with fail
  refine (wint_v (c := ca) (hE.here.1.2).1 (by omega)).mono ?_;clear k11 k12 k13 k14
  rintro e w9 ⟨r, k, rfl, hr, hb⟩
  replace hE := hE.step hb;clear hb;go_wp2_with fail
  refine bodyPost_ret (v := .tuple #[.int .i64 r, .int .i64 k]) (by simp [results, Tryz.results44, go_sem]) rfl ?_;exact ⟨r, k, rfl, .inl ⟨h1, hr⟩, hE.bel⟩
 ·
  have hd : decide ((a.den : Int) = 1) = false := decide_eq_false h1;obtain ⟨k15, k16, k17, k18⟩ := (hE.here.2).c4;go_wp2_with fail
  have hc := fintegral_v (s := sa) (A := Aa) (n := na) (c := ca) (d := da) (hE.here.1.2).2 (by omega);rw [hd] at hc;refine hE.br hc ?_;clear hE hc k15 k16 k17 k18;intro w19 hE;go_wp2_with fail
  refine bodyPost_ret (v := .tuple #[.int .i64 0, .int .i64 22]) (by simp [results, Tryz.results44, go_sem]) rfl ?_;exact ⟨0, 22, rfl, .inr ⟨h1, rfl, rfl⟩, hE.bel⟩
end
section
open Go.RowKit

end
section
open Go.RowKit

end
section
open Go.RowKit

theorem fl_div {N D : Int} {k : Nat} (h : 0 < D) (h1 : ln b16 N.natAbs ≤ k) (h2 : ln b16 D.natAbs ≤ k) : fl (Rat.divInt N D) ≤ k := by
 obtain ⟨e1, e2⟩ := low_num (n := N) h;rw [fl_le];refine ⟨?_, ?_⟩
 · rw [e1]; exact Nat.le_trans (ln_mono b16_two (Int.natAbs_ediv_le_natAbs _ _)) h1
 ·
  have e3 : (Rat.divInt N D).den = (D / ((Nat.gcd N.natAbs D.natAbs : Nat) : Int)).natAbs := by omega
  rw [e3]; exact Nat.le_trans (ln_mono b16_two (Int.natAbs_ediv_le_natAbs _ _)) h2
theorem fl_z {a : Rat} {i : Nat} (ha : fl a ≤ i) : ln b16 a.num.natAbs ≤ i ∧ ln b16 ((a.den : Int)).natAbs ≤ i := by
 rw [Int.natAbs_natCast]; exact fl_le.1 ha
theorem den_posZ (a : Rat) : 0 < (a.den : Int) := by have := a.den_pos; omega
theorem fl_minus {a b : Rat} {i j : Nat} (ha : fl a ≤ i) (hb : fl b ≤ j) : fl (a - b) ≤ i + j + 1 := by
 obtain ⟨a1, a2⟩ := fl_z ha;obtain ⟨b1, b2⟩ := fl_z hb;rw [← sub_low];refine fl_div (Int.mul_pos (den_posZ a) (den_posZ b)) (ln_addZ (m := i + j) (ln_mulZ a1 b2) (by rw [Int.natAbs_neg]; exact Nat.le_trans (ln_mulZ b1 a2) (by omega))) (Nat.le_trans (ln_mulZ a2 b2) (by omega))
theorem fl_times {a b : Rat} {i j : Nat} (ha : fl a ≤ i) (hb : fl b ≤ j) : fl (a * b) ≤ i + j := by
 obtain ⟨a1, a2⟩ := fl_z ha;obtain ⟨b1, b2⟩ := fl_z hb;rw [← mul_low];exact fl_div (Int.mul_pos (den_posZ a) (den_posZ b)) (ln_mulZ a1 b1) (ln_mulZ a2 b2)
theorem fl_over {a b : Rat} {i j : Nat} (ha : fl a ≤ i) (hb : fl b ≤ j) (h0 : b.num ≠ 0) : fl (a / b) ≤ i + j := by
 obtain ⟨a1, a2⟩ := fl_z ha;obtain ⟨b1, b2⟩ := fl_z hb;rw [← div_low]
 rcases Int.lt_trichotomy b.num 0 with h | h | h
 ·
  rw [← low_neg];refine fl_div ?_ (by rw [Int.natAbs_neg]; exact ln_mulZ a1 b2) (by rw [Int.natAbs_neg]; exact ln_mulZ a2 b1);rw [← Int.mul_neg];exact Int.mul_pos (den_posZ a) (by omega)
 · exact absurd h h0
 · exact fl_div (Int.mul_pos (den_posZ a) h) (ln_mulZ a1 b2) (ln_mulZ a2 b1)
theorem fl_le2 {a : Rat} {i j : Nat} (h : fl a ≤ i) (h2 : i ≤ j) : fl a ≤ j := Nat.le_trans h h2
theorem FRd.stable (A : Option Addr) (n : Nat) (f : Nat → Nat) (B : Option Addr) (m : Nat) (g : Nat → Nat) : Stable (fun w => FRd w A n f B m g) := fun _ _ hb h => h.below hb
theorem Env.frd {w W : World} {P : World → Prop} {A B : Option Addr} {n m : Nat} {f g : Nat → Nat} (h : Env w P W) (hr : FRd W A n f B m g) : Env w (fun V => P V ∧ FRd V A n f B m g) W := h.and (FRd.stable A n f B m g) hr
end
section
open Go.RowKit

theorem cmpQ_val (a b : Rat) : cmpQ a b = if a < b then -1 else if a = b then 0 else 1 := by
 unfold cmpQ cmpZ;simp only [← cmp_lt, ← cmp_eq];generalize a.num * (b.den : Int) = x;generalize b.num * (a.den : Int) = y
 grind
end
section
open Go.RowKit

def floorQ (a : Rat) : Int := a.num.fdiv (a.den : Int)
theorem floorQ_mul (a : Rat) : floorQ a * (a.den : Int) ≤ a.num ∧ a.num < (floorQ a + 1) * (a.den : Int) ∧ (a.num.fmod (a.den : Int) = 0 ↔ floorQ a * (a.den : Int) = a.num) := by
 have hp := den_posZ a;have h1 := Int.fmod_nonneg_of_pos a.num hp;have h2 := Int.fmod_lt_of_pos a.num hp;have h3 := Int.fmod_add_mul_fdiv a.num (a.den : Int);unfold floorQ;have h4 : a.num.fdiv (a.den : Int) * (a.den : Int) = (a.den : Int) * a.num.fdiv (a.den : Int) := Int.mul_comm _ _
 have h5 : (a.num.fdiv (a.den : Int) + 1) * (a.den : Int) = a.num.fdiv (a.den : Int) * (a.den : Int) + (a.den : Int) := by rw [Int.add_mul, Int.one_mul]
 omega
theorem int_num (z : Int) : ((z : Int) : Rat).num = z ∧ ((z : Int) : Rat).den = 1 := ⟨Rat.num_intCast z, Rat.den_intCast z⟩
theorem z_le {z : Int} {a : Rat} : ((z : Int) : Rat) ≤ a ↔ z * (a.den : Int) ≤ a.num := by
 rw [Rat.le_iff, (int_num z).1, (int_num z).2]; simp
theorem lt_z {z : Int} {a : Rat} : a < ((z : Int) : Rat) ↔ a.num < z * (a.den : Int) := by
 rw [Rat.lt_iff, (int_num z).1, (int_num z).2]; simp
theorem floorQ_le (a : Rat) : ((floorQ a : Int) : Rat) ≤ a := z_le.2 (floorQ_mul a).1
theorem floorQ_lt (a : Rat) : a < ((floorQ a + 1 : Int) : Rat) := lt_z.2 (floorQ_mul a).2.1
end
end Go.Proofs.YtjgihmmeimfheaaGreat
