/-
  Several texts in one: The range-function of life.person's years. The probability of being alive after some years as a product: bounds, denominators, lengths. The rates of a right life: from 0 to 1, denominators of one limb. What stays where memory grows and blocks that are no cells are turned. What a round of a range over the years keeps; the books of alive, dies and Expect.
-/
import Derived.RangeFuncCalls
import Derived.RangeFuncLeaves
import Derived.RangeFuncBox
import Derived.Shelf.Abstract
import Derived.Shelf.RegionOpen
import Derived.OwnWalkIn
import Derived.TacticsInMore
import Derived.LoopNIn
import Derived.LoopIn
import Derived.Test.YtgkepllfdhcdpaaGreatK1
import Derived.Test.YtgkepllfdhcdpaaGreatK10
import Derived.Test.YtgkepllfdhcdpaaGreatK4
namespace Go.Proofs.YtgkepllfdhcdpaaGreat
open Go.RowKit Go.Shelf
attribute [local go_sem] Oper.semAt_some

/-- A year with its rate, as it is yielded. -/
structure Yr where
  k : Nat
  s : Bool
  A : Option Addr
  n : Nat
  c : Nat
  t : Bool
  B : Option Addr
  m : Nat
  d : Nat
def Yr.vals (x : Yr) : Array Value := #[.int .i64 (x.k : Int), .agg #[.bool x.s, .slice x.A x.n x.c, .bool x.t, .slice x.B x.m x.d]]
def Yr.fit (q : Nat → Rat) (pre : List Yr) (x : Yr) (W : World) : Prop := x.k = pre.length ∧ FV W (q x.k) x.s x.A x.n x.t x.B x.m
/-- The years 0, 1, .., j - 1. -/
def Yrs (l : List Yr) (j : Nat) : Prop := l.map Yr.k = List.range j
theorem Yrs.nil : Yrs [] 0 := rfl
theorem Yrs.snoc {l : List Yr} {j : Nat} {x : Yr} (h : Yrs l j) (hx : x.k = j) : Yrs (l ++ [x]) (j + 1) := by
  unfold Yrs at *
  rw [List.map_append, h, List.range_succ, ← hx]
  rfl
theorem Yrs.length {l : List Yr} {j : Nat} (h : Yrs l j) : l.length = j := by
  have := congrArg List.length h
  simpa using this
theorem KpB.blk {n₀ Bs : Nat} {t : TypeId} {cs : Array Value} {W W' : World} (h : KpB n₀ Bs W W') (hb : Blk t Bs cs W) : Blk t Bs cs W' := h.2.trans hb

theorem below_drewZ (B : Nat) (w : World) : Below B w w.drew := ⟨rfl, rfl, rfl, Nat.le_refl _, fun _ _ => rfl⟩
set_option linter.unusedSimpArgs false in
set_option maxRecDepth 100000 in
set_option maxHeartbeats 4000000 in
theorem years1_in (m : Nat) (hm : 2 ≤ m) (l Bs n₀ : Nat) {F S E Y : Int} {A : Option Addr} {n c : Nat} {r : Nat → RH} {w : World} (hn₀ : w.heap.size ≤ n₀) (hT : TabM w A n r) (hR : RightP F S n r E Y) (M : Nat) (hM : M ≤ 1000) (hMa : ∀ k : Nat, k < M → E + Y + (k : Int) ≤ F + (n : Int) - 1) (hMb : F + (n : Int) - 1 < E + Y + (M : Int))
    (J Jx : List Yr → World → Prop)
    (hJ : ∀ pre (W W' : World), J pre W → Below W.heap.size W W' → J pre W')
    (hY : ∀ pre x W, J pre W → Yr.fit (fun k => rt F S n r E Y (k : Int)) pre x W → pre.length < M + 1 → YieldAt Fence.wide (m - 1) Tryz.prog l x.vals W fun e W' =>
      (e = .returned (.bool true) ∧ J (pre ++ [x]) W' ∧ KpB n₀ Bs W W') ∨ (e = .returned (.bool false) ∧ Jx (pre ++ [x]) W'))
    (W : World) (hBs : Blk 75 Bs #[.int .i64 F, .int .i64 S, .slice A n c, .int .i64 E, .int .i64 Y] W) (hW : Below w.heap.size w W) (h0 : J [] W) :
    CallsIn Fence.wide m Tryz.prog 105 #[.func (.yield l) #[] #[], .pointer (some ⟨Bs, 0, none⟩)] W fun e W' => (∃ v, e = .returned v) ∧
      ((∃ ys, Yrs ys (M + 1) ∧ J ys W') ∨ (∃ pre, (∃ j, j ≤ M + 1 ∧ Yrs pre j) ∧ Jx pre W')) := by
  have hro : Fence.wide.round = none := rfl
  refine callsIn_of_wp Tryz.func105 rfl trivial ?_ hro
  simp only [Tryz.ntmps105, List.size_toArray, List.length_cons, List.length_nil, Nat.reduceAdd, Nat.reduceSub, Array.replicate_succ, Array.replicate_zero, List.push_toArray, List.append_toArray, List.nil_append, List.cons_append]
  gi_wp2
  gi_loopw [3] (fun i wr => ∃ (k : Nat) (pre : List Yr), k ≤ M ∧ i = .int .i64 (k : Int) ∧ Yrs pre k ∧ J pre wr ∧ Blk 75 Bs #[.int .i64 F, .int .i64 S, .slice A n c, .int .i64 E, .int .i64 Y] wr ∧ Below w.heap.size w wr)
    (fun i _ => (M + 1 - (intOf i).toNat))
  case atStart => exact ⟨0, [], Nat.zero_le _, rfl, Yrs.nil, h0, hBs, hW⟩
  case round =>
    obtain ⟨k, pre, hk, rfl, hys, hJs, hblk, hbel⟩ := hrel
    obtain ⟨k0, k1, k2, k3, k4⟩ := hblk.c5
    obtain ⟨ht, r1, r2, r3, r4⟩ := id hR
    obtain ⟨f1, f2, s1, s2, n1, n2⟩ : 0 ≤ F ∧ F ≤ 150 ∧ 0 ≤ S ∧ S ≤ 5 ∧ 1 ≤ n ∧ n ≤ 111 := ⟨ht.1.1.1, ht.1.1.2, ht.1.2.1, ht.1.2.2, ht.2.1.1, ht.2.1.2⟩
    have o1 : IntKind.i64.wrap (E + Y) = E + Y := by rw [IntKind.wrap_i64]; omega
    have o2 : IntKind.i64.wrap (E + Y + (k : Int)) = E + Y + (k : Int) := by rw [IntKind.wrap_i64]; omega
    have o3 : IntKind.i64.wrap ((k : Int) + 1) = (k : Int) + 1 := by rw [IntKind.wrap_i64]; omega
    have hmx : Tryz.prog.follows .mixedOrders = true := by kernel_rfl
    gi_wp2
    refine wpIn_region_any (by assumption) ?_
    try (change wpAnyIn _ _ _ _ _ _ _ _ _ (World.drew _))
    refine wpAnyIn_take (i := 0) (v := ?v0_1) rfl rfl (by kernel_rfl) (by kernel_rfl) (by kernel_rfl) (fun _ _ _ h => h) ⟨Or.inl ⟨by rfl, ?hy0_1⟩, fun _ => rfl⟩ ?rest0_1
    case hy0_1 => intro w; first | (go_simp; done) | (go_simp; with_reducible rfl)
    try simp only [Act.put, List.setIfInBounds_toArray, List.set_cons_zero, List.set_cons_succ, List.getElem_toArray, List.getElem_cons_succ, List.getElem_cons_zero]
    refine wpAnyIn_take (i := 1) (v := ?v1_2) rfl rfl (by kernel_rfl) (by kernel_rfl) (by kernel_rfl) (fun _ _ _ h => h) ⟨Or.inl ⟨by rfl, ?hy1_2⟩, fun _ => rfl⟩ ?rest1_2
    case hy1_2 => intro w; first | (go_simp; done) | (go_simp; with_reducible rfl)
    try simp only [Act.put, List.setIfInBounds_toArray, List.set_cons_zero, List.set_cons_succ, List.getElem_toArray, List.getElem_cons_succ, List.getElem_cons_zero]
    refine wpAnyIn_take (i := 3) (v := ?v3_3) rfl rfl (by kernel_rfl) (by kernel_rfl) (by kernel_rfl) (fun _ _ _ h => h) ⟨Or.inl ⟨by rfl, ?hy3_3⟩, fun _ => rfl⟩ ?rest3_3
    case hy3_3 => intro w; first | (go_simp; done) | (go_simp; with_reducible rfl)
    try simp only [Act.put, List.setIfInBounds_toArray, List.set_cons_zero, List.set_cons_succ, List.getElem_toArray, List.getElem_cons_succ, List.getElem_cons_zero]
    refine wpAnyIn_ready (rs := [2]) (by kernel_rfl) (by simp) ?_
    refine AllReadyIn.cons rfl (fun K hK => ?_) ?_
    · go_simp
      refine hK _ _ ?_
      clear hK K
      try simp only [Act.put, List.setIfInBounds_toArray, List.set_cons_zero, List.set_cons_succ, List.getElem_toArray, List.getElem_cons_succ, List.getElem_cons_zero]
      refine wpAnyIn_ready (rs := [4]) (by kernel_rfl) (by simp) ?_
      refine AllReadyIn.cons rfl (fun K hK => ?_) ?_
      · go_simp
        refine ⟨trivial, fun _ => by omega, (callsIn_wide.2 (lrate_v (k := (k : Int)) (hT.below (hbel.trans (below_drewZ _ _))) hR (by omega) (by omega))).mono ?_⟩
        rintro e w1 ⟨s1, A1, n1, c1, t1, B1, m1, d1, rfl, hF1, hb1⟩
        have hb2 : Blk 75 Bs #[.int .i64 F, .int .i64 S, .slice A n c, .int .i64 E, .int .i64 Y] w1 := (hb1.block Bs hblk.lt).trans hblk
        have hbel2 : Below w.heap.size w w1 := (hbel.trans (below_drewZ _ _)).trans (hb1.mono (hbel.trans (below_drewZ _ _)).size)
        have hJ1 := hJ _ _ _ (hJ _ _ _ hJs (below_drewZ _ _)) hb1
        obtain ⟨fn, tmps, assign, body, hy, hR5⟩ := hY _ ⟨k, s1, A1, n1, c1, t1, B1, m1, d1⟩ w1 hJ1 ⟨hys.length.symm, hF1⟩ (by rw [hys.length]; omega)
        gi_wp2_with fail
        refine wpAnyIn_ready (rs := [5]) (by kernel_rfl) (by simp) ?_
        refine AllReadyIn.cons rfl (fun K hK => ?_) ?_
        · dsimp only [Yr.vals] at hy
          go_simp
          refine ⟨fun _ => by omega, hR5.mono ?_⟩
          rintro e W3 (⟨rfl, hJ3, hk3⟩ | ⟨rfl, hJx3⟩)
          · have hb3 := hk3.blk hb2
            obtain ⟨k0, k1, k2, k3, k4⟩ := hb3.c5
            have hbel3 : Below w.heap.size w W3 := (hbel2.trans (hk3.1.mono hn₀))
            gi_wp2_with fail
            refine wpAnyIn_take (i := 6) (v := ?v6_4) rfl rfl (by kernel_rfl) (by kernel_rfl) (by kernel_rfl) (fun _ _ _ h => h) ⟨Or.inl ⟨by rfl, ?hy6_4⟩, fun _ => rfl⟩ ?rest6_4
            case hy6_4 => intro w; first | (go_simp; done) | (go_simp; with_reducible rfl)
            try simp only [Act.put, List.setIfInBounds_toArray, List.set_cons_zero, List.set_cons_succ, List.getElem_toArray, List.getElem_cons_succ, List.getElem_cons_zero]
            refine wpAnyIn_take (i := 7) (v := ?v7_5) rfl rfl (by kernel_rfl) (by kernel_rfl) (by kernel_rfl) (fun _ _ _ h => h) ⟨Or.inl ⟨by rfl, ?hy7_5⟩, fun _ => rfl⟩ ?rest7_5
            case hy7_5 => intro w; first | (go_simp; done) | (go_simp; with_reducible rfl)
            try simp only [Act.put, List.setIfInBounds_toArray, List.set_cons_zero, List.set_cons_succ, List.getElem_toArray, List.getElem_cons_succ, List.getElem_cons_zero]
            refine wpAnyIn_take (i := 8) (v := ?v8_6) rfl rfl (by kernel_rfl) (by kernel_rfl) (by kernel_rfl) (fun _ _ _ h => h) ⟨Or.inl ⟨by rfl, ?hy8_6⟩, fun _ => rfl⟩ ?rest8_6
            case hy8_6 => intro w; first | (go_simp; done) | (go_simp; with_reducible rfl)
            try simp only [Act.put, List.setIfInBounds_toArray, List.set_cons_zero, List.set_cons_succ, List.getElem_toArray, List.getElem_cons_succ, List.getElem_cons_zero]
            refine wpAnyIn_take (i := 9) (v := ?v9_7) rfl rfl (by kernel_rfl) (by kernel_rfl) (by kernel_rfl) (fun _ _ _ h => h) ⟨Or.inl ⟨by rfl, ?hy9_7⟩, fun _ => rfl⟩ ?rest9_7
            case hy9_7 => intro w; first | (go_simp; done) | (go_simp; with_reducible rfl)
            try simp only [Act.put, List.setIfInBounds_toArray, List.set_cons_zero, List.set_cons_succ, List.getElem_toArray, List.getElem_cons_succ, List.getElem_cons_zero]
            refine wpAnyIn_take (i := 11) (v := ?v11_8) rfl rfl (by kernel_rfl) (by kernel_rfl) (by kernel_rfl) (fun _ _ _ h => h) ⟨Or.inl ⟨by rfl, ?hy11_8⟩, fun _ => rfl⟩ ?rest11_8
            case hy11_8 => intro w; first | (go_simp; done) | (go_simp; with_reducible rfl)
            try simp only [Act.put, List.setIfInBounds_toArray, List.set_cons_zero, List.set_cons_succ, List.getElem_toArray, List.getElem_cons_succ, List.getElem_cons_zero]
            refine wpAnyIn_take (i := 12) (v := ?v12_9) rfl rfl (by kernel_rfl) (by kernel_rfl) (by kernel_rfl) (fun _ _ _ h => h) ⟨Or.inl ⟨by rfl, ?hy12_9⟩, fun _ => rfl⟩ ?rest12_9
            case hy12_9 => intro w; first | (go_simp; done) | (go_simp; with_reducible rfl)
            try simp only [Act.put, List.setIfInBounds_toArray, List.set_cons_zero, List.set_cons_succ, List.getElem_toArray, List.getElem_cons_succ, List.getElem_cons_zero]
            refine wpAnyIn_take (i := 15) (v := ?v15_10) rfl rfl (by kernel_rfl) (by kernel_rfl) (by kernel_rfl) (fun _ _ _ h => h) ⟨Or.inl ⟨by rfl, ?hy15_10⟩, fun _ => rfl⟩ ?rest15_10
            case hy15_10 => intro w; first | (go_simp; done) | (go_simp; with_reducible rfl)
            try simp only [Act.put, List.setIfInBounds_toArray, List.set_cons_zero, List.set_cons_succ, List.getElem_toArray, List.getElem_cons_succ, List.getElem_cons_zero]
            refine wpAnyIn_take (i := 17) (v := ?v17_11) rfl rfl (by kernel_rfl) (by kernel_rfl) (by kernel_rfl) (fun _ _ _ h => h) ⟨Or.inl ⟨by rfl, ?hy17_11⟩, fun _ => rfl⟩ ?rest17_11
            case hy17_11 => intro w; first | (go_simp; done) | (go_simp; with_reducible rfl)
            try simp only [Act.put, List.setIfInBounds_toArray, List.set_cons_zero, List.set_cons_succ, List.getElem_toArray, List.getElem_cons_succ, List.getElem_cons_zero]
            refine wpAnyIn_ready (rs := [10, 13, 18]) (by kernel_rfl) (by simp) ?_
            refine AllReadyIn.cons rfl (fun K hK => ?_) ?_
            · go_simp
              refine hK _ _ ?_
              clear hK K
              try simp only [Act.put, List.setIfInBounds_toArray, List.set_cons_zero, List.set_cons_succ, List.getElem_toArray, List.getElem_cons_succ, List.getElem_cons_zero]
              refine wpAnyIn_ready (rs := [13, 18]) (by kernel_rfl) (by simp) ?_
              refine AllReadyIn.cons rfl (fun K hK => ?_) ?_
              · go_simp
                refine hK _ _ ?_
                clear hK K
                try simp only [Act.put, List.setIfInBounds_toArray, List.set_cons_zero, List.set_cons_succ, List.getElem_toArray, List.getElem_cons_succ, List.getElem_cons_zero]
                refine wpAnyIn_take (i := 14) (v := ?v14_12) rfl rfl (by kernel_rfl) (by kernel_rfl) (by kernel_rfl) (fun _ _ _ h => h) ⟨Or.inl ⟨by rfl, ?hy14_12⟩, fun _ => rfl⟩ ?rest14_12
                case hy14_12 => intro w; first | (go_simp; done) | (go_simp; with_reducible rfl)
                try simp only [Act.put, List.setIfInBounds_toArray, List.set_cons_zero, List.set_cons_succ, List.getElem_toArray, List.getElem_cons_succ, List.getElem_cons_zero]
                refine wpAnyIn_take (i := 16) (v := ?v16_13) rfl rfl (by kernel_rfl) (by kernel_rfl) (by kernel_rfl) (fun _ _ _ h => h) ⟨Or.inl ⟨by rfl, ?hy16_13⟩, fun _ => rfl⟩ ?rest16_13
                case hy16_13 => intro w; first | (go_simp; done) | (go_simp; with_reducible rfl)
                try simp only [Act.put, List.setIfInBounds_toArray, List.set_cons_zero, List.set_cons_succ, List.getElem_toArray, List.getElem_cons_succ, List.getElem_cons_zero]
                refine wpAnyIn_ready (rs := [18]) (by kernel_rfl) (by simp) ?_
                refine AllReadyIn.cons rfl (fun K hK => ?_) ?_
                · go_simp
                  refine hK _ _ ?_
                  clear hK K
                  try simp only [Act.put, List.setIfInBounds_toArray, List.set_cons_zero, List.set_cons_succ, List.getElem_toArray, List.getElem_cons_succ, List.getElem_cons_zero]
                  refine wpAnyIn_ready (rs := [19]) (by kernel_rfl) (by simp) ?_
                  refine AllReadyIn.cons rfl (fun K hK => ?_) ?_
                  · go_simp
                    refine ⟨trivial, fun _ => by omega, (callsIn_wide.2 (llast_v F S A n c _ f1 (by omega) (by omega))).mono ?_⟩
                    rintro e w4 ⟨rfl, hb4⟩
                    have hb5 : Blk 75 Bs #[.int .i64 F, .int .i64 S, .slice A n c, .int .i64 E, .int .i64 Y] w4 := (hb4.block Bs hb3.lt).trans hb3
                    obtain ⟨k0, k1, k2, k3, k4⟩ := hb5.c5
                    have hJ4 := hJ _ _ _ hJ3 hb4
                    have hbel4 : Below w.heap.size w w4 := hbel3.trans (hb4.mono hbel3.size)
                    gi_wp2_with fail
                    refine wpAnyIn_take (i := 20) (v := ?v20_14) rfl rfl (by kernel_rfl) (by kernel_rfl) (by kernel_rfl) (fun _ _ _ h => h) ⟨Or.inl ⟨by rfl, ?hy20_14⟩, fun _ => rfl⟩ ?rest20_14
                    case hy20_14 => intro w; first | (go_simp; done) | (go_simp; with_reducible rfl)
                    try simp only [Act.put, List.setIfInBounds_toArray, List.set_cons_zero, List.set_cons_succ, List.getElem_toArray, List.getElem_cons_succ, List.getElem_cons_zero]
                    refine wpAnyIn_take (i := 21) (v := ?v21_15) rfl rfl (by kernel_rfl) (by kernel_rfl) (by kernel_rfl) (fun _ _ _ h => h) ⟨Or.inl ⟨by rfl, ?hy21_15⟩, fun _ => rfl⟩ ?rest21_15
                    case hy21_15 => intro w; first | (go_simp; done) | (go_simp; with_reducible rfl)
                    try simp only [Act.put, List.setIfInBounds_toArray, List.set_cons_zero, List.set_cons_succ, List.getElem_toArray, List.getElem_cons_succ, List.getElem_cons_zero]
                    refine wpAnyIn_done (by kernel_rfl) ?_ _
                    by_cases hkM : k < M
                    · have hcc := hMa k hkM
                      have hng : ¬ (F + (n : Int) - 1 < E + Y + (k : Int)) := by omega
                      gi_wp2
                      go_roundw
                      case rel => exact ⟨k + 1, _, by omega, by (try simp only [ok1]) <;> norm_cast, hys.snoc rfl, hJ4, hb5, hbel4⟩
                      case measure => simp [intOf] <;> omega
                    · obtain rfl : k = M := by omega
                      gi_wp2
                      refine bodyPost_ret (results_none rfl _ _ _) rfl ?_
                      exact ⟨⟨_, rfl⟩, .inl ⟨_, hys.snoc rfl, hJ4⟩⟩
                  exact AllReadyIn.nil
                exact AllReadyIn.nil
              refine AllReadyIn.cons rfl (fun K hK => ?_) ?_
              · go_simp
                refine hK _ _ ?_
                clear hK K
                try simp only [Act.put, List.setIfInBounds_toArray, List.set_cons_zero, List.set_cons_succ, List.getElem_toArray, List.getElem_cons_succ, List.getElem_cons_zero]
                refine wpAnyIn_ready (rs := [13, 19]) (by kernel_rfl) (by simp) ?_
                refine AllReadyIn.cons rfl (fun K hK => ?_) ?_
                · go_simp
                  refine hK _ _ ?_
                  clear hK K
                  try simp only [Act.put, List.setIfInBounds_toArray, List.set_cons_zero, List.set_cons_succ, List.getElem_toArray, List.getElem_cons_succ, List.getElem_cons_zero]
                  refine wpAnyIn_take (i := 14) (v := ?v14_16) rfl rfl (by kernel_rfl) (by kernel_rfl) (by kernel_rfl) (fun _ _ _ h => h) ⟨Or.inl ⟨by rfl, ?hy14_16⟩, fun _ => rfl⟩ ?rest14_16
                  case hy14_16 => intro w; first | (go_simp; done) | (go_simp; with_reducible rfl)
                  try simp only [Act.put, List.setIfInBounds_toArray, List.set_cons_zero, List.set_cons_succ, List.getElem_toArray, List.getElem_cons_succ, List.getElem_cons_zero]
                  refine wpAnyIn_take (i := 16) (v := ?v16_17) rfl rfl (by kernel_rfl) (by kernel_rfl) (by kernel_rfl) (fun _ _ _ h => h) ⟨Or.inl ⟨by rfl, ?hy16_17⟩, fun _ => rfl⟩ ?rest16_17
                  case hy16_17 => intro w; first | (go_simp; done) | (go_simp; with_reducible rfl)
                  try simp only [Act.put, List.setIfInBounds_toArray, List.set_cons_zero, List.set_cons_succ, List.getElem_toArray, List.getElem_cons_succ, List.getElem_cons_zero]
                  refine wpAnyIn_ready (rs := [19]) (by kernel_rfl) (by simp) ?_
                  refine AllReadyIn.cons rfl (fun K hK => ?_) ?_
                  · go_simp
                    refine ⟨trivial, fun _ => by omega, (callsIn_wide.2 (llast_v F S A n c _ f1 (by omega) (by omega))).mono ?_⟩
                    rintro e w4 ⟨rfl, hb4⟩
                    have hb5 : Blk 75 Bs #[.int .i64 F, .int .i64 S, .slice A n c, .int .i64 E, .int .i64 Y] w4 := (hb4.block Bs hb3.lt).trans hb3
                    obtain ⟨k0, k1, k2, k3, k4⟩ := hb5.c5
                    have hJ4 := hJ _ _ _ hJ3 hb4
                    have hbel4 : Below w.heap.size w w4 := hbel3.trans (hb4.mono hbel3.size)
                    gi_wp2_with fail
                    refine wpAnyIn_take (i := 20) (v := ?v20_18) rfl rfl (by kernel_rfl) (by kernel_rfl) (by kernel_rfl) (fun _ _ _ h => h) ⟨Or.inl ⟨by rfl, ?hy20_18⟩, fun _ => rfl⟩ ?rest20_18
                    case hy20_18 => intro w; first | (go_simp; done) | (go_simp; with_reducible rfl)
                    try simp only [Act.put, List.setIfInBounds_toArray, List.set_cons_zero, List.set_cons_succ, List.getElem_toArray, List.getElem_cons_succ, List.getElem_cons_zero]
                    refine wpAnyIn_take (i := 21) (v := ?v21_19) rfl rfl (by kernel_rfl) (by kernel_rfl) (by kernel_rfl) (fun _ _ _ h => h) ⟨Or.inl ⟨by rfl, ?hy21_19⟩, fun _ => rfl⟩ ?rest21_19
                    case hy21_19 => intro w; first | (go_simp; done) | (go_simp; with_reducible rfl)
                    try simp only [Act.put, List.setIfInBounds_toArray, List.set_cons_zero, List.set_cons_succ, List.getElem_toArray, List.getElem_cons_succ, List.getElem_cons_zero]
                    refine wpAnyIn_done (by kernel_rfl) ?_ _
                    by_cases hkM : k < M
                    · have hcc := hMa k hkM
                      have hng : ¬ (F + (n : Int) - 1 < E + Y + (k : Int)) := by omega
                      gi_wp2
                      go_roundw
                      case rel => exact ⟨k + 1, _, by omega, by (try simp only [ok1]) <;> norm_cast, hys.snoc rfl, hJ4, hb5, hbel4⟩
                      case measure => simp [intOf] <;> omega
                    · obtain rfl : k = M := by omega
                      gi_wp2
                      refine bodyPost_ret (results_none rfl _ _ _) rfl ?_
                      exact ⟨⟨_, rfl⟩, .inl ⟨_, hys.snoc rfl, hJ4⟩⟩
                  exact AllReadyIn.nil
                refine AllReadyIn.cons rfl (fun K hK => ?_) ?_
                · go_simp
                  refine ⟨trivial, fun _ => by omega, (callsIn_wide.2 (llast_v F S A n c _ f1 (by omega) (by omega))).mono ?_⟩
                  rintro e w4 ⟨rfl, hb4⟩
                  have hb5 : Blk 75 Bs #[.int .i64 F, .int .i64 S, .slice A n c, .int .i64 E, .int .i64 Y] w4 := (hb4.block Bs hb3.lt).trans hb3
                  obtain ⟨k0, k1, k2, k3, k4⟩ := hb5.c5
                  have hJ4 := hJ _ _ _ hJ3 hb4
                  have hbel4 : Below w.heap.size w w4 := hbel3.trans (hb4.mono hbel3.size)
                  gi_wp2_with fail
                  refine wpAnyIn_ready (rs := [13]) (by kernel_rfl) (by simp) ?_
                  refine AllReadyIn.cons rfl (fun K hK => ?_) ?_
                  · go_simp
                    refine hK _ _ ?_
                    clear hK K
                    try simp only [Act.put, List.setIfInBounds_toArray, List.set_cons_zero, List.set_cons_succ, List.getElem_toArray, List.getElem_cons_succ, List.getElem_cons_zero]
                    refine wpAnyIn_take (i := 14) (v := ?v14_20) rfl rfl (by kernel_rfl) (by kernel_rfl) (by kernel_rfl) (fun _ _ _ h => h) ⟨Or.inl ⟨by rfl, ?hy14_20⟩, fun _ => rfl⟩ ?rest14_20
                    case hy14_20 => intro w; first | (go_simp; done) | (go_simp; with_reducible rfl)
                    try simp only [Act.put, List.setIfInBounds_toArray, List.set_cons_zero, List.set_cons_succ, List.getElem_toArray, List.getElem_cons_succ, List.getElem_cons_zero]
                    refine wpAnyIn_take (i := 16) (v := ?v16_21) rfl rfl (by kernel_rfl) (by kernel_rfl) (by kernel_rfl) (fun _ _ _ h => h) ⟨Or.inl ⟨by rfl, ?hy16_21⟩, fun _ => rfl⟩ ?rest16_21
                    case hy16_21 => intro w; first | (go_simp; done) | (go_simp; with_reducible rfl)
                    try simp only [Act.put, List.setIfInBounds_toArray, List.set_cons_zero, List.set_cons_succ, List.getElem_toArray, List.getElem_cons_succ, List.getElem_cons_zero]
                    refine wpAnyIn_take (i := 20) (v := ?v20_22) rfl rfl (by kernel_rfl) (by kernel_rfl) (by kernel_rfl) (fun _ _ _ h => h) ⟨Or.inl ⟨by rfl, ?hy20_22⟩, fun _ => rfl⟩ ?rest20_22
                    case hy20_22 => intro w; first | (go_simp; done) | (go_simp; with_reducible rfl)
                    try simp only [Act.put, List.setIfInBounds_toArray, List.set_cons_zero, List.set_cons_succ, List.getElem_toArray, List.getElem_cons_succ, List.getElem_cons_zero]
                    refine wpAnyIn_take (i := 21) (v := ?v21_23) rfl rfl (by kernel_rfl) (by kernel_rfl) (by kernel_rfl) (fun _ _ _ h => h) ⟨Or.inl ⟨by rfl, ?hy21_23⟩, fun _ => rfl⟩ ?rest21_23
                    case hy21_23 => intro w; first | (go_simp; done) | (go_simp; with_reducible rfl)
                    try simp only [Act.put, List.setIfInBounds_toArray, List.set_cons_zero, List.set_cons_succ, List.getElem_toArray, List.getElem_cons_succ, List.getElem_cons_zero]
                    refine wpAnyIn_done (by kernel_rfl) ?_ _
                    by_cases hkM : k < M
                    · have hcc := hMa k hkM
                      have hng : ¬ (F + (n : Int) - 1 < E + Y + (k : Int)) := by omega
                      gi_wp2
                      go_roundw
                      case rel => exact ⟨k + 1, _, by omega, by (try simp only [ok1]) <;> norm_cast, hys.snoc rfl, hJ4, hb5, hbel4⟩
                      case measure => simp [intOf] <;> omega
                    · obtain rfl : k = M := by omega
                      gi_wp2
                      refine bodyPost_ret (results_none rfl _ _ _) rfl ?_
                      exact ⟨⟨_, rfl⟩, .inl ⟨_, hys.snoc rfl, hJ4⟩⟩
                  exact AllReadyIn.nil
                exact AllReadyIn.nil
              exact AllReadyIn.nil
            refine AllReadyIn.cons rfl (fun K hK => ?_) ?_
            · go_simp
              refine hK _ _ ?_
              clear hK K
              try simp only [Act.put, List.setIfInBounds_toArray, List.set_cons_zero, List.set_cons_succ, List.getElem_toArray, List.getElem_cons_succ, List.getElem_cons_zero]
              refine wpAnyIn_ready (rs := [10, 18]) (by kernel_rfl) (by simp) ?_
              refine AllReadyIn.cons rfl (fun K hK => ?_) ?_
              · go_simp
                refine hK _ _ ?_
                clear hK K
                try simp only [Act.put, List.setIfInBounds_toArray, List.set_cons_zero, List.set_cons_succ, List.getElem_toArray, List.getElem_cons_succ, List.getElem_cons_zero]
                refine wpAnyIn_take (i := 14) (v := ?v14_24) rfl rfl (by kernel_rfl) (by kernel_rfl) (by kernel_rfl) (fun _ _ _ h => h) ⟨Or.inl ⟨by rfl, ?hy14_24⟩, fun _ => rfl⟩ ?rest14_24
                case hy14_24 => intro w; first | (go_simp; done) | (go_simp; with_reducible rfl)
                try simp only [Act.put, List.setIfInBounds_toArray, List.set_cons_zero, List.set_cons_succ, List.getElem_toArray, List.getElem_cons_succ, List.getElem_cons_zero]
                refine wpAnyIn_take (i := 16) (v := ?v16_25) rfl rfl (by kernel_rfl) (by kernel_rfl) (by kernel_rfl) (fun _ _ _ h => h) ⟨Or.inl ⟨by rfl, ?hy16_25⟩, fun _ => rfl⟩ ?rest16_25
                case hy16_25 => intro w; first | (go_simp; done) | (go_simp; with_reducible rfl)
                try simp only [Act.put, List.setIfInBounds_toArray, List.set_cons_zero, List.set_cons_succ, List.getElem_toArray, List.getElem_cons_succ, List.getElem_cons_zero]
                refine wpAnyIn_ready (rs := [18]) (by kernel_rfl) (by simp) ?_
                refine AllReadyIn.cons rfl (fun K hK => ?_) ?_
                · go_simp
                  refine hK _ _ ?_
                  clear hK K
                  try simp only [Act.put, List.setIfInBounds_toArray, List.set_cons_zero, List.set_cons_succ, List.getElem_toArray, List.getElem_cons_succ, List.getElem_cons_zero]
                  refine wpAnyIn_ready (rs := [19]) (by kernel_rfl) (by simp) ?_
                  refine AllReadyIn.cons rfl (fun K hK => ?_) ?_
                  · go_simp
                    refine ⟨trivial, fun _ => by omega, (callsIn_wide.2 (llast_v F S A n c _ f1 (by omega) (by omega))).mono ?_⟩
                    rintro e w4 ⟨rfl, hb4⟩
                    have hb5 : Blk 75 Bs #[.int .i64 F, .int .i64 S, .slice A n c, .int .i64 E, .int .i64 Y] w4 := (hb4.block Bs hb3.lt).trans hb3
                    obtain ⟨k0, k1, k2, k3, k4⟩ := hb5.c5
                    have hJ4 := hJ _ _ _ hJ3 hb4
                    have hbel4 : Below w.heap.size w w4 := hbel3.trans (hb4.mono hbel3.size)
                    gi_wp2_with fail
                    refine wpAnyIn_take (i := 20) (v := ?v20_26) rfl rfl (by kernel_rfl) (by kernel_rfl) (by kernel_rfl) (fun _ _ _ h => h) ⟨Or.inl ⟨by rfl, ?hy20_26⟩, fun _ => rfl⟩ ?rest20_26
                    case hy20_26 => intro w; first | (go_simp; done) | (go_simp; with_reducible rfl)
                    try simp only [Act.put, List.setIfInBounds_toArray, List.set_cons_zero, List.set_cons_succ, List.getElem_toArray, List.getElem_cons_succ, List.getElem_cons_zero]
                    refine wpAnyIn_take (i := 21) (v := ?v21_27) rfl rfl (by kernel_rfl) (by kernel_rfl) (by kernel_rfl) (fun _ _ _ h => h) ⟨Or.inl ⟨by rfl, ?hy21_27⟩, fun _ => rfl⟩ ?rest21_27
                    case hy21_27 => intro w; first | (go_simp; done) | (go_simp; with_reducible rfl)
                    try simp only [Act.put, List.setIfInBounds_toArray, List.set_cons_zero, List.set_cons_succ, List.getElem_toArray, List.getElem_cons_succ, List.getElem_cons_zero]
                    refine wpAnyIn_done (by kernel_rfl) ?_ _
                    by_cases hkM : k < M
                    · have hcc := hMa k hkM
                      have hng : ¬ (F + (n : Int) - 1 < E + Y + (k : Int)) := by omega
                      gi_wp2
                      go_roundw
                      case rel => exact ⟨k + 1, _, by omega, by (try simp only [ok1]) <;> norm_cast, hys.snoc rfl, hJ4, hb5, hbel4⟩
                      case measure => simp [intOf] <;> omega
                    · obtain rfl : k = M := by omega
                      gi_wp2
                      refine bodyPost_ret (results_none rfl _ _ _) rfl ?_
                      exact ⟨⟨_, rfl⟩, .inl ⟨_, hys.snoc rfl, hJ4⟩⟩
                  exact AllReadyIn.nil
                exact AllReadyIn.nil
              refine AllReadyIn.cons rfl (fun K hK => ?_) ?_
              · go_simp
                refine hK _ _ ?_
                clear hK K
                try simp only [Act.put, List.setIfInBounds_toArray, List.set_cons_zero, List.set_cons_succ, List.getElem_toArray, List.getElem_cons_succ, List.getElem_cons_zero]
                refine wpAnyIn_ready (rs := [10, 19]) (by kernel_rfl) (by simp) ?_
                refine AllReadyIn.cons rfl (fun K hK => ?_) ?_
                · go_simp
                  refine hK _ _ ?_
                  clear hK K
                  try simp only [Act.put, List.setIfInBounds_toArray, List.set_cons_zero, List.set_cons_succ, List.getElem_toArray, List.getElem_cons_succ, List.getElem_cons_zero]
                  refine wpAnyIn_take (i := 14) (v := ?v14_28) rfl rfl (by kernel_rfl) (by kernel_rfl) (by kernel_rfl) (fun _ _ _ h => h) ⟨Or.inl ⟨by rfl, ?hy14_28⟩, fun _ => rfl⟩ ?rest14_28
                  case hy14_28 => intro w; first | (go_simp; done) | (go_simp; with_reducible rfl)
                  try simp only [Act.put, List.setIfInBounds_toArray, List.set_cons_zero, List.set_cons_succ, List.getElem_toArray, List.getElem_cons_succ, List.getElem_cons_zero]
                  refine wpAnyIn_take (i := 16) (v := ?v16_29) rfl rfl (by kernel_rfl) (by kernel_rfl) (by kernel_rfl) (fun _ _ _ h => h) ⟨Or.inl ⟨by rfl, ?hy16_29⟩, fun _ => rfl⟩ ?rest16_29
                  case hy16_29 => intro w; first | (go_simp; done) | (go_simp; with_reducible rfl)
                  try simp only [Act.put, List.setIfInBounds_toArray, List.set_cons_zero, List.set_cons_succ, List.getElem_toArray, List.getElem_cons_succ, List.getElem_cons_zero]
                  refine wpAnyIn_ready (rs := [19]) (by kernel_rfl) (by simp) ?_
                  refine AllReadyIn.cons rfl (fun K hK => ?_) ?_
                  · go_simp
                    refine ⟨trivial, fun _ => by omega, (callsIn_wide.2 (llast_v F S A n c _ f1 (by omega) (by omega))).mono ?_⟩
                    rintro e w4 ⟨rfl, hb4⟩
                    have hb5 : Blk 75 Bs #[.int .i64 F, .int .i64 S, .slice A n c, .int .i64 E, .int .i64 Y] w4 := (hb4.block Bs hb3.lt).trans hb3
                    obtain ⟨k0, k1, k2, k3, k4⟩ := hb5.c5
                    have hJ4 := hJ _ _ _ hJ3 hb4
                    have hbel4 : Below w.heap.size w w4 := hbel3.trans (hb4.mono hbel3.size)
                    gi_wp2_with fail
                    refine wpAnyIn_take (i := 20) (v := ?v20_30) rfl rfl (by kernel_rfl) (by kernel_rfl) (by kernel_rfl) (fun _ _ _ h => h) ⟨Or.inl ⟨by rfl, ?hy20_30⟩, fun _ => rfl⟩ ?rest20_30
                    case hy20_30 => intro w; first | (go_simp; done) | (go_simp; with_reducible rfl)
                    try simp only [Act.put, List.setIfInBounds_toArray, List.set_cons_zero, List.set_cons_succ, List.getElem_toArray, List.getElem_cons_succ, List.getElem_cons_zero]
                    refine wpAnyIn_take (i := 21) (v := ?v21_31) rfl rfl (by kernel_rfl) (by kernel_rfl) (by kernel_rfl) (fun _ _ _ h => h) ⟨Or.inl ⟨by rfl, ?hy21_31⟩, fun _ => rfl⟩ ?rest21_31
                    case hy21_31 => intro w; first | (go_simp; done) | (go_simp; with_reducible rfl)
                    try simp only [Act.put, List.setIfInBounds_toArray, List.set_cons_zero, List.set_cons_succ, List.getElem_toArray, List.getElem_cons_succ, List.getElem_cons_zero]
                    refine wpAnyIn_done (by kernel_rfl) ?_ _
                    by_cases hkM : k < M
                    · have hcc := hMa k hkM
                      have hng : ¬ (F + (n : Int) - 1 < E + Y + (k : Int)) := by omega
                      gi_wp2
                      go_roundw
                      case rel => exact ⟨k + 1, _, by omega, by (try simp only [ok1]) <;> norm_cast, hys.snoc rfl, hJ4, hb5, hbel4⟩
                      case measure => simp [intOf] <;> omega
                    · obtain rfl : k = M := by omega
                      gi_wp2
                      refine bodyPost_ret (results_none rfl _ _ _) rfl ?_
                      exact ⟨⟨_, rfl⟩, .inl ⟨_, hys.snoc rfl, hJ4⟩⟩
                  exact AllReadyIn.nil
                refine AllReadyIn.cons rfl (fun K hK => ?_) ?_
                · go_simp
                  refine ⟨trivial, fun _ => by omega, (callsIn_wide.2 (llast_v F S A n c _ f1 (by omega) (by omega))).mono ?_⟩
                  rintro e w4 ⟨rfl, hb4⟩
                  have hb5 : Blk 75 Bs #[.int .i64 F, .int .i64 S, .slice A n c, .int .i64 E, .int .i64 Y] w4 := (hb4.block Bs hb3.lt).trans hb3
                  obtain ⟨k0, k1, k2, k3, k4⟩ := hb5.c5
                  have hJ4 := hJ _ _ _ hJ3 hb4
                  have hbel4 : Below w.heap.size w w4 := hbel3.trans (hb4.mono hbel3.size)
                  gi_wp2_with fail
                  refine wpAnyIn_ready (rs := [10]) (by kernel_rfl) (by simp) ?_
                  refine AllReadyIn.cons rfl (fun K hK => ?_) ?_
                  · go_simp
                    refine hK _ _ ?_
                    clear hK K
                    try simp only [Act.put, List.setIfInBounds_toArray, List.set_cons_zero, List.set_cons_succ, List.getElem_toArray, List.getElem_cons_succ, List.getElem_cons_zero]
                    refine wpAnyIn_take (i := 14) (v := ?v14_32) rfl rfl (by kernel_rfl) (by kernel_rfl) (by kernel_rfl) (fun _ _ _ h => h) ⟨Or.inl ⟨by rfl, ?hy14_32⟩, fun _ => rfl⟩ ?rest14_32
                    case hy14_32 => intro w; first | (go_simp; done) | (go_simp; with_reducible rfl)
                    try simp only [Act.put, List.setIfInBounds_toArray, List.set_cons_zero, List.set_cons_succ, List.getElem_toArray, List.getElem_cons_succ, List.getElem_cons_zero]
                    refine wpAnyIn_take (i := 16) (v := ?v16_33) rfl rfl (by kernel_rfl) (by kernel_rfl) (by kernel_rfl) (fun _ _ _ h => h) ⟨Or.inl ⟨by rfl, ?hy16_33⟩, fun _ => rfl⟩ ?rest16_33
                    case hy16_33 => intro w; first | (go_simp; done) | (go_simp; with_reducible rfl)
                    try simp only [Act.put, List.setIfInBounds_toArray, List.set_cons_zero, List.set_cons_succ, List.getElem_toArray, List.getElem_cons_succ, List.getElem_cons_zero]
                    refine wpAnyIn_take (i := 20) (v := ?v20_34) rfl rfl (by kernel_rfl) (by kernel_rfl) (by kernel_rfl) (fun _ _ _ h => h) ⟨Or.inl ⟨by rfl, ?hy20_34⟩, fun _ => rfl⟩ ?rest20_34
                    case hy20_34 => intro w; first | (go_simp; done) | (go_simp; with_reducible rfl)
                    try simp only [Act.put, List.setIfInBounds_toArray, List.set_cons_zero, List.set_cons_succ, List.getElem_toArray, List.getElem_cons_succ, List.getElem_cons_zero]
                    refine wpAnyIn_take (i := 21) (v := ?v21_35) rfl rfl (by kernel_rfl) (by kernel_rfl) (by kernel_rfl) (fun _ _ _ h => h) ⟨Or.inl ⟨by rfl, ?hy21_35⟩, fun _ => rfl⟩ ?rest21_35
                    case hy21_35 => intro w; first | (go_simp; done) | (go_simp; with_reducible rfl)
                    try simp only [Act.put, List.setIfInBounds_toArray, List.set_cons_zero, List.set_cons_succ, List.getElem_toArray, List.getElem_cons_succ, List.getElem_cons_zero]
                    refine wpAnyIn_done (by kernel_rfl) ?_ _
                    by_cases hkM : k < M
                    · have hcc := hMa k hkM
                      have hng : ¬ (F + (n : Int) - 1 < E + Y + (k : Int)) := by omega
                      gi_wp2
                      go_roundw
                      case rel => exact ⟨k + 1, _, by omega, by (try simp only [ok1]) <;> norm_cast, hys.snoc rfl, hJ4, hb5, hbel4⟩
                      case measure => simp [intOf] <;> omega
                    · obtain rfl : k = M := by omega
                      gi_wp2
                      refine bodyPost_ret (results_none rfl _ _ _) rfl ?_
                      exact ⟨⟨_, rfl⟩, .inl ⟨_, hys.snoc rfl, hJ4⟩⟩
                  exact AllReadyIn.nil
                exact AllReadyIn.nil
              exact AllReadyIn.nil
            refine AllReadyIn.cons rfl (fun K hK => ?_) ?_
            · go_simp
              refine hK _ _ ?_
              clear hK K
              try simp only [Act.put, List.setIfInBounds_toArray, List.set_cons_zero, List.set_cons_succ, List.getElem_toArray, List.getElem_cons_succ, List.getElem_cons_zero]
              refine wpAnyIn_ready (rs := [10, 13, 19]) (by kernel_rfl) (by simp) ?_
              refine AllReadyIn.cons rfl (fun K hK => ?_) ?_
              · go_simp
                refine hK _ _ ?_
                clear hK K
                try simp only [Act.put, List.setIfInBounds_toArray, List.set_cons_zero, List.set_cons_succ, List.getElem_toArray, List.getElem_cons_succ, List.getElem_cons_zero]
                refine wpAnyIn_ready (rs := [13, 19]) (by kernel_rfl) (by simp) ?_
                refine AllReadyIn.cons rfl (fun K hK => ?_) ?_
                · go_simp
                  refine hK _ _ ?_
                  clear hK K
                  try simp only [Act.put, List.setIfInBounds_toArray, List.set_cons_zero, List.set_cons_succ, List.getElem_toArray, List.getElem_cons_succ, List.getElem_cons_zero]
                  refine wpAnyIn_take (i := 14) (v := ?v14_36) rfl rfl (by kernel_rfl) (by kernel_rfl) (by kernel_rfl) (fun _ _ _ h => h) ⟨Or.inl ⟨by rfl, ?hy14_36⟩, fun _ => rfl⟩ ?rest14_36
                  case hy14_36 => intro w; first | (go_simp; done) | (go_simp; with_reducible rfl)
                  try simp only [Act.put, List.setIfInBounds_toArray, List.set_cons_zero, List.set_cons_succ, List.getElem_toArray, List.getElem_cons_succ, List.getElem_cons_zero]
                  refine wpAnyIn_take (i := 16) (v := ?v16_37) rfl rfl (by kernel_rfl) (by kernel_rfl) (by kernel_rfl) (fun _ _ _ h => h) ⟨Or.inl ⟨by rfl, ?hy16_37⟩, fun _ => rfl⟩ ?rest16_37
                  case hy16_37 => intro w; first | (go_simp; done) | (go_simp; with_reducible rfl)
                  try simp only [Act.put, List.setIfInBounds_toArray, List.set_cons_zero, List.set_cons_succ, List.getElem_toArray, List.getElem_cons_succ, List.getElem_cons_zero]
                  refine wpAnyIn_ready (rs := [19]) (by kernel_rfl) (by simp) ?_
                  refine AllReadyIn.cons rfl (fun K hK => ?_) ?_
                  · go_simp
                    refine ⟨trivial, fun _ => by omega, (callsIn_wide.2 (llast_v F S A n c _ f1 (by omega) (by omega))).mono ?_⟩
                    rintro e w4 ⟨rfl, hb4⟩
                    have hb5 : Blk 75 Bs #[.int .i64 F, .int .i64 S, .slice A n c, .int .i64 E, .int .i64 Y] w4 := (hb4.block Bs hb3.lt).trans hb3
                    obtain ⟨k0, k1, k2, k3, k4⟩ := hb5.c5
                    have hJ4 := hJ _ _ _ hJ3 hb4
                    have hbel4 : Below w.heap.size w w4 := hbel3.trans (hb4.mono hbel3.size)
                    gi_wp2_with fail
                    refine wpAnyIn_take (i := 20) (v := ?v20_38) rfl rfl (by kernel_rfl) (by kernel_rfl) (by kernel_rfl) (fun _ _ _ h => h) ⟨Or.inl ⟨by rfl, ?hy20_38⟩, fun _ => rfl⟩ ?rest20_38
                    case hy20_38 => intro w; first | (go_simp; done) | (go_simp; with_reducible rfl)
                    try simp only [Act.put, List.setIfInBounds_toArray, List.set_cons_zero, List.set_cons_succ, List.getElem_toArray, List.getElem_cons_succ, List.getElem_cons_zero]
                    refine wpAnyIn_take (i := 21) (v := ?v21_39) rfl rfl (by kernel_rfl) (by kernel_rfl) (by kernel_rfl) (fun _ _ _ h => h) ⟨Or.inl ⟨by rfl, ?hy21_39⟩, fun _ => rfl⟩ ?rest21_39
                    case hy21_39 => intro w; first | (go_simp; done) | (go_simp; with_reducible rfl)
                    try simp only [Act.put, List.setIfInBounds_toArray, List.set_cons_zero, List.set_cons_succ, List.getElem_toArray, List.getElem_cons_succ, List.getElem_cons_zero]
                    refine wpAnyIn_done (by kernel_rfl) ?_ _
                    by_cases hkM : k < M
                    · have hcc := hMa k hkM
                      have hng : ¬ (F + (n : Int) - 1 < E + Y + (k : Int)) := by omega
                      gi_wp2
                      go_roundw
                      case rel => exact ⟨k + 1, _, by omega, by (try simp only [ok1]) <;> norm_cast, hys.snoc rfl, hJ4, hb5, hbel4⟩
                      case measure => simp [intOf] <;> omega
                    · obtain rfl : k = M := by omega
                      gi_wp2
                      refine bodyPost_ret (results_none rfl _ _ _) rfl ?_
                      exact ⟨⟨_, rfl⟩, .inl ⟨_, hys.snoc rfl, hJ4⟩⟩
                  exact AllReadyIn.nil
                refine AllReadyIn.cons rfl (fun K hK => ?_) ?_
                · go_simp
                  refine ⟨trivial, fun _ => by omega, (callsIn_wide.2 (llast_v F S A n c _ f1 (by omega) (by omega))).mono ?_⟩
                  rintro e w4 ⟨rfl, hb4⟩
                  have hb5 : Blk 75 Bs #[.int .i64 F, .int .i64 S, .slice A n c, .int .i64 E, .int .i64 Y] w4 := (hb4.block Bs hb3.lt).trans hb3
                  obtain ⟨k0, k1, k2, k3, k4⟩ := hb5.c5
                  have hJ4 := hJ _ _ _ hJ3 hb4
                  have hbel4 : Below w.heap.size w w4 := hbel3.trans (hb4.mono hbel3.size)
                  gi_wp2_with fail
                  refine wpAnyIn_ready (rs := [13]) (by kernel_rfl) (by simp) ?_
                  refine AllReadyIn.cons rfl (fun K hK => ?_) ?_
                  · go_simp
                    refine hK _ _ ?_
                    clear hK K
                    try simp only [Act.put, List.setIfInBounds_toArray, List.set_cons_zero, List.set_cons_succ, List.getElem_toArray, List.getElem_cons_succ, List.getElem_cons_zero]
                    refine wpAnyIn_take (i := 14) (v := ?v14_40) rfl rfl (by kernel_rfl) (by kernel_rfl) (by kernel_rfl) (fun _ _ _ h => h) ⟨Or.inl ⟨by rfl, ?hy14_40⟩, fun _ => rfl⟩ ?rest14_40
                    case hy14_40 => intro w; first | (go_simp; done) | (go_simp; with_reducible rfl)
                    try simp only [Act.put, List.setIfInBounds_toArray, List.set_cons_zero, List.set_cons_succ, List.getElem_toArray, List.getElem_cons_succ, List.getElem_cons_zero]
                    refine wpAnyIn_take (i := 16) (v := ?v16_41) rfl rfl (by kernel_rfl) (by kernel_rfl) (by kernel_rfl) (fun _ _ _ h => h) ⟨Or.inl ⟨by rfl, ?hy16_41⟩, fun _ => rfl⟩ ?rest16_41
                    case hy16_41 => intro w; first | (go_simp; done) | (go_simp; with_reducible rfl)
                    try simp only [Act.put, List.setIfInBounds_toArray, List.set_cons_zero, List.set_cons_succ, List.getElem_toArray, List.getElem_cons_succ, List.getElem_cons_zero]
                    refine wpAnyIn_take (i := 20) (v := ?v20_42) rfl rfl (by kernel_rfl) (by kernel_rfl) (by kernel_rfl) (fun _ _ _ h => h) ⟨Or.inl ⟨by rfl, ?hy20_42⟩, fun _ => rfl⟩ ?rest20_42
                    case hy20_42 => intro w; first | (go_simp; done) | (go_simp; with_reducible rfl)
                    try simp only [Act.put, List.setIfInBounds_toArray, List.set_cons_zero, List.set_cons_succ, List.getElem_toArray, List.getElem_cons_succ, List.getElem_cons_zero]
                    refine wpAnyIn_take (i := 21) (v := ?v21_43) rfl rfl (by kernel_rfl) (by kernel_rfl) (by kernel_rfl) (fun _ _ _ h => h) ⟨Or.inl ⟨by rfl, ?hy21_43⟩, fun _ => rfl⟩ ?rest21_43
                    case hy21_43 => intro w; first | (go_simp; done) | (go_simp; with_reducible rfl)
                    try simp only [Act.put, List.setIfInBounds_toArray, List.set_cons_zero, List.set_cons_succ, List.getElem_toArray, List.getElem_cons_succ, List.getElem_cons_zero]
                    refine wpAnyIn_done (by kernel_rfl) ?_ _
                    by_cases hkM : k < M
                    · have hcc := hMa k hkM
                      have hng : ¬ (F + (n : Int) - 1 < E + Y + (k : Int)) := by omega
                      gi_wp2
                      go_roundw
                      case rel => exact ⟨k + 1, _, by omega, by (try simp only [ok1]) <;> norm_cast, hys.snoc rfl, hJ4, hb5, hbel4⟩
                      case measure => simp [intOf] <;> omega
                    · obtain rfl : k = M := by omega
                      gi_wp2
                      refine bodyPost_ret (results_none rfl _ _ _) rfl ?_
                      exact ⟨⟨_, rfl⟩, .inl ⟨_, hys.snoc rfl, hJ4⟩⟩
                  exact AllReadyIn.nil
                exact AllReadyIn.nil
              refine AllReadyIn.cons rfl (fun K hK => ?_) ?_
              · go_simp
                refine hK _ _ ?_
                clear hK K
                try simp only [Act.put, List.setIfInBounds_toArray, List.set_cons_zero, List.set_cons_succ, List.getElem_toArray, List.getElem_cons_succ, List.getElem_cons_zero]
                refine wpAnyIn_ready (rs := [10, 19]) (by kernel_rfl) (by simp) ?_
                refine AllReadyIn.cons rfl (fun K hK => ?_) ?_
                · go_simp
                  refine hK _ _ ?_
                  clear hK K
                  try simp only [Act.put, List.setIfInBounds_toArray, List.set_cons_zero, List.set_cons_succ, List.getElem_toArray, List.getElem_cons_succ, List.getElem_cons_zero]
                  refine wpAnyIn_take (i := 14) (v := ?v14_44) rfl rfl (by kernel_rfl) (by kernel_rfl) (by kernel_rfl) (fun _ _ _ h => h) ⟨Or.inl ⟨by rfl, ?hy14_44⟩, fun _ => rfl⟩ ?rest14_44
                  case hy14_44 => intro w; first | (go_simp; done) | (go_simp; with_reducible rfl)
                  try simp only [Act.put, List.setIfInBounds_toArray, List.set_cons_zero, List.set_cons_succ, List.getElem_toArray, List.getElem_cons_succ, List.getElem_cons_zero]
                  refine wpAnyIn_take (i := 16) (v := ?v16_45) rfl rfl (by kernel_rfl) (by kernel_rfl) (by kernel_rfl) (fun _ _ _ h => h) ⟨Or.inl ⟨by rfl, ?hy16_45⟩, fun _ => rfl⟩ ?rest16_45
                  case hy16_45 => intro w; first | (go_simp; done) | (go_simp; with_reducible rfl)
                  try simp only [Act.put, List.setIfInBounds_toArray, List.set_cons_zero, List.set_cons_succ, List.getElem_toArray, List.getElem_cons_succ, List.getElem_cons_zero]
                  refine wpAnyIn_ready (rs := [19]) (by kernel_rfl) (by simp) ?_
                  refine AllReadyIn.cons rfl (fun K hK => ?_) ?_
                  · go_simp
                    refine ⟨trivial, fun _ => by omega, (callsIn_wide.2 (llast_v F S A n c _ f1 (by omega) (by omega))).mono ?_⟩
                    rintro e w4 ⟨rfl, hb4⟩
                    have hb5 : Blk 75 Bs #[.int .i64 F, .int .i64 S, .slice A n c, .int .i64 E, .int .i64 Y] w4 := (hb4.block Bs hb3.lt).trans hb3
                    obtain ⟨k0, k1, k2, k3, k4⟩ := hb5.c5
                    have hJ4 := hJ _ _ _ hJ3 hb4
                    have hbel4 : Below w.heap.size w w4 := hbel3.trans (hb4.mono hbel3.size)
                    gi_wp2_with fail
                    refine wpAnyIn_take (i := 20) (v := ?v20_46) rfl rfl (by kernel_rfl) (by kernel_rfl) (by kernel_rfl) (fun _ _ _ h => h) ⟨Or.inl ⟨by rfl, ?hy20_46⟩, fun _ => rfl⟩ ?rest20_46
                    case hy20_46 => intro w; first | (go_simp; done) | (go_simp; with_reducible rfl)
                    try simp only [Act.put, List.setIfInBounds_toArray, List.set_cons_zero, List.set_cons_succ, List.getElem_toArray, List.getElem_cons_succ, List.getElem_cons_zero]
                    refine wpAnyIn_take (i := 21) (v := ?v21_47) rfl rfl (by kernel_rfl) (by kernel_rfl) (by kernel_rfl) (fun _ _ _ h => h) ⟨Or.inl ⟨by rfl, ?hy21_47⟩, fun _ => rfl⟩ ?rest21_47
                    case hy21_47 => intro w; first | (go_simp; done) | (go_simp; with_reducible rfl)
                    try simp only [Act.put, List.setIfInBounds_toArray, List.set_cons_zero, List.set_cons_succ, List.getElem_toArray, List.getElem_cons_succ, List.getElem_cons_zero]
                    refine wpAnyIn_done (by kernel_rfl) ?_ _
                    by_cases hkM : k < M
                    · have hcc := hMa k hkM
                      have hng : ¬ (F + (n : Int) - 1 < E + Y + (k : Int)) := by omega
                      gi_wp2
                      go_roundw
                      case rel => exact ⟨k + 1, _, by omega, by (try simp only [ok1]) <;> norm_cast, hys.snoc rfl, hJ4, hb5, hbel4⟩
                      case measure => simp [intOf] <;> omega
                    · obtain rfl : k = M := by omega
                      gi_wp2
                      refine bodyPost_ret (results_none rfl _ _ _) rfl ?_
                      exact ⟨⟨_, rfl⟩, .inl ⟨_, hys.snoc rfl, hJ4⟩⟩
                  exact AllReadyIn.nil
                refine AllReadyIn.cons rfl (fun K hK => ?_) ?_
                · go_simp
                  refine ⟨trivial, fun _ => by omega, (callsIn_wide.2 (llast_v F S A n c _ f1 (by omega) (by omega))).mono ?_⟩
                  rintro e w4 ⟨rfl, hb4⟩
                  have hb5 : Blk 75 Bs #[.int .i64 F, .int .i64 S, .slice A n c, .int .i64 E, .int .i64 Y] w4 := (hb4.block Bs hb3.lt).trans hb3
                  obtain ⟨k0, k1, k2, k3, k4⟩ := hb5.c5
                  have hJ4 := hJ _ _ _ hJ3 hb4
                  have hbel4 : Below w.heap.size w w4 := hbel3.trans (hb4.mono hbel3.size)
                  gi_wp2_with fail
                  refine wpAnyIn_ready (rs := [10]) (by kernel_rfl) (by simp) ?_
                  refine AllReadyIn.cons rfl (fun K hK => ?_) ?_
                  · go_simp
                    refine hK _ _ ?_
                    clear hK K
                    try simp only [Act.put, List.setIfInBounds_toArray, List.set_cons_zero, List.set_cons_succ, List.getElem_toArray, List.getElem_cons_succ, List.getElem_cons_zero]
                    refine wpAnyIn_take (i := 14) (v := ?v14_48) rfl rfl (by kernel_rfl) (by kernel_rfl) (by kernel_rfl) (fun _ _ _ h => h) ⟨Or.inl ⟨by rfl, ?hy14_48⟩, fun _ => rfl⟩ ?rest14_48
                    case hy14_48 => intro w; first | (go_simp; done) | (go_simp; with_reducible rfl)
                    try simp only [Act.put, List.setIfInBounds_toArray, List.set_cons_zero, List.set_cons_succ, List.getElem_toArray, List.getElem_cons_succ, List.getElem_cons_zero]
                    refine wpAnyIn_take (i := 16) (v := ?v16_49) rfl rfl (by kernel_rfl) (by kernel_rfl) (by kernel_rfl) (fun _ _ _ h => h) ⟨Or.inl ⟨by rfl, ?hy16_49⟩, fun _ => rfl⟩ ?rest16_49
                    case hy16_49 => intro w; first | (go_simp; done) | (go_simp; with_reducible rfl)
                    try simp only [Act.put, List.setIfInBounds_toArray, List.set_cons_zero, List.set_cons_succ, List.getElem_toArray, List.getElem_cons_succ, List.getElem_cons_zero]
                    refine wpAnyIn_take (i := 20) (v := ?v20_50) rfl rfl (by kernel_rfl) (by kernel_rfl) (by kernel_rfl) (fun _ _ _ h => h) ⟨Or.inl ⟨by rfl, ?hy20_50⟩, fun _ => rfl⟩ ?rest20_50
                    case hy20_50 => intro w; first | (go_simp; done) | (go_simp; with_reducible rfl)
                    try simp only [Act.put, List.setIfInBounds_toArray, List.set_cons_zero, List.set_cons_succ, List.getElem_toArray, List.getElem_cons_succ, List.getElem_cons_zero]
                    refine wpAnyIn_take (i := 21) (v := ?v21_51) rfl rfl (by kernel_rfl) (by kernel_rfl) (by kernel_rfl) (fun _ _ _ h => h) ⟨Or.inl ⟨by rfl, ?hy21_51⟩, fun _ => rfl⟩ ?rest21_51
                    case hy21_51 => intro w; first | (go_simp; done) | (go_simp; with_reducible rfl)
                    try simp only [Act.put, List.setIfInBounds_toArray, List.set_cons_zero, List.set_cons_succ, List.getElem_toArray, List.getElem_cons_succ, List.getElem_cons_zero]
                    refine wpAnyIn_done (by kernel_rfl) ?_ _
                    by_cases hkM : k < M
                    · have hcc := hMa k hkM
                      have hng : ¬ (F + (n : Int) - 1 < E + Y + (k : Int)) := by omega
                      gi_wp2
                      go_roundw
                      case rel => exact ⟨k + 1, _, by omega, by (try simp only [ok1]) <;> norm_cast, hys.snoc rfl, hJ4, hb5, hbel4⟩
                      case measure => simp [intOf] <;> omega
                    · obtain rfl : k = M := by omega
                      gi_wp2
                      refine bodyPost_ret (results_none rfl _ _ _) rfl ?_
                      exact ⟨⟨_, rfl⟩, .inl ⟨_, hys.snoc rfl, hJ4⟩⟩
                  exact AllReadyIn.nil
                exact AllReadyIn.nil
              refine AllReadyIn.cons rfl (fun K hK => ?_) ?_
              · go_simp
                refine ⟨trivial, fun _ => by omega, (callsIn_wide.2 (llast_v F S A n c _ f1 (by omega) (by omega))).mono ?_⟩
                rintro e w4 ⟨rfl, hb4⟩
                have hb5 : Blk 75 Bs #[.int .i64 F, .int .i64 S, .slice A n c, .int .i64 E, .int .i64 Y] w4 := (hb4.block Bs hb3.lt).trans hb3
                obtain ⟨k0, k1, k2, k3, k4⟩ := hb5.c5
                have hJ4 := hJ _ _ _ hJ3 hb4
                have hbel4 : Below w.heap.size w w4 := hbel3.trans (hb4.mono hbel3.size)
                gi_wp2_with fail
                refine wpAnyIn_ready (rs := [10, 13]) (by kernel_rfl) (by simp) ?_
                refine AllReadyIn.cons rfl (fun K hK => ?_) ?_
                · go_simp
                  refine hK _ _ ?_
                  clear hK K
                  try simp only [Act.put, List.setIfInBounds_toArray, List.set_cons_zero, List.set_cons_succ, List.getElem_toArray, List.getElem_cons_succ, List.getElem_cons_zero]
                  refine wpAnyIn_ready (rs := [13]) (by kernel_rfl) (by simp) ?_
                  refine AllReadyIn.cons rfl (fun K hK => ?_) ?_
                  · go_simp
                    refine hK _ _ ?_
                    clear hK K
                    try simp only [Act.put, List.setIfInBounds_toArray, List.set_cons_zero, List.set_cons_succ, List.getElem_toArray, List.getElem_cons_succ, List.getElem_cons_zero]
                    refine wpAnyIn_take (i := 14) (v := ?v14_52) rfl rfl (by kernel_rfl) (by kernel_rfl) (by kernel_rfl) (fun _ _ _ h => h) ⟨Or.inl ⟨by rfl, ?hy14_52⟩, fun _ => rfl⟩ ?rest14_52
                    case hy14_52 => intro w; first | (go_simp; done) | (go_simp; with_reducible rfl)
                    try simp only [Act.put, List.setIfInBounds_toArray, List.set_cons_zero, List.set_cons_succ, List.getElem_toArray, List.getElem_cons_succ, List.getElem_cons_zero]
                    refine wpAnyIn_take (i := 16) (v := ?v16_53) rfl rfl (by kernel_rfl) (by kernel_rfl) (by kernel_rfl) (fun _ _ _ h => h) ⟨Or.inl ⟨by rfl, ?hy16_53⟩, fun _ => rfl⟩ ?rest16_53
                    case hy16_53 => intro w; first | (go_simp; done) | (go_simp; with_reducible rfl)
                    try simp only [Act.put, List.setIfInBounds_toArray, List.set_cons_zero, List.set_cons_succ, List.getElem_toArray, List.getElem_cons_succ, List.getElem_cons_zero]
                    refine wpAnyIn_take (i := 20) (v := ?v20_54) rfl rfl (by kernel_rfl) (by kernel_rfl) (by kernel_rfl) (fun _ _ _ h => h) ⟨Or.inl ⟨by rfl, ?hy20_54⟩, fun _ => rfl⟩ ?rest20_54
                    case hy20_54 => intro w; first | (go_simp; done) | (go_simp; with_reducible rfl)
                    try simp only [Act.put, List.setIfInBounds_toArray, List.set_cons_zero, List.set_cons_succ, List.getElem_toArray, List.getElem_cons_succ, List.getElem_cons_zero]
                    refine wpAnyIn_take (i := 21) (v := ?v21_55) rfl rfl (by kernel_rfl) (by kernel_rfl) (by kernel_rfl) (fun _ _ _ h => h) ⟨Or.inl ⟨by rfl, ?hy21_55⟩, fun _ => rfl⟩ ?rest21_55
                    case hy21_55 => intro w; first | (go_simp; done) | (go_simp; with_reducible rfl)
                    try simp only [Act.put, List.setIfInBounds_toArray, List.set_cons_zero, List.set_cons_succ, List.getElem_toArray, List.getElem_cons_succ, List.getElem_cons_zero]
                    refine wpAnyIn_done (by kernel_rfl) ?_ _
                    by_cases hkM : k < M
                    · have hcc := hMa k hkM
                      have hng : ¬ (F + (n : Int) - 1 < E + Y + (k : Int)) := by omega
                      gi_wp2
                      go_roundw
                      case rel => exact ⟨k + 1, _, by omega, by (try simp only [ok1]) <;> norm_cast, hys.snoc rfl, hJ4, hb5, hbel4⟩
                      case measure => simp [intOf] <;> omega
                    · obtain rfl : k = M := by omega
                      gi_wp2
                      refine bodyPost_ret (results_none rfl _ _ _) rfl ?_
                      exact ⟨⟨_, rfl⟩, .inl ⟨_, hys.snoc rfl, hJ4⟩⟩
                  exact AllReadyIn.nil
                refine AllReadyIn.cons rfl (fun K hK => ?_) ?_
                · go_simp
                  refine hK _ _ ?_
                  clear hK K
                  try simp only [Act.put, List.setIfInBounds_toArray, List.set_cons_zero, List.set_cons_succ, List.getElem_toArray, List.getElem_cons_succ, List.getElem_cons_zero]
                  refine wpAnyIn_ready (rs := [10]) (by kernel_rfl) (by simp) ?_
                  refine AllReadyIn.cons rfl (fun K hK => ?_) ?_
                  · go_simp
                    refine hK _ _ ?_
                    clear hK K
                    try simp only [Act.put, List.setIfInBounds_toArray, List.set_cons_zero, List.set_cons_succ, List.getElem_toArray, List.getElem_cons_succ, List.getElem_cons_zero]
                    refine wpAnyIn_take (i := 14) (v := ?v14_56) rfl rfl (by kernel_rfl) (by kernel_rfl) (by kernel_rfl) (fun _ _ _ h => h) ⟨Or.inl ⟨by rfl, ?hy14_56⟩, fun _ => rfl⟩ ?rest14_56
                    case hy14_56 => intro w; first | (go_simp; done) | (go_simp; with_reducible rfl)
                    try simp only [Act.put, List.setIfInBounds_toArray, List.set_cons_zero, List.set_cons_succ, List.getElem_toArray, List.getElem_cons_succ, List.getElem_cons_zero]
                    refine wpAnyIn_take (i := 16) (v := ?v16_57) rfl rfl (by kernel_rfl) (by kernel_rfl) (by kernel_rfl) (fun _ _ _ h => h) ⟨Or.inl ⟨by rfl, ?hy16_57⟩, fun _ => rfl⟩ ?rest16_57
                    case hy16_57 => intro w; first | (go_simp; done) | (go_simp; with_reducible rfl)
                    try simp only [Act.put, List.setIfInBounds_toArray, List.set_cons_zero, List.set_cons_succ, List.getElem_toArray, List.getElem_cons_succ, List.getElem_cons_zero]
                    refine wpAnyIn_take (i := 20) (v := ?v20_58) rfl rfl (by kernel_rfl) (by kernel_rfl) (by kernel_rfl) (fun _ _ _ h => h) ⟨Or.inl ⟨by rfl, ?hy20_58⟩, fun _ => rfl⟩ ?rest20_58
                    case hy20_58 => intro w; first | (go_simp; done) | (go_simp; with_reducible rfl)
                    try simp only [Act.put, List.setIfInBounds_toArray, List.set_cons_zero, List.set_cons_succ, List.getElem_toArray, List.getElem_cons_succ, List.getElem_cons_zero]
                    refine wpAnyIn_take (i := 21) (v := ?v21_59) rfl rfl (by kernel_rfl) (by kernel_rfl) (by kernel_rfl) (fun _ _ _ h => h) ⟨Or.inl ⟨by rfl, ?hy21_59⟩, fun _ => rfl⟩ ?rest21_59
                    case hy21_59 => intro w; first | (go_simp; done) | (go_simp; with_reducible rfl)
                    try simp only [Act.put, List.setIfInBounds_toArray, List.set_cons_zero, List.set_cons_succ, List.getElem_toArray, List.getElem_cons_succ, List.getElem_cons_zero]
                    refine wpAnyIn_done (by kernel_rfl) ?_ _
                    by_cases hkM : k < M
                    · have hcc := hMa k hkM
                      have hng : ¬ (F + (n : Int) - 1 < E + Y + (k : Int)) := by omega
                      gi_wp2
                      go_roundw
                      case rel => exact ⟨k + 1, _, by omega, by (try simp only [ok1]) <;> norm_cast, hys.snoc rfl, hJ4, hb5, hbel4⟩
                      case measure => simp [intOf] <;> omega
                    · obtain rfl : k = M := by omega
                      gi_wp2
                      refine bodyPost_ret (results_none rfl _ _ _) rfl ?_
                      exact ⟨⟨_, rfl⟩, .inl ⟨_, hys.snoc rfl, hJ4⟩⟩
                  exact AllReadyIn.nil
                exact AllReadyIn.nil
              exact AllReadyIn.nil
            exact AllReadyIn.nil
          · gi_wp2_with fail
            refine wpAnyIn_take (i := 6) (v := ?v6_60) rfl rfl (by kernel_rfl) (by kernel_rfl) (by kernel_rfl) (fun _ _ _ h => h) ⟨Or.inl ⟨by rfl, ?hy6_60⟩, fun _ => rfl⟩ ?rest6_60
            case hy6_60 => intro w; first | (go_simp; done) | (go_simp; with_reducible rfl)
            try simp only [Act.put, List.setIfInBounds_toArray, List.set_cons_zero, List.set_cons_succ, List.getElem_toArray, List.getElem_cons_succ, List.getElem_cons_zero]
            refine wpAnyIn_take (i := 7) (v := ?v7_61) rfl rfl (by kernel_rfl) (by kernel_rfl) (by kernel_rfl) (fun _ _ _ h => h) ⟨Or.inl ⟨by rfl, ?hy7_61⟩, fun _ => rfl⟩ ?rest7_61
            case hy7_61 => intro w; first | (go_simp; done) | (go_simp; with_reducible rfl)
            try simp only [Act.put, List.setIfInBounds_toArray, List.set_cons_zero, List.set_cons_succ, List.getElem_toArray, List.getElem_cons_succ, List.getElem_cons_zero]
            refine wpAnyIn_take (i := 8) (v := undef) rfl rfl (by kernel_rfl) (by kernel_rfl) (by kernel_rfl) (fun _ _ _ h => h) ⟨Or.inr ⟨by rfl, rfl⟩, fun _ => rfl⟩ ?_
            try simp only [Act.put, List.setIfInBounds_toArray, List.set_cons_zero, List.set_cons_succ, List.getElem_toArray, List.getElem_cons_succ, List.getElem_cons_zero]
            refine wpAnyIn_take (i := 9) (v := undef) rfl rfl (by kernel_rfl) (by kernel_rfl) (by kernel_rfl) (fun _ _ _ h => h) ⟨Or.inr ⟨by rfl, rfl⟩, fun _ => rfl⟩ ?_
            try simp only [Act.put, List.setIfInBounds_toArray, List.set_cons_zero, List.set_cons_succ, List.getElem_toArray, List.getElem_cons_succ, List.getElem_cons_zero]
            refine wpAnyIn_take (i := 10) (v := undef) rfl rfl (by kernel_rfl) (by kernel_rfl) (by kernel_rfl) (fun _ _ _ h => h) ⟨Or.inr ⟨by rfl, rfl⟩, fun _ => rfl⟩ ?_
            try simp only [Act.put, List.setIfInBounds_toArray, List.set_cons_zero, List.set_cons_succ, List.getElem_toArray, List.getElem_cons_succ, List.getElem_cons_zero]
            refine wpAnyIn_take (i := 11) (v := undef) rfl rfl (by kernel_rfl) (by kernel_rfl) (by kernel_rfl) (fun _ _ _ h => h) ⟨Or.inr ⟨by rfl, rfl⟩, fun _ => rfl⟩ ?_
            try simp only [Act.put, List.setIfInBounds_toArray, List.set_cons_zero, List.set_cons_succ, List.getElem_toArray, List.getElem_cons_succ, List.getElem_cons_zero]
            refine wpAnyIn_take (i := 12) (v := undef) rfl rfl (by kernel_rfl) (by kernel_rfl) (by kernel_rfl) (fun _ _ _ h => h) ⟨Or.inr ⟨by rfl, rfl⟩, fun _ => rfl⟩ ?_
            try simp only [Act.put, List.setIfInBounds_toArray, List.set_cons_zero, List.set_cons_succ, List.getElem_toArray, List.getElem_cons_succ, List.getElem_cons_zero]
            refine wpAnyIn_take (i := 13) (v := undef) rfl rfl (by kernel_rfl) (by kernel_rfl) (by kernel_rfl) (fun _ _ _ h => h) ⟨Or.inr ⟨by rfl, rfl⟩, fun _ => rfl⟩ ?_
            try simp only [Act.put, List.setIfInBounds_toArray, List.set_cons_zero, List.set_cons_succ, List.getElem_toArray, List.getElem_cons_succ, List.getElem_cons_zero]
            refine wpAnyIn_take (i := 14) (v := undef) rfl rfl (by kernel_rfl) (by kernel_rfl) (by kernel_rfl) (fun _ _ _ h => h) ⟨Or.inr ⟨by rfl, rfl⟩, fun _ => rfl⟩ ?_
            try simp only [Act.put, List.setIfInBounds_toArray, List.set_cons_zero, List.set_cons_succ, List.getElem_toArray, List.getElem_cons_succ, List.getElem_cons_zero]
            refine wpAnyIn_take (i := 15) (v := undef) rfl rfl (by kernel_rfl) (by kernel_rfl) (by kernel_rfl) (fun _ _ _ h => h) ⟨Or.inr ⟨by rfl, rfl⟩, fun _ => rfl⟩ ?_
            try simp only [Act.put, List.setIfInBounds_toArray, List.set_cons_zero, List.set_cons_succ, List.getElem_toArray, List.getElem_cons_succ, List.getElem_cons_zero]
            refine wpAnyIn_take (i := 16) (v := undef) rfl rfl (by kernel_rfl) (by kernel_rfl) (by kernel_rfl) (fun _ _ _ h => h) ⟨Or.inr ⟨by rfl, rfl⟩, fun _ => rfl⟩ ?_
            try simp only [Act.put, List.setIfInBounds_toArray, List.set_cons_zero, List.set_cons_succ, List.getElem_toArray, List.getElem_cons_succ, List.getElem_cons_zero]
            refine wpAnyIn_take (i := 17) (v := undef) rfl rfl (by kernel_rfl) (by kernel_rfl) (by kernel_rfl) (fun _ _ _ h => h) ⟨Or.inr ⟨by rfl, rfl⟩, fun _ => rfl⟩ ?_
            try simp only [Act.put, List.setIfInBounds_toArray, List.set_cons_zero, List.set_cons_succ, List.getElem_toArray, List.getElem_cons_succ, List.getElem_cons_zero]
            refine wpAnyIn_take (i := 18) (v := undef) rfl rfl (by kernel_rfl) (by kernel_rfl) (by kernel_rfl) (fun _ _ _ h => h) ⟨Or.inr ⟨by rfl, rfl⟩, fun _ => rfl⟩ ?_
            try simp only [Act.put, List.setIfInBounds_toArray, List.set_cons_zero, List.set_cons_succ, List.getElem_toArray, List.getElem_cons_succ, List.getElem_cons_zero]
            refine wpAnyIn_ready (rs := [19]) (by kernel_rfl) (by simp) ?_
            refine AllReadyIn.cons rfl (fun K hK => ?_) ?_
            · go_simp
              refine ⟨trivial, hK _ _ ?_⟩
              clear hK K
              try simp only [Act.put, List.setIfInBounds_toArray, List.set_cons_zero, List.set_cons_succ, List.getElem_toArray, List.getElem_cons_succ, List.getElem_cons_zero]
              refine wpAnyIn_take (i := 20) (v := undef) rfl rfl (by kernel_rfl) (by kernel_rfl) (by kernel_rfl) (fun _ _ _ h => h) ⟨Or.inr ⟨by rfl, rfl⟩, fun _ => rfl⟩ ?_
              try simp only [Act.put, List.setIfInBounds_toArray, List.set_cons_zero, List.set_cons_succ, List.getElem_toArray, List.getElem_cons_succ, List.getElem_cons_zero]
              refine wpAnyIn_take (i := 21) (v := ?v21_74) rfl rfl (by kernel_rfl) (by kernel_rfl) (by kernel_rfl) (fun _ _ _ h => h) ⟨Or.inl ⟨by rfl, ?hy21_74⟩, fun _ => rfl⟩ ?rest21_74
              case hy21_74 => intro w; first | (go_simp; done) | (go_simp; with_reducible rfl)
              try simp only [Act.put, List.setIfInBounds_toArray, List.set_cons_zero, List.set_cons_succ, List.getElem_toArray, List.getElem_cons_succ, List.getElem_cons_zero]
              refine wpAnyIn_done (by kernel_rfl) ?_ _
              gi_wp2
              refine bodyPost_ret (results_none rfl _ _ _) rfl ?_
              exact ⟨⟨_, rfl⟩, .inr ⟨_, ⟨k + 1, by omega, hys.snoc rfl⟩, hJx3⟩⟩
            exact AllReadyIn.nil
        exact AllReadyIn.nil
      exact AllReadyIn.nil
    exact AllReadyIn.nil

set_option maxHeartbeats 1000000 in
/-- years: the closure over a box of the person. -/
theorem years_in (m : Nat) (F S E Y : Int) (A : Option Addr) (n c : Nat) (w : World) :
    CallsIn Fence.wide m Tryz.prog 64 #[.agg #[.int .i64 F, .int .i64 S, .slice A n c, .int .i64 E, .int .i64 Y]] w fun e w' =>
      e = .returned (.func (.func 105) #[] #[.pointer (some ⟨w.heap.size, 0, none⟩)]) ∧ w' = w.alloc (.cells #[.int .i64 F, .int .i64 S, .slice A n c, .int .i64 E, .int .i64 Y] 75) := by
  have hro : Fence.wide.round = none := rfl
  refine callsIn_of_wp Tryz.func64 rfl trivial ?_ hro
  simp only [Tryz.ntmps64, List.size_toArray, List.length_cons, List.length_nil, Nat.reduceAdd, Nat.reduceSub, Array.replicate_succ, Array.replicate_zero, List.push_toArray, List.append_toArray, List.nil_append, List.cons_append]
  gi_wp2
  go_ret
  exact ⟨rfl, rfl⟩

/-- What stays as memory grows. -/
theorem AbidesFrom_below {β : Type} {B : Nat} {J : β → World → Prop} (h : AbidesFrom B J) {s : β} {W W' : World} (hs : J s W) (hb : Below W.heap.size W W') : J s W' :=
  h s W W' none hs ⟨hb.os, hb.tape, hb.output, hb.size, fun k hk _ => hb.block k hk⟩ (fun _ e => by cases e)

theorem years_seq (m : Nat) (hm : 2 ≤ m) (Bs n₀ : Nat) {F S E Y : Int} {A : Option Addr} {n c : Nat} {r : Nat → RH} {w : World} (hn₀ : w.heap.size ≤ n₀) (hT : TabM w A n r) (hR : RightP F S n r E Y) (M : Nat) (hM : M ≤ 1000) (hMa : ∀ k : Nat, k < M → E + Y + (k : Int) ≤ F + (n : Int) - 1) (hMb : F + (n : Int) - 1 < E + Y + (M : Int))
    (w0 : World) (hb0 : Below w.heap.size w w0) (hBs : Blk 75 Bs #[.int .i64 F, .int .i64 S, .slice A n c, .int .i64 E, .int .i64 Y] w0) :
    SeqV Fence.wide m Tryz.prog 105 #[.pointer (some ⟨Bs, 0, none⟩)] Yr.vals (KpB n₀ Bs) (Yr.fit (fun k => rt F S n r E Y (k : Int)))
      (fun ys => Yrs ys (M + 1)) (fun pre => ∃ j, j ≤ M + 1 ∧ Yrs pre j) (M + 1) w0 := fun l J Jx W hW hJ _ hY h0 =>
  years1_in m hm l Bs n₀ hn₀ hT hR M hM hMa hMb J Jx (fun _ _ _ hs hb => AbidesFrom_below hJ hs hb) hY W (hBs.below hW hBs.lt) (hb0.trans (hW.mono hb0.size)) h0
end Go.Proofs.YtgkepllfdhcdpaaGreat
namespace Go.Proofs.YtgkepllfdhcdpaaGreat

/-- The product of 1 - f i, i < k. -/
def pr (f : Nat → Rat) : Nat → Rat
  | 0 => 1
  | k + 1 => pr f k * (1 - f k)
def dpr (f : Nat → Rat) : Nat → Nat
  | 0 => 1
  | k + 1 => dpr f k * (f k).den
/-- Rates: from 0 to 1, denominators of one limb. -/
def Rts (f : Nat → Rat) (n : Nat) : Prop := ∀ i, i < n → 0 ≤ f i ∧ f i ≤ 1 ∧ (f i).den < b16
theorem pr_dv (f : Nat → Rat) : ∀ k, Dv (pr f k) (dpr f k)
  | 0 => ⟨1, by simp [pr, dpr]⟩
  | k + 1 => (pr_dv f k).mul (((Dv.int 1).more (Nat.one_dvd _)).sub (Dv.self (f k)))
theorem dpr_pos (f : Nat → Rat) : ∀ k, 0 < dpr f k
  | 0 => by simp [dpr]
  | k + 1 => Nat.mul_pos (dpr_pos f k) (f k).den_pos
theorem dpr_lt {f : Nat → Rat} {n : Nat} (h : Rts f n) : ∀ k, k ≤ n → dpr f k ≤ b16 ^ k
  | 0, _ => by simp [dpr]
  | k + 1, hk => by
    have h1 := dpr_lt h k (by omega)
    have h2 := Nat.le_of_lt (h k (by omega)).2.2
    rw [Nat.pow_succ]
    exact Nat.mul_le_mul h1 h2
theorem pr_01 {f : Nat → Rat} {n : Nat} (h : Rts f n) : ∀ k, k ≤ n → 0 ≤ pr f k ∧ pr f k ≤ 1
  | 0, _ => by simp only [pr]; exact ⟨by decide, by decide⟩
  | k + 1, hk => by
    obtain ⟨h1, h2⟩ := pr_01 h k (by omega)
    obtain ⟨h3, h4, _⟩ := h k (by omega)
    have a0 : 0 ≤ 1 - f k := by grind
    have a1 : 1 - f k ≤ 1 := by grind
    refine ⟨Rat.mul_nonneg h1 a0, ?_⟩
    have := Rat.mul_nonneg h1 h3
    simp only [pr]
    grind
theorem fl_of {q : Rat} {D k : Nat} (hD : 0 < D) (hd : Dv q D) (h1 : 0 ≤ q) (h2 : q ≤ 1) (hk : D ≤ b16 ^ k) : fl q ≤ k + 1 := by
  refine fl_bound hD hd (M := 1) (by grind) (by grind) (by decide) ((ln_le b16_two).2 ?_)
  rw [Nat.one_mul, Nat.pow_succ]
  have hp : 0 < b16 ^ k := Nat.pow_pos (by decide)
  have h2 : b16 ^ k * 2 ≤ b16 ^ k * b16 := Nat.mul_le_mul_left _ b16_two
  omega
theorem pr_fl {f : Nat → Rat} {n k : Nat} (h : Rts f n) (hk : k ≤ n) : fl (pr f k) ≤ k + 1 :=
  fl_of (dpr_pos f k) (pr_dv f k) (pr_01 h k hk).1 (pr_01 h k hk).2 (dpr_lt h k hk)
theorem prd_fl {f : Nat → Rat} {n k : Nat} (h : Rts f n) (hk : k < n) : fl (pr f k * f k) ≤ k + 2 := by
  obtain ⟨h1, h2⟩ := pr_01 h k (by omega)
  obtain ⟨h3, h4, h5⟩ := h k hk
  have h6 := Rat.mul_nonneg h1 h3
  have h7 := (pr_01 h (k + 1) (by omega)).1
  simp only [pr] at h7
  exact fl_of (dpr_pos f (k + 1)) ((pr_dv f k).mul (Dv.self (f k))) h6 (by grind) (dpr_lt h (k + 1) (by omega))
theorem other_fl {f : Nat → Rat} {n k : Nat} (h : Rts f n) (hk : k < n) : fl (1 - f k) ≤ 2 := by
  obtain ⟨h3, h4, h5⟩ := h k hk
  exact fl_of (k := 1) (f k).den_pos (((Dv.int 1).more (Nat.one_dvd _)).sub (Dv.self (f k))) (by grind) (by grind) (by rw [Nat.pow_one]; omega)
theorem rate_fl {f : Nat → Rat} {n k : Nat} (h : Rts f n) (hk : k < n) : fl (f k) ≤ 2 := by
  obtain ⟨h3, h4, h5⟩ := h k hk
  exact fl_of (k := 1) (f k).den_pos (Dv.self (f k)) h3 h4 (by rw [Nat.pow_one]; omega)
/-- The complete years expected: the sum of pr f 1 .. pr f k. -/
def smr (f : Nat → Rat) : Nat → Rat
  | 0 => 0
  | k + 1 => smr f k + pr f (k + 1)
theorem dpr_dvd (f : Nat → Rat) (k : Nat) : dpr f k ∣ dpr f (k + 1) := ⟨(f k).den, rfl⟩
theorem smr_dv (f : Nat → Rat) : ∀ k, Dv (smr f k) (dpr f k)
  | 0 => ⟨0, by simp [smr]⟩
  | k + 1 => ((smr_dv f k).more (dpr_dvd f k)).add (pr_dv f (k + 1))
theorem smr_01 {f : Nat → Rat} {n : Nat} (h : Rts f n) : ∀ k, k ≤ n → 0 ≤ smr f k ∧ smr f k ≤ (k : Rat)
  | 0, _ => by simp [smr]
  | k + 1, hk => by
    obtain ⟨h1, h2⟩ := smr_01 h k (by omega)
    obtain ⟨h3, h4⟩ := pr_01 h (k + 1) hk
    have e : ((k + 1 : Nat) : Rat) = (k : Rat) + 1 := by push_cast; rfl
    simp only [smr]
    rw [e]
    exact ⟨by grind, by grind⟩
end Go.Proofs.YtgkepllfdhcdpaaGreat
namespace Go.Proofs.YtgkepllfdhcdpaaGreat

theorem FH.rates {h : FH} {w : World} (hr : h.isRate = true) (hd : h.rd w) : 0 ≤ h.q ∧ h.q ≤ 1 ∧ h.q.den < b16 := by
  obtain ⟨hv, _⟩ := FH.fv hr hd
  unfold FH.isRate rateB at hr
  simp only [Bool.and_eq_true, Bool.not_eq_true', decide_eq_true_eq] at hr
  obtain ⟨_, h2, h3, h4, h5⟩ := hr
  refine ⟨?_, cmpQ_le.1 h5, ?_⟩
  · have := hv.1.sgn
    rw [h2] at this
    have := of_decide_eq_false this.symm
    exact Rat.num_nonneg.1 (by omega)
  · have := hv.2.len
    have h6 : ln b16 h.q.den ≤ 1 := by
      simp only [Int.natAbs_natCast] at this
      omega
    simpa using (ln_le b16_two).1 h6

theorem rt_rates {F S E Y : Int} {A : Option Addr} {n : Nat} {r : Nat → RH} {w : World} (hT : TabM w A n r) (hR : RightP F S n r E Y) (N : Nat) : Rts (fun k => rt F S n r E Y (k : Int)) N := fun i _ => by
  obtain ⟨ht, r1, r2, r3, r4⟩ := hR
  have hS := ht.1.2
  have row : ∀ (a b : Nat), a < n → b ≤ S.toNat → 0 ≤ ((r a).h b).q ∧ ((r a).h b).q ≤ 1 ∧ ((r a).h b).q.den < b16 := fun a b ha hb => by
    obtain ⟨l1, l2⟩ := ht.2.2.1 a ha
    obtain ⟨b2, o2, e2, hb2, hc2⟩ := hT.row ha (by omega)
    exact FH.rates (l2 b (by omega)) (hc2 b (by omega)).2
  show 0 ≤ rt F S n r E Y (i : Int) ∧ rt F S n r E Y (i : Int) ≤ 1 ∧ (rt F S n r E Y (i : Int)).den < b16
  unfold rt
  by_cases h1 : F + (n : Int) - 1 < E + (Y + i)
  · rw [if_pos h1]
    exact ⟨by decide, by decide, by decide⟩
  · rw [if_neg h1]
    by_cases h2 : Y + (i : Int) < S
    · rw [if_pos h2]
      exact row _ _ (by omega) (by omega)
    · rw [if_neg h2]
      exact row _ _ (by omega) (by omega)
end Go.Proofs.YtgkepllfdhcdpaaGreat
namespace Go.Proofs.YtgkepllfdhcdpaaGreat
open Go.RowKit

/-- P stays where a block that is no cells and lies from B on is turned. -/
def Grown (B : Nat) (P : World → Prop) : Prop := ∀ (W W' : World) (row : Option Nat), P W → W.grownBy W' row → (∀ q, row = some q → B ≤ q ∧ ∃ o : Obj, W.heap[q]? = some o ∧ o.isCells = false) → P W'
theorem Grown.tt (B : Nat) : Grown B (fun _ => True) := fun _ _ _ _ _ _ => trivial
theorem Grown.pure (B : Nat) (p : Prop) : Grown B (fun _ => p) := fun _ _ _ h _ _ => h
theorem Grown.and {B : Nat} {P Q : World → Prop} (hP : Grown B P) (hQ : Grown B Q) : Grown B (fun W => P W ∧ Q W) := fun _ _ _ h hg hr => ⟨hP _ _ _ h.1 hg hr, hQ _ _ _ h.2 hg hr⟩
theorem Grown.ex {B : Nat} {α : Type} {P : α → World → Prop} (hP : ∀ x, Grown B (P x)) : Grown B (fun W => ∃ x, P x W) := fun _ _ _ ⟨x, h⟩ hg hr => ⟨x, hP x _ _ _ h hg hr⟩
theorem Grown.blk (B : Nat) (t : TypeId) (g : Nat) (cs : Array Value) : Grown B (Blk t g cs) := fun W W' row h hg hr =>
  (hg.block g h.lt fun e => by
    obtain ⟨_, o, ho, hc⟩ := hr g e.symm
    have h2 : W.heap[g]? = some (.cells cs t (0, 0)) := h
    rw [h2] at ho
    cases ho
    cases hc).trans h
theorem Grown.rd (B : Nat) (k : IntKind) (A : Option Addr) (n : Nat) (f : Nat → Nat) : Grown B (fun W => Rd W.heap.size k W A n f) := fun _ _ _ h hg hr h0 => by
  obtain ⟨b, o, e, hb, hc⟩ := h h0
  exact ⟨b, o, e, Nat.lt_of_lt_of_le hb hg.size, fun i hi => cell_kept (hc i hi) hg fun q e => (hr q e).2⟩
theorem Grown.wv (B : Nat) (z : Int) (s : Bool) (A : Option Addr) (n : Nat) : Grown B (fun W => WV W z s A n) := fun W W' row h hg hr => ⟨h.1, h.2.1, Grown.rd B .u16 A _ _ W W' row h.2.2 hg hr⟩
theorem Grown.fv (B : Nat) (q : Rat) (s : Bool) (A : Option Addr) (n : Nat) (t : Bool) (C : Option Addr) (m : Nat) : Grown B (fun W => FV W q s A n t C m) := (Grown.wv B _ _ _ _).and (Grown.wv B _ _ _ _)
theorem Grown.bel {B : Nat} {w : World} (hB : w.heap.size ≤ B) : Grown B (Below w.heap.size w) := fun _ _ _ h hg hr => h.grown hg h.size fun q e => Nat.le_trans hB (hr q e).1
theorem Grown.env {B : Nat} {w : World} {P : World → Prop} (hB : w.heap.size ≤ B) (hP : Grown B P) : Grown B (Env w P) := fun W W' row h hg hr => ⟨Grown.bel hB W W' row h.bel hg hr, h.st, hP W W' row h.here hg hr⟩
theorem Grown.size (B j : Nat) : Grown B (fun W => j < W.heap.size) := fun _ _ _ h hg _ => Nat.lt_of_lt_of_le h hg.size
theorem Grown.drew {B : Nat} {P : World → Prop} (hP : Grown B P) {W : World} (h : P W) : P W.drew := hP W W.drew none h ⟨rfl, rfl, rfl, Nat.le_refl _, fun _ _ _ => rfl⟩ (fun _ e => by cases e)
theorem Blk.of_below {B g : Nat} {t : TypeId} {cs : Array Value} {W W' : World} (h : Blk t g cs W) (hb : Below B W W') (hg : g < B) : Blk t g cs W' := (hb.block g hg).trans h
theorem pr_stop {f : Nat → Rat} {M : Nat} (h : f M = 1) : ∀ k, M < k → pr f k = 0
  | 0, hk => by omega
  | k + 1, hk => by
    by_cases e : M = k
    · subst e
      simp only [pr]
      rw [h]
      grind
    · simp only [pr]
      rw [pr_stop h k (by omega)]
      grind
end Go.Proofs.YtgkepllfdhcdpaaGreat
namespace Go.Proofs.YtgkepllfdhcdpaaGreat
open Go.RowKit

theorem grown_of_below {W W' : World} (hb : Below W.heap.size W W') : W.grownBy W' none := ⟨hb.os, hb.tape, hb.output, hb.size, fun k hk _ => hb.block k hk⟩
theorem grownBy_setCellI (W : World) (g i : Nat) (u : Value) : W.grownBy (W.setCell ⟨g, i, none⟩ u) (some g) :=
  ⟨rfl, rfl, rfl, by rw [World.size_setCell]; exact Nat.le_refl _, fun k _ hne => Below.heap_setCell W ⟨g, i, none⟩ u k (fun e => hne (congrArg some e))⟩
theorem KpB.grown {n₀ Bs : Nat} {W W' : World} {row : Option Nat} (hn : n₀ ≤ W.heap.size) (hs : Bs < W.heap.size) (hg : W.grownBy W' row) (hr : ∀ q, row = some q → n₀ ≤ q ∧ q ≠ Bs) : KpB n₀ Bs W W' :=
  ⟨(Below.refl _ W).grown hg hn fun q e => (hr q e).1, hg.block Bs hs fun e => (hr Bs e.symm).2 rfl⟩
/-- What a round has kept since W0: blocks that are no cells from B on, all below n₀, and the block Bs. -/
structure Trail (B n₀ Bs : Nat) (W0 V : World) : Prop where
  keeps : KeepsFrom B W0 V
  kp : KpB n₀ Bs W0 V
  hs : Bs < V.heap.size
  hn : n₀ ≤ V.heap.size
section
variable {B n₀ Bs : Nat} {W0 V V' : World}
theorem Trail.refl (W0 : World) (hs : Bs < W0.heap.size) (hn : n₀ ≤ W0.heap.size) : Trail B n₀ Bs W0 W0 := ⟨KeepsFrom.refl _ _, ⟨Below.refl _ _, rfl⟩, hs, hn⟩
theorem Trail.grown (h : Trail B n₀ Bs W0 V) {row : Option Nat} (hg : V.grownBy V' row) (hr : ∀ q, row = some q → n₀ ≤ q ∧ q ≠ Bs ∧ q < B) : Trail B n₀ Bs W0 V' :=
  ⟨h.keeps.trans (KeepsFrom.of_grownBy hg fun q e => (hr q e).2.2), h.kp.t (KpB.grown h.hn h.hs hg fun q e => ⟨(hr q e).1, (hr q e).2.1⟩), Nat.lt_of_lt_of_le h.hs hg.size, Nat.le_trans h.hn hg.size⟩
theorem Trail.step (h : Trail B n₀ Bs W0 V) (hb : Below V.heap.size V V') : Trail B n₀ Bs W0 V' := h.grown (grown_of_below hb) (fun _ e => by cases e)
theorem Trail.stable (B n₀ Bs : Nat) (W0 : World) : Stable (Trail B n₀ Bs W0) := fun _ _ hb h => h.step hb
theorem Trail.set (h : Trail B n₀ Bs W0 V) {P : Nat} (hp : n₀ ≤ P ∧ P ≠ Bs ∧ P < B) (i : Nat) (u : Value) : Trail B n₀ Bs W0 (V.setCell ⟨P, i, none⟩ u) := h.grown (grownBy_setCellI V P i u) (fun q e => by cases e; exact hp)
theorem Trail.set4 (h : Trail B n₀ Bs W0 V) {P : Nat} (hp : n₀ ≤ P ∧ P ≠ Bs ∧ P < B) (a b c d : Value) : Trail B n₀ Bs W0 ((((V.setCell ⟨P, 0, none⟩ a).setCell ⟨P, 1, none⟩ b).setCell ⟨P, 2, none⟩ c).setCell ⟨P, 3, none⟩ d) :=
  (((h.set hp 0 a).set hp 1 b).set hp 2 c).set hp 3 d
end
theorem Env.trail {w W W0 : World} {P : World → Prop} {B n₀ Bs : Nat} (h : Env w P W) (ht : Trail B n₀ Bs W0 W) : Env w (fun V => P V ∧ Trail B n₀ Bs W0 V) W := h.and (Trail.stable _ _ _ _) ht
theorem last_year {F S E Y : Int} {n : Nat} {r : Nat → RH} (hR : RightP F S n r E Y) : ∃ M : Nat, M ≤ 111 ∧ (∀ k : Nat, k < M → E + Y + (k : Int) ≤ F + (n : Int) - 1) ∧ F + (n : Int) - 1 < E + Y + (M : Int) ∧ rt F S n r E Y (M : Int) = 1 := by
  obtain ⟨ht, r1, r2, r3, r4⟩ := hR
  obtain ⟨n1, n2⟩ : 1 ≤ n ∧ n ≤ 111 := ⟨ht.2.1.1, ht.2.1.2⟩
  refine ⟨(F + n - (E + Y)).toNat, by omega, fun k hk => by omega, by omega, ?_⟩
  unfold rt
  rw [if_pos (by omega)]
theorem Blk.c1 {w : World} {g : Nat} {t : TypeId} {a : Value} (h : Blk t g #[a] w) : w.cell? ⟨g, 0, none⟩ = some a := h.cell 0
def zeroF : Array Value := #[.bool false, .slice none 0 0, .bool false, .slice none 0 0]
/-- The books: the number of years in block Pn, the result in Pr, the number q in Pp. -/
def AInv (w : World) (k : Nat) (Pn Pr Pp : Nat) (q : Rat) (W : World) : Prop :=
  ∃ s A n c t C m d, Env w (fun V => (((True ∧ Blk 3 Pn #[.int .i64 (k : Int)] V) ∧ Blk 40 Pr #[.bool false, .slice none 0 0, .bool false, .slice none 0 0] V) ∧ FV V q s A n t C m) ∧ Blk 40 Pp #[.bool s, .slice A n c, .bool t, .slice C m d] V) W
theorem AInv.grown {w : World} {B : Nat} (hB : w.heap.size ≤ B) (k Pn Pr Pp : Nat) (q : Rat) : Grown B (AInv w k Pn Pr Pp q) := fun W W' row ⟨s, A, n, c, t, C, m, d, h⟩ hg hr =>
  ⟨s, A, n, c, t, C, m, d, Grown.env hB ((((Grown.tt B).and (Grown.blk _ _ _ _)).and (Grown.blk _ _ _ _)).and (Grown.fv _ _ _ _ _ _ _ _) |>.and (Grown.blk _ _ _ _)) W W' row h hg hr⟩
theorem AInv.step {w W W' : World} {k Pn Pr Pp : Nat} {q : Rat} (h : AInv w k Pn Pr Pp q W) (hb : Below W.heap.size W W') : AInv w k Pn Pr Pp q W' := by
  obtain ⟨s, A, n, c, t, C, m, d, h⟩ := h
  exact ⟨s, A, n, c, t, C, m, d, h.step hb⟩
/-- A round's own variables: the year, and the rate in a block of its own. -/
def AAx (f : Nat → Rat) (Pp : Nat) (mk : Nat → Value → Value → Act) (pre : List Yr) (x : Yr) (a : Act) (W : World) : Prop :=
  x.k = pre.length ∧ ∃ g, a = mk g (.int .i64 (x.k : Int)) (.agg #[.bool x.s, .slice x.A x.n x.c, .bool x.t, .slice x.B x.m x.d]) ∧ Pp < g ∧ g < W.heap.size ∧ FV W (f x.k) x.s x.A x.n x.t x.B x.m ∧ Blk 40 g #[.bool x.s, .slice x.A x.n x.c, .bool x.t, .slice x.B x.m x.d] W
theorem AAx.grown {B Pp : Nat} {f : Nat → Rat} {mk : Nat → Value → Value → Act} {pre : List Yr} {x : Yr} {a : Act} : Grown B (fun W => AAx f Pp mk pre x a W) :=
  (Grown.pure B _).and (Grown.ex fun g => (Grown.pure B _).and ((Grown.pure B _).and ((Grown.size B g).and ((Grown.fv B _ _ _ _ _ _ _).and (Grown.blk B _ _ _)))))
/-- The result q in block Pr. -/
def RInv (w : World) (Pr : Nat) (q : Rat) (W : World) : Prop :=
  ∃ s A n c t C m d, Env w (fun V => (True ∧ FV V q s A n t C m) ∧ Blk 40 Pr #[.bool s, .slice A n c, .bool t, .slice C m d] V) W
theorem RInv.grown {w : World} {B : Nat} (hB : w.heap.size ≤ B) (Pr : Nat) (q : Rat) : Grown B (RInv w Pr q) := fun W W' row ⟨s, A, n, c, t, C, m, d, h⟩ hg hr =>
  ⟨s, A, n, c, t, C, m, d, Grown.env hB (((Grown.tt B).and (Grown.fv _ _ _ _ _ _ _ _)).and (Grown.blk _ _ _ _)) W W' row h hg hr⟩
theorem heap_set4 {W : World} {R D : Nat} (h : D ≠ R) (a b c d : Value) : ((((W.setCell ⟨R, 0, none⟩ a).setCell ⟨R, 1, none⟩ b).setCell ⟨R, 2, none⟩ c).setCell ⟨R, 3, none⟩ d).heap[D]? = W.heap[D]? :=
  (((Below.heap_setCell _ ⟨R, 3, none⟩ d D h).trans (Below.heap_setCell _ ⟨R, 2, none⟩ c D h)).trans (Below.heap_setCell _ ⟨R, 1, none⟩ b D h)).trans (Below.heap_setCell _ ⟨R, 0, none⟩ a D h)
/-- A block of deferred calls. -/
def Dfr (D : Nat) (W : World) : Prop := W.heap[D]? = some (.deferred (some []))
theorem Dfr.stable (D : Nat) : Stable (Dfr D) := fun _ _ hb h => (hb.block D (Array.getElem?_eq_some_iff.1 h).1).trans h
theorem Env.def_ {w W : World} {P : World → Prop} {D : Nat} (h : Env w P W) (hD : W.heap[D]? = some (.deferred (some []))) : Env w (fun V => P V ∧ Dfr D V) W := h.and (Dfr.stable D) hD
theorem leave_frac {w V : World} {R D : Nat} {T : TypeId} {q : Rat} {s t : Bool} {A C : Option Addr} {n c m d : Nat} (hB : Blk T R #[.bool s, .slice A n c, .bool t, .slice C m d] V) (hV : FV V q s A n t C m) (hb : Below w.heap.size w V) (hD : w.heap.size ≤ D) (hne : D ≠ R) (hK : V.heap[D]? = some (.deferred (some []))) (o' : Obj) :
    Blk T R #[.bool s, .slice A n c, .bool t, .slice C m d] (V.putObj D o') ∧ FV (V.putObj D o') q s A n t C m ∧ Below w.heap.size w (V.putObj D o') :=
  ⟨(World.putObj_heap_other (Ne.symm hne)).trans hB, Grown.fv 0 _ _ _ _ _ _ _ V _ (some D) hV (grownBy_putObj' V D o') (fun q e => by cases e; exact ⟨Nat.zero_le _, _, hK, rfl⟩), hb.trans (belowK_b (w := w) (Nat.le_refl _) V D _ _ hD hK rfl rfl)⟩
end Go.Proofs.YtgkepllfdhcdpaaGreat
