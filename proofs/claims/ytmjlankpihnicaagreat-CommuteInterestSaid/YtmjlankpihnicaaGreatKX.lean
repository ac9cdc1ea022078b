/-
  Parts of the base for the reference.
-/
import Derived.Test.YtmjlankpihnicaaGreatC11
import Derived.Test.YtmjlankpihnicaaGreatWrapB
import Derived.Test.YtmjlankpihnicaaGreatHk
import Derived.Test.YtmjlankpihnicaaGreatK1
namespace Go.Proofs.YtmjlankpihnicaaGreat
open Go.RowKit Go.Shelf
attribute [local go_sem] Oper.semAt_some

theorem below_drewZ (B : Nat) (w : World) : Below B w w.drew := ⟨rfl, rfl, rfl, Nat.le_refl _, fun _ _ => rfl⟩
set_option linter.unusedSimpArgs false in
set_option maxRecDepth 100000 in
set_option maxHeartbeats 4000000 in
theorem years1_in (m : Nat) (hm : 2 ≤ m) (l Bs n₀ : Nat) {F S E Y : Int} {A : Option Addr} {n c : Nat} {r : Nat → RH} {w : World} (hn₀ : w.heap.size ≤ n₀) (hT : TabM w A n r) (hR : RightP F S n r E Y) (M : Nat) (hM : M ≤ 1000) (hMa : ∀ k : Nat, k < M → E + Y + (k : Int) ≤ F + (n : Int) - 1) (hMb : F + (n : Int) - 1 < E + Y + (M : Int))
  (J Jx : List Yr → World → Prop)
  (hJ : ∀ pre (W W' : World), J pre W → Below W.heap.size W W' → J pre W')
  (hY : ∀ pre x W, J pre W → Yr.fit (fun k => rt F S n r E Y (k : Int)) pre x W → pre.length < M + 1 → YieldAt Fence.wide (m - 1) Tryz.prog l x.vals W fun e W' =>
   (e = .returned (.bool true) ∧ J (pre ++ [x]) W' ∧ KpB n₀ Bs W W') ∨ (e = .returned (.bool false) ∧ Jx (pre ++ [x]) W'))
  (W : World) (hBs : Blk 99 Bs #[.int .i64 F, .int .i64 S, .slice A n c, .int .i64 E, .int .i64 Y] W) (hW : Below w.heap.size w W) (h0 : J [] W) :
  CallsIn Fence.wide m Tryz.prog 111 #[.func (.yield l) #[] #[], .pointer (some ⟨Bs, 0, none⟩)] W fun e W' => (∃ v, e = .returned v) ∧
   ((∃ ys, Yrs ys (M + 1) ∧ J ys W') ∨ (∃ pre, (∃ j, j ≤ M + 1 ∧ Yrs pre j) ∧ Jx pre W')) := by
 have hro : Fence.wide.round = none := rfl
 refine callsIn_of_wp Tryz.func111 rfl trivial ?_ hro
 simp only [Tryz.ntmps111, List.size_toArray, List.length_cons, List.length_nil, Nat.reduceAdd, Nat.reduceSub, Array.replicate_succ, Array.replicate_zero, List.push_toArray, List.append_toArray, List.nil_append, List.cons_append]
 gi_wp2
 gi_loopw [3] (fun i wr => ∃ (k : Nat) (pre : List Yr), k ≤ M ∧ i = .int .i64 (k : Int) ∧ Yrs pre k ∧ J pre wr ∧ Blk 99 Bs #[.int .i64 F, .int .i64 S, .slice A n c, .int .i64 E, .int .i64 Y] wr ∧ Below w.heap.size w wr)
  (fun i _ => (M + 1 - (intOf i).toNat))
 case atStart => exact ⟨0, [], Nat.zero_le _, rfl, Yrs.nil, h0, hBs, hW⟩
 case round =>
  obtain ⟨k, pre, hk, rfl, hys, hJs, hblk, hbel⟩ := hrel
  obtain ⟨k0, k1, k2, k3, k4⟩ := hblk.c5
  obtain ⟨ht, r1, r2, r3, r4⟩ := id hR
  obtain ⟨f1, f2, s1, s2, n1, n2⟩ : 0 ≤ F ∧ F ≤ 150 ∧ 0 ≤ S ∧ S ≤ 5 ∧ 1 ≤ n ∧ n ≤ 111 := ⟨ht.1.1.1, ht.1.1.2, ht.1.2.1, ht.1.2.2, ht.2.1.1, ht.2.1.2⟩
  have o1 : IntKind.i64.wrap (E + Y) = E + Y := by rw [IntKind.wrap_i64]; omega
  have o2 : IntKind.i64.wrap (E + Y + (k : Int)) = E + Y + (k : Int) := by rw [IntKind.wrap_i64]; omega
  have o3 : IntKind.i64.wrap ((k : Int) + 1) = (k : Int) + 1 := by rw [IntKind.wrap_i64]; omega
  have hmx : Tryz.prog.follows .mixedOrders = true := by kernel_rfl
  gi_wp2
  refine wpIn_region_any (by assumption) ?_
  try (change wpAnyIn _ _ _ _ _ _ _ _ _ (World.drew _))
  refine wpAnyIn_take (i := 0) (v := ?v0_1) rfl rfl (by kernel_rfl) (by kernel_rfl) (by kernel_rfl) (fun _ _ _ h => h) ⟨Or.inl ⟨by rfl, ?hy0_1⟩, fun _ => rfl⟩ ?rest0_1
  case hy0_1 => intro w; first | (go_simp; done) | (go_simp; with_reducible rfl)
  try simp only [PL]
  refine wpAnyIn_take (i := 1) (v := ?v1_2) rfl rfl (by kernel_rfl) (by kernel_rfl) (by kernel_rfl) (fun _ _ _ h => h) ⟨Or.inl ⟨by rfl, ?hy1_2⟩, fun _ => rfl⟩ ?rest1_2
  case hy1_2 => intro w; first | (go_simp; done) | (go_simp; with_reducible rfl)
  try simp only [PL]
  refine wpAnyIn_take (i := 3) (v := ?v3_3) rfl rfl (by kernel_rfl) (by kernel_rfl) (by kernel_rfl) (fun _ _ _ h => h) ⟨Or.inl ⟨by rfl, ?hy3_3⟩, fun _ => rfl⟩ ?rest3_3
  case hy3_3 => intro w; first | (go_simp; done) | (go_simp; with_reducible rfl)
  try simp only [PL]
  refine wpAnyIn_ready (rs := [2]) (by kernel_rfl) (by simp) ?_
  refine AllReadyIn.cons rfl (fun K hK => ?_) ?_
  ·
   go_simp
   refine hK _ _ ?_
   clear hK K
   try simp only [PL]
   refine wpAnyIn_ready (rs := [4]) (by kernel_rfl) (by simp) ?_
   refine AllReadyIn.cons rfl (fun K hK => ?_) ?_
   ·
    go_simp
    refine ⟨trivial, fun _ => by omega, (callsIn_wide.2 (lrate_v (k := (k : Int)) (hT.below (hbel.trans (below_drewZ _ _))) hR (by omega) (by omega))).mono ?_⟩
    rintro e w1 ⟨s1, A1, n1, c1, t1, B1, m1, d1, rfl, hF1, hb1⟩
    have hb2 : Blk 99 Bs #[.int .i64 F, .int .i64 S, .slice A n c, .int .i64 E, .int .i64 Y] w1 := (hb1.block Bs hblk.lt).trans hblk
    have hbel2 : Below w.heap.size w w1 := (hbel.trans (below_drewZ _ _)).trans (hb1.mono (hbel.trans (below_drewZ _ _)).size)
    have hJ1 := hJ _ _ _ (hJ _ _ _ hJs (below_drewZ _ _)) hb1
    obtain ⟨fn, tmps, assign, body, hy, hR5⟩ := hY _ ⟨k, s1, A1, n1, c1, t1, B1, m1, d1⟩ w1 hJ1 ⟨hys.length.symm, hF1⟩ (by rw [hys.length]; omega)
    gi_wp2_with fail
    refine wpAnyIn_ready (rs := [5]) (by kernel_rfl) (by simp) ?_
    refine AllReadyIn.cons rfl (fun K hK => ?_) ?_
    ·
     dsimp only [Yr.vals] at hy
     go_simp
     refine ⟨fun _ => by omega, hR5.mono ?_⟩
     rintro e W3 (⟨rfl, hJ3, hk3⟩ | ⟨rfl, hJx3⟩)
     ·
      have hb3 := hk3.blk hb2
      obtain ⟨k0, k1, k2, k3, k4⟩ := hb3.c5
      have hbel3 : Below w.heap.size w W3 := (hbel2.trans (hk3.1.mono hn₀))
      gi_wp2_with fail
      refine wpAnyIn_take (i := 6) (v := ?v6_4) rfl rfl (by kernel_rfl) (by kernel_rfl) (by kernel_rfl) (fun _ _ _ h => h) ⟨Or.inl ⟨by rfl, ?hy6_4⟩, fun _ => rfl⟩ ?rest6_4
      case hy6_4 => intro w; first | (go_simp; done) | (go_simp; with_reducible rfl)
      try simp only [PL]
      refine wpAnyIn_take (i := 7) (v := ?v7_5) rfl rfl (by kernel_rfl) (by kernel_rfl) (by kernel_rfl) (fun _ _ _ h => h) ⟨Or.inl ⟨by rfl, ?hy7_5⟩, fun _ => rfl⟩ ?rest7_5
      case hy7_5 => intro w; first | (go_simp; done) | (go_simp; with_reducible rfl)
      try simp only [PL]
      refine wpAnyIn_take (i := 8) (v := ?v8_6) rfl rfl (by kernel_rfl) (by kernel_rfl) (by kernel_rfl) (fun _ _ _ h => h) ⟨Or.inl ⟨by rfl, ?hy8_6⟩, fun _ => rfl⟩ ?rest8_6
      case hy8_6 => intro w; first | (go_simp; done) | (go_simp; with_reducible rfl)
      try simp only [PL]
      refine wpAnyIn_take (i := 9) (v := ?v9_7) rfl rfl (by kernel_rfl) (by kernel_rfl) (by kernel_rfl) (fun _ _ _ h => h) ⟨Or.inl ⟨by rfl, ?hy9_7⟩, fun _ => rfl⟩ ?rest9_7
      case hy9_7 => intro w; first | (go_simp; done) | (go_simp; with_reducible rfl)
      try simp only [PL]
      refine wpAnyIn_take (i := 11) (v := ?v11_8) rfl rfl (by kernel_rfl) (by kernel_rfl) (by kernel_rfl) (fun _ _ _ h => h) ⟨Or.inl ⟨by rfl, ?hy11_8⟩, fun _ => rfl⟩ ?rest11_8
      case hy11_8 => intro w; first | (go_simp; done) | (go_simp; with_reducible rfl)
      try simp only [PL]
      refine wpAnyIn_take (i := 12) (v := ?v12_9) rfl rfl (by kernel_rfl) (by kernel_rfl) (by kernel_rfl) (fun _ _ _ h => h) ⟨Or.inl ⟨by rfl, ?hy12_9⟩, fun _ => rfl⟩ ?rest12_9
      case hy12_9 => intro w; first | (go_simp; done) | (go_simp; with_reducible rfl)
      try simp only [PL]
      refine wpAnyIn_take (i := 15) (v := ?v15_10) rfl rfl (by kernel_rfl) (by kernel_rfl) (by kernel_rfl) (fun _ _ _ h => h) ⟨Or.inl ⟨by rfl, ?hy15_10⟩, fun _ => rfl⟩ ?rest15_10
      case hy15_10 => intro w; first | (go_simp; done) | (go_simp; with_reducible rfl)
      try simp only [PL]
      refine wpAnyIn_take (i := 17) (v := ?v17_11) rfl rfl (by kernel_rfl) (by kernel_rfl) (by kernel_rfl) (fun _ _ _ h => h) ⟨Or.inl ⟨by rfl, ?hy17_11⟩, fun _ => rfl⟩ ?rest17_11
      case hy17_11 => intro w; first | (go_simp; done) | (go_simp; with_reducible rfl)
      try simp only [PL]
      refine wpAnyIn_ready (rs := [10, 13, 18]) (by kernel_rfl) (by simp) ?_
      refine AllReadyIn.cons rfl (fun K hK => ?_) ?_
      ·
       go_simp
       refine hK _ _ ?_
       clear hK K
       try simp only [PL]
       refine wpAnyIn_ready (rs := [13, 18]) (by kernel_rfl) (by simp) ?_
       refine AllReadyIn.cons rfl (fun K hK => ?_) ?_
       ·
        go_simp
        refine hK _ _ ?_
        clear hK K
        try simp only [PL]
        refine wpAnyIn_take (i := 14) (v := ?v14_12) rfl rfl (by kernel_rfl) (by kernel_rfl) (by kernel_rfl) (fun _ _ _ h => h) ⟨Or.inl ⟨by rfl, ?hy14_12⟩, fun _ => rfl⟩ ?rest14_12
        case hy14_12 => intro w; first | (go_simp; done) | (go_simp; with_reducible rfl)
        try simp only [PL]
        refine wpAnyIn_take (i := 16) (v := ?v16_13) rfl rfl (by kernel_rfl) (by kernel_rfl) (by kernel_rfl) (fun _ _ _ h => h) ⟨Or.inl ⟨by rfl, ?hy16_13⟩, fun _ => rfl⟩ ?rest16_13
        case hy16_13 => intro w; first | (go_simp; done) | (go_simp; with_reducible rfl)
        try simp only [PL]
        refine wpAnyIn_ready (rs := [18]) (by kernel_rfl) (by simp) ?_
        refine AllReadyIn.cons rfl (fun K hK => ?_) ?_
        ·
         go_simp
         refine hK _ _ ?_
         clear hK K
         try simp only [PL]
         refine wpAnyIn_ready (rs := [19]) (by kernel_rfl) (by simp) ?_
         refine AllReadyIn.cons rfl (fun K hK => ?_) ?_
         ·
          go_simp
          refine ⟨trivial, fun _ => by omega, (callsIn_wide.2 (llast_v F S A n c _ f1 (by omega) (by omega))).mono ?_⟩
          rintro e w4 ⟨rfl, hb4⟩
          have hb5 : Blk 99 Bs #[.int .i64 F, .int .i64 S, .slice A n c, .int .i64 E, .int .i64 Y] w4 := (hb4.block Bs hb3.lt).trans hb3
          obtain ⟨k0, k1, k2, k3, k4⟩ := hb5.c5
          have hJ4 := hJ _ _ _ hJ3 hb4
          have hbel4 : Below w.heap.size w w4 := hbel3.trans (hb4.mono hbel3.size)
          gi_wp2_with fail
          refine wpAnyIn_take (i := 20) (v := ?v20_14) rfl rfl (by kernel_rfl) (by kernel_rfl) (by kernel_rfl) (fun _ _ _ h => h) ⟨Or.inl ⟨by rfl, ?hy20_14⟩, fun _ => rfl⟩ ?rest20_14
          case hy20_14 => intro w; first | (go_simp; done) | (go_simp; with_reducible rfl)
          try simp only [PL]
          refine wpAnyIn_take (i := 21) (v := ?v21_15) rfl rfl (by kernel_rfl) (by kernel_rfl) (by kernel_rfl) (fun _ _ _ h => h) ⟨Or.inl ⟨by rfl, ?hy21_15⟩, fun _ => rfl⟩ ?rest21_15
          case hy21_15 => intro w; first | (go_simp; done) | (go_simp; with_reducible rfl)
          try simp only [PL]
          refine wpAnyIn_done (by kernel_rfl) ?_ _
          by_cases hkM : k < M
          ·
           have hcc := hMa k hkM
           have hng : ¬ (F + (n : Int) - 1 < E + Y + (k : Int)) := by omega
           gi_wp2
           go_roundw
           case rel => exact ⟨k + 1, _, by omega, by (try simp only [ok1]) <;> norm_cast, hys.snoc rfl, hJ4, hb5, hbel4⟩
           case measure => simp [intOf] <;> omega
          ·
           obtain rfl : k = M := by omega
           gi_wp2
           refine bodyPost_ret (results_none rfl _ _ _) rfl ?_
           exact ⟨⟨_, rfl⟩, .inl ⟨_, hys.snoc rfl, hJ4⟩⟩
         exact AllReadyIn.nil
        exact AllReadyIn.nil
       refine AllReadyIn.cons rfl (fun K hK => ?_) ?_
       ·
        go_simp
        refine hK _ _ ?_
        clear hK K
        try simp only [PL]
        refine wpAnyIn_ready (rs := [13, 19]) (by kernel_rfl) (by simp) ?_
        refine AllReadyIn.cons rfl (fun K hK => ?_) ?_
        ·
         go_simp
         refine hK _ _ ?_
         clear hK K
         try simp only [PL]
         refine wpAnyIn_take (i := 14) (v := ?v14_16) rfl rfl (by kernel_rfl) (by kernel_rfl) (by kernel_rfl) (fun _ _ _ h => h) ⟨Or.inl ⟨by rfl, ?hy14_16⟩, fun _ => rfl⟩ ?rest14_16
         case hy14_16 => intro w; first | (go_simp; done) | (go_simp; with_reducible rfl)
         try simp only [PL]
         refine wpAnyIn_take (i := 16) (v := ?v16_17) rfl rfl (by kernel_rfl) (by kernel_rfl) (by kernel_rfl) (fun _ _ _ h => h) ⟨Or.inl ⟨by rfl, ?hy16_17⟩, fun _ => rfl⟩ ?rest16_17
         case hy16_17 => intro w; first | (go_simp; done) | (go_simp; with_reducible rfl)
         try simp only [PL]
         refine wpAnyIn_ready (rs := [19]) (by kernel_rfl) (by simp) ?_
         refine AllReadyIn.cons rfl (fun K hK => ?_) ?_
         ·
          go_simp
          refine ⟨trivial, fun _ => by omega, (callsIn_wide.2 (llast_v F S A n c _ f1 (by omega) (by omega))).mono ?_⟩
          rintro e w4 ⟨rfl, hb4⟩
          have hb5 : Blk 99 Bs #[.int .i64 F, .int .i64 S, .slice A n c, .int .i64 E, .int .i64 Y] w4 := (hb4.block Bs hb3.lt).trans hb3
          obtain ⟨k0, k1, k2, k3, k4⟩ := hb5.c5
          have hJ4 := hJ _ _ _ hJ3 hb4
          have hbel4 : Below w.heap.size w w4 := hbel3.trans (hb4.mono hbel3.size)
          gi_wp2_with fail
          refine wpAnyIn_take (i := 20) (v := ?v20_18) rfl rfl (by kernel_rfl) (by kernel_rfl) (by kernel_rfl) (fun _ _ _ h => h) ⟨Or.inl ⟨by rfl, ?hy20_18⟩, fun _ => rfl⟩ ?rest20_18
          case hy20_18 => intro w; first | (go_simp; done) | (go_simp; with_reducible rfl)
          try simp only [PL]
          refine wpAnyIn_take (i := 21) (v := ?v21_19) rfl rfl (by kernel_rfl) (by kernel_rfl) (by kernel_rfl) (fun _ _ _ h => h) ⟨Or.inl ⟨by rfl, ?hy21_19⟩, fun _ => rfl⟩ ?rest21_19
          case hy21_19 => intro w; first | (go_simp; done) | (go_simp; with_reducible rfl)
          try simp only [PL]
          refine wpAnyIn_done (by kernel_rfl) ?_ _
          by_cases hkM : k < M
          ·
           have hcc := hMa k hkM
           have hng : ¬ (F + (n : Int) - 1 < E + Y + (k : Int)) := by omega
           gi_wp2
           go_roundw
           case rel => exact ⟨k + 1, _, by omega, by (try simp only [ok1]) <;> norm_cast, hys.snoc rfl, hJ4, hb5, hbel4⟩
           case measure => simp [intOf] <;> omega
          ·
           obtain rfl : k = M := by omega
           gi_wp2
           refine bodyPost_ret (results_none rfl _ _ _) rfl ?_
           exact ⟨⟨_, rfl⟩, .inl ⟨_, hys.snoc rfl, hJ4⟩⟩
         exact AllReadyIn.nil
        refine AllReadyIn.cons rfl (fun K hK => ?_) ?_
        ·
         go_simp
         refine ⟨trivial, fun _ => by omega, (callsIn_wide.2 (llast_v F S A n c _ f1 (by omega) (by omega))).mono ?_⟩
         rintro e w4 ⟨rfl, hb4⟩
         have hb5 : Blk 99 Bs #[.int .i64 F, .int .i64 S, .slice A n c, .int .i64 E, .int .i64 Y] w4 := (hb4.block Bs hb3.lt).trans hb3
         obtain ⟨k0, k1, k2, k3, k4⟩ := hb5.c5
         have hJ4 := hJ _ _ _ hJ3 hb4
         have hbel4 : Below w.heap.size w w4 := hbel3.trans (hb4.mono hbel3.size)
         gi_wp2_with fail
         refine wpAnyIn_ready (rs := [13]) (by kernel_rfl) (by simp) ?_
         refine AllReadyIn.cons rfl (fun K hK => ?_) ?_
         ·
          go_simp
          refine hK _ _ ?_
          clear hK K
          try simp only [PL]
          refine wpAnyIn_take (i := 14) (v := ?v14_20) rfl rfl (by kernel_rfl) (by kernel_rfl) (by kernel_rfl) (fun _ _ _ h => h) ⟨Or.inl ⟨by rfl, ?hy14_20⟩, fun _ => rfl⟩ ?rest14_20
          case hy14_20 => intro w; first | (go_simp; done) | (go_simp; with_reducible rfl)
          try simp only [PL]
          refine wpAnyIn_take (i := 16) (v := ?v16_21) rfl rfl (by kernel_rfl) (by kernel_rfl) (by kernel_rfl) (fun _ _ _ h => h) ⟨Or.inl ⟨by rfl, ?hy16_21⟩, fun _ => rfl⟩ ?rest16_21
          case hy16_21 => intro w; first | (go_simp; done) | (go_simp; with_reducible rfl)
          try simp only [PL]
          refine wpAnyIn_take (i := 20) (v := ?v20_22) rfl rfl (by kernel_rfl) (by kernel_rfl) (by kernel_rfl) (fun _ _ _ h => h) ⟨Or.inl ⟨by rfl, ?hy20_22⟩, fun _ => rfl⟩ ?rest20_22
          case hy20_22 => intro w; first | (go_simp; done) | (go_simp; with_reducible rfl)
          try simp only [PL]
          refine wpAnyIn_take (i := 21) (v := ?v21_23) rfl rfl (by kernel_rfl) (by kernel_rfl) (by kernel_rfl) (fun _ _ _ h => h) ⟨Or.inl ⟨by rfl, ?hy21_23⟩, fun _ => rfl⟩ ?rest21_23
          case hy21_23 => intro w; first | (go_simp; done) | (go_simp; with_reducible rfl)
          try simp only [PL]
          refine wpAnyIn_done (by kernel_rfl) ?_ _
          by_cases hkM : k < M
          ·
           have hcc := hMa k hkM
           have hng : ¬ (F + (n : Int) - 1 < E + Y + (k : Int)) := by omega
           gi_wp2
           go_roundw
           case rel => exact ⟨k + 1, _, by omega, by (try simp only [ok1]) <;> norm_cast, hys.snoc rfl, hJ4, hb5, hbel4⟩
           case measure => simp [intOf] <;> omega
          ·
           obtain rfl : k = M := by omega
           gi_wp2
           refine bodyPost_ret (results_none rfl _ _ _) rfl ?_
           exact ⟨⟨_, rfl⟩, .inl ⟨_, hys.snoc rfl, hJ4⟩⟩
         exact AllReadyIn.nil
        exact AllReadyIn.nil
       exact AllReadyIn.nil
      refine AllReadyIn.cons rfl (fun K hK => ?_) ?_
      ·
       go_simp
       refine hK _ _ ?_
       clear hK K
       try simp only [PL]
       refine wpAnyIn_ready (rs := [10, 18]) (by kernel_rfl) (by simp) ?_
       refine AllReadyIn.cons rfl (fun K hK => ?_) ?_
       ·
        go_simp
        refine hK _ _ ?_
        clear hK K
        try simp only [PL]
        refine wpAnyIn_take (i := 14) (v := ?v14_24) rfl rfl (by kernel_rfl) (by kernel_rfl) (by kernel_rfl) (fun _ _ _ h => h) ⟨Or.inl ⟨by rfl, ?hy14_24⟩, fun _ => rfl⟩ ?rest14_24
        case hy14_24 => intro w; first | (go_simp; done) | (go_simp; with_reducible rfl)
        try simp only [PL]
        refine wpAnyIn_take (i := 16) (v := ?v16_25) rfl rfl (by kernel_rfl) (by kernel_rfl) (by kernel_rfl) (fun _ _ _ h => h) ⟨Or.inl ⟨by rfl, ?hy16_25⟩, fun _ => rfl⟩ ?rest16_25
        case hy16_25 => intro w; first | (go_simp; done) | (go_simp; with_reducible rfl)
        try simp only [PL]
        refine wpAnyIn_ready (rs := [18]) (by kernel_rfl) (by simp) ?_
        refine AllReadyIn.cons rfl (fun K hK => ?_) ?_
        ·
         go_simp
         refine hK _ _ ?_
         clear hK K
         try simp only [PL]
         refine wpAnyIn_ready (rs := [19]) (by kernel_rfl) (by simp) ?_
         refine AllReadyIn.cons rfl (fun K hK => ?_) ?_
         ·
          go_simp
          refine ⟨trivial, fun _ => by omega, (callsIn_wide.2 (llast_v F S A n c _ f1 (by omega) (by omega))).mono ?_⟩
          rintro e w4 ⟨rfl, hb4⟩
          have hb5 : Blk 99 Bs #[.int .i64 F, .int .i64 S, .slice A n c, .int .i64 E, .int .i64 Y] w4 := (hb4.block Bs hb3.lt).trans hb3
          obtain ⟨k0, k1, k2, k3, k4⟩ := hb5.c5
          have hJ4 := hJ _ _ _ hJ3 hb4
          have hbel4 : Below w.heap.size w w4 := hbel3.trans (hb4.mono hbel3.size)
          gi_wp2_with fail
          refine wpAnyIn_take (i := 20) (v := ?v20_26) rfl rfl (by kernel_rfl) (by kernel_rfl) (by kernel_rfl) (fun _ _ _ h => h) ⟨Or.inl ⟨by rfl, ?hy20_26⟩, fun _ => rfl⟩ ?rest20_26
          case hy20_26 => intro w; first | (go_simp; done) | (go_simp; with_reducible rfl)
          try simp only [PL]
          refine wpAnyIn_take (i := 21) (v := ?v21_27) rfl rfl (by kernel_rfl) (by kernel_rfl) (by kernel_rfl) (fun _ _ _ h => h) ⟨Or.inl ⟨by rfl, ?hy21_27⟩, fun _ => rfl⟩ ?rest21_27
          case hy21_27 => intro w; first | (go_simp; done) | (go_simp; with_reducible rfl)
          try simp only [PL]
          refine wpAnyIn_done (by kernel_rfl) ?_ _
          by_cases hkM : k < M
          ·
           have hcc := hMa k hkM
           have hng : ¬ (F + (n : Int) - 1 < E + Y + (k : Int)) := by omega
           gi_wp2
           go_roundw
           case rel => exact ⟨k + 1, _, by omega, by (try simp only [ok1]) <;> norm_cast, hys.snoc rfl, hJ4, hb5, hbel4⟩
           case measure => simp [intOf] <;> omega
          ·
           obtain rfl : k = M := by omega
           gi_wp2
           refine bodyPost_ret (results_none rfl _ _ _) rfl ?_
           exact ⟨⟨_, rfl⟩, .inl ⟨_, hys.snoc rfl, hJ4⟩⟩
         exact AllReadyIn.nil
        exact AllReadyIn.nil
       refine AllReadyIn.cons rfl (fun K hK => ?_) ?_
       ·
        go_simp
        refine hK _ _ ?_
        clear hK K
        try simp only [PL]
        refine wpAnyIn_ready (rs := [10, 19]) (by kernel_rfl) (by simp) ?_
        refine AllReadyIn.cons rfl (fun K hK => ?_) ?_
        ·
         go_simp
         refine hK _ _ ?_
         clear hK K
         try simp only [PL]
         refine wpAnyIn_take (i := 14) (v := ?v14_28) rfl rfl (by kernel_rfl) (by kernel_rfl) (by kernel_rfl) (fun _ _ _ h => h) ⟨Or.inl ⟨by rfl, ?hy14_28⟩, fun _ => rfl⟩ ?rest14_28
         case hy14_28 => intro w; first | (go_simp; done) | (go_simp; with_reducible rfl)
         try simp only [PL]
         refine wpAnyIn_take (i := 16) (v := ?v16_29) rfl rfl (by kernel_rfl) (by kernel_rfl) (by kernel_rfl) (fun _ _ _ h => h) ⟨Or.inl ⟨by rfl, ?hy16_29⟩, fun _ => rfl⟩ ?rest16_29
         case hy16_29 => intro w; first | (go_simp; done) | (go_simp; with_reducible rfl)
         try simp only [PL]
         refine wpAnyIn_ready (rs := [19]) (by kernel_rfl) (by simp) ?_
         refine AllReadyIn.cons rfl (fun K hK => ?_) ?_
         ·
          go_simp
          refine ⟨trivial, fun _ => by omega, (callsIn_wide.2 (llast_v F S A n c _ f1 (by omega) (by omega))).mono ?_⟩
          rintro e w4 ⟨rfl, hb4⟩
          have hb5 : Blk 99 Bs #[.int .i64 F, .int .i64 S, .slice A n c, .int .i64 E, .int .i64 Y] w4 := (hb4.block Bs hb3.lt).trans hb3
          obtain ⟨k0, k1, k2, k3, k4⟩ := hb5.c5
          have hJ4 := hJ _ _ _ hJ3 hb4
          have hbel4 : Below w.heap.size w w4 := hbel3.trans (hb4.mono hbel3.size)
          gi_wp2_with fail
          refine wpAnyIn_take (i := 20) (v := ?v20_30) rfl rfl (by kernel_rfl) (by kernel_rfl) (by kernel_rfl) (fun _ _ _ h => h) ⟨Or.inl ⟨by rfl, ?hy20_30⟩, fun _ => rfl⟩ ?rest20_30
          case hy20_30 => intro w; first | (go_simp; done) | (go_simp; with_reducible rfl)
          try simp only [PL]
          refine wpAnyIn_take (i := 21) (v := ?v21_31) rfl rfl (by kernel_rfl) (by kernel_rfl) (by kernel_rfl) (fun _ _ _ h => h) ⟨Or.inl ⟨by rfl, ?hy21_31⟩, fun _ => rfl⟩ ?rest21_31
          case hy21_31 => intro w; first | (go_simp; done) | (go_simp; with_reducible rfl)
          try simp only [PL]
          refine wpAnyIn_done (by kernel_rfl) ?_ _
          by_cases hkM : k < M
          ·
           have hcc := hMa k hkM
           have hng : ¬ (F + (n : Int) - 1 < E + Y + (k : Int)) := by omega
           gi_wp2
           go_roundw
           case rel => exact ⟨k + 1, _, by omega, by (try simp only [ok1]) <;> norm_cast, hys.snoc rfl, hJ4, hb5, hbel4⟩
           case measure => simp [intOf] <;> omega
          ·
           obtain rfl : k = M := by omega
           gi_wp2
           refine bodyPost_ret (results_none rfl _ _ _) rfl ?_
           exact ⟨⟨_, rfl⟩, .inl ⟨_, hys.snoc rfl, hJ4⟩⟩
         exact AllReadyIn.nil
        refine AllReadyIn.cons rfl (fun K hK => ?_) ?_
        ·
         go_simp
         refine ⟨trivial, fun _ => by omega, (callsIn_wide.2 (llast_v F S A n c _ f1 (by omega) (by omega))).mono ?_⟩
         rintro e w4 ⟨rfl, hb4⟩
         have hb5 : Blk 99 Bs #[.int .i64 F, .int .i64 S, .slice A n c, .int .i64 E, .int .i64 Y] w4 := (hb4.block Bs hb3.lt).trans hb3
         obtain ⟨k0, k1, k2, k3, k4⟩ := hb5.c5
         have hJ4 := hJ _ _ _ hJ3 hb4
         have hbel4 : Below w.heap.size w w4 := hbel3.trans (hb4.mono hbel3.size)
         gi_wp2_with fail
         refine wpAnyIn_ready (rs := [10]) (by kernel_rfl) (by simp) ?_
         refine AllReadyIn.cons rfl (fun K hK => ?_) ?_
         ·
          go_simp
          refine hK _ _ ?_
          clear hK K
          try simp only [PL]
          refine wpAnyIn_take (i := 14) (v := ?v14_32) rfl rfl (by kernel_rfl) (by kernel_rfl) (by kernel_rfl) (fun _ _ _ h => h) ⟨Or.inl ⟨by rfl, ?hy14_32⟩, fun _ => rfl⟩ ?rest14_32
          case hy14_32 => intro w; first | (go_simp; done) | (go_simp; with_reducible rfl)
          try simp only [PL]
          refine wpAnyIn_take (i := 16) (v := ?v16_33) rfl rfl (by kernel_rfl) (by kernel_rfl) (by kernel_rfl) (fun _ _ _ h => h) ⟨Or.inl ⟨by rfl, ?hy16_33⟩, fun _ => rfl⟩ ?rest16_33
          case hy16_33 => intro w; first | (go_simp; done) | (go_simp; with_reducible rfl)
          try simp only [PL]
          refine wpAnyIn_take (i := 20) (v := ?v20_34) rfl rfl (by kernel_rfl) (by kernel_rfl) (by kernel_rfl) (fun _ _ _ h => h) ⟨Or.inl ⟨by rfl, ?hy20_34⟩, fun _ => rfl⟩ ?rest20_34
          case hy20_34 => intro w; first | (go_simp; done) | (go_simp; with_reducible rfl)
          try simp only [PL]
          refine wpAnyIn_take (i := 21) (v := ?v21_35) rfl rfl (by kernel_rfl) (by kernel_rfl) (by kernel_rfl) (fun _ _ _ h => h) ⟨Or.inl ⟨by rfl, ?hy21_35⟩, fun _ => rfl⟩ ?rest21_35
          case hy21_35 => intro w; first | (go_simp; done) | (go_simp; with_reducible rfl)
          try simp only [PL]
          refine wpAnyIn_done (by kernel_rfl) ?_ _
          by_cases hkM : k < M
          ·
           have hcc := hMa k hkM
           have hng : ¬ (F + (n : Int) - 1 < E + Y + (k : Int)) := by omega
           gi_wp2
           go_roundw
           case rel => exact ⟨k + 1, _, by omega, by (try simp only [ok1]) <;> norm_cast, hys.snoc rfl, hJ4, hb5, hbel4⟩
           case measure => simp [intOf] <;> omega
          ·
           obtain rfl : k = M := by omega
           gi_wp2
           refine bodyPost_ret (results_none rfl _ _ _) rfl ?_
           exact ⟨⟨_, rfl⟩, .inl ⟨_, hys.snoc rfl, hJ4⟩⟩
         exact AllReadyIn.nil
        exact AllReadyIn.nil
       exact AllReadyIn.nil
      refine AllReadyIn.cons rfl (fun K hK => ?_) ?_
      ·
       go_simp
       refine hK _ _ ?_
       clear hK K
       try simp only [PL]
       refine wpAnyIn_ready (rs := [10, 13, 19]) (by kernel_rfl) (by simp) ?_
       refine AllReadyIn.cons rfl (fun K hK => ?_) ?_
       ·
        go_simp
        refine hK _ _ ?_
        clear hK K
        try simp only [PL]
        refine wpAnyIn_ready (rs := [13, 19]) (by kernel_rfl) (by simp) ?_
        refine AllReadyIn.cons rfl (fun K hK => ?_) ?_
        ·
         go_simp
         refine hK _ _ ?_
         clear hK K
         try simp only [PL]
         refine wpAnyIn_take (i := 14) (v := ?v14_36) rfl rfl (by kernel_rfl) (by kernel_rfl) (by kernel_rfl) (fun _ _ _ h => h) ⟨Or.inl ⟨by rfl, ?hy14_36⟩, fun _ => rfl⟩ ?rest14_36
         case hy14_36 => intro w; first | (go_simp; done) | (go_simp; with_reducible rfl)
         try simp only [PL]
         refine wpAnyIn_take (i := 16) (v := ?v16_37) rfl rfl (by kernel_rfl) (by kernel_rfl) (by kernel_rfl) (fun _ _ _ h => h) ⟨Or.inl ⟨by rfl, ?hy16_37⟩, fun _ => rfl⟩ ?rest16_37
         case hy16_37 => intro w; first | (go_simp; done) | (go_simp; with_reducible rfl)
         try simp only [PL]
         refine wpAnyIn_ready (rs := [19]) (by kernel_rfl) (by simp) ?_
         refine AllReadyIn.cons rfl (fun K hK => ?_) ?_
         ·
          go_simp
          refine ⟨trivial, fun _ => by omega, (callsIn_wide.2 (llast_v F S A n c _ f1 (by omega) (by omega))).mono ?_⟩
          rintro e w4 ⟨rfl, hb4⟩
          have hb5 : Blk 99 Bs #[.int .i64 F, .int .i64 S, .slice A n c, .int .i64 E, .int .i64 Y] w4 := (hb4.block Bs hb3.lt).trans hb3
          obtain ⟨k0, k1, k2, k3, k4⟩ := hb5.c5
          have hJ4 := hJ _ _ _ hJ3 hb4
          have hbel4 : Below w.heap.size w w4 := hbel3.trans (hb4.mono hbel3.size)
          gi_wp2_with fail
          refine wpAnyIn_take (i := 20) (v := ?v20_38) rfl rfl (by kernel_rfl) (by kernel_rfl) (by kernel_rfl) (fun _ _ _ h => h) ⟨Or.inl ⟨by rfl, ?hy20_38⟩, fun _ => rfl⟩ ?rest20_38
          case hy20_38 => intro w; first | (go_simp; done) | (go_simp; with_reducible rfl)
          try simp only [PL]
          refine wpAnyIn_take (i := 21) (v := ?v21_39) rfl rfl (by kernel_rfl) (by kernel_rfl) (by kernel_rfl) (fun _ _ _ h => h) ⟨Or.inl ⟨by rfl, ?hy21_39⟩, fun _ => rfl⟩ ?rest21_39
          case hy21_39 => intro w; first | (go_simp; done) | (go_simp; with_reducible rfl)
          try simp only [PL]
          refine wpAnyIn_done (by kernel_rfl) ?_ _
          by_cases hkM : k < M
          ·
           have hcc := hMa k hkM
           have hng : ¬ (F + (n : Int) - 1 < E + Y + (k : Int)) := by omega
           gi_wp2
           go_roundw
           case rel => exact ⟨k + 1, _, by omega, by (try simp only [ok1]) <;> norm_cast, hys.snoc rfl, hJ4, hb5, hbel4⟩
           case measure => simp [intOf] <;> omega
          ·
           obtain rfl : k = M := by omega
           gi_wp2
           refine bodyPost_ret (results_none rfl _ _ _) rfl ?_
           exact ⟨⟨_, rfl⟩, .inl ⟨_, hys.snoc rfl, hJ4⟩⟩
         exact AllReadyIn.nil
        refine AllReadyIn.cons rfl (fun K hK => ?_) ?_
        ·
         go_simp
         refine ⟨trivial, fun _ => by omega, (callsIn_wide.2 (llast_v F S A n c _ f1 (by omega) (by omega))).mono ?_⟩
         rintro e w4 ⟨rfl, hb4⟩
         have hb5 : Blk 99 Bs #[.int .i64 F, .int .i64 S, .slice A n c, .int .i64 E, .int .i64 Y] w4 := (hb4.block Bs hb3.lt).trans hb3
         obtain ⟨k0, k1, k2, k3, k4⟩ := hb5.c5
         have hJ4 := hJ _ _ _ hJ3 hb4
         have hbel4 : Below w.heap.size w w4 := hbel3.trans (hb4.mono hbel3.size)
         gi_wp2_with fail
         refine wpAnyIn_ready (rs := [13]) (by kernel_rfl) (by simp) ?_
         refine AllReadyIn.cons rfl (fun K hK => ?_) ?_
         ·
          go_simp
          refine hK _ _ ?_
          clear hK K
          try simp only [PL]
          refine wpAnyIn_take (i := 14) (v := ?v14_40) rfl rfl (by kernel_rfl) (by kernel_rfl) (by kernel_rfl) (fun _ _ _ h => h) ⟨Or.inl ⟨by rfl, ?hy14_40⟩, fun _ => rfl⟩ ?rest14_40
          case hy14_40 => intro w; first | (go_simp; done) | (go_simp; with_reducible rfl)
          try simp only [PL]
          refine wpAnyIn_take (i := 16) (v := ?v16_41) rfl rfl (by kernel_rfl) (by kernel_rfl) (by kernel_rfl) (fun _ _ _ h => h) ⟨Or.inl ⟨by rfl, ?hy16_41⟩, fun _ => rfl⟩ ?rest16_41
          case hy16_41 => intro w; first | (go_simp; done) | (go_simp; with_reducible rfl)
          try simp only [PL]
          refine wpAnyIn_take (i := 20) (v := ?v20_42) rfl rfl (by kernel_rfl) (by kernel_rfl) (by kernel_rfl) (fun _ _ _ h => h) ⟨Or.inl ⟨by rfl, ?hy20_42⟩, fun _ => rfl⟩ ?rest20_42
          case hy20_42 => intro w; first | (go_simp; done) | (go_simp; with_reducible rfl)
          try simp only [PL]
          refine wpAnyIn_take (i := 21) (v := ?v21_43) rfl rfl (by kernel_rfl) (by kernel_rfl) (by kernel_rfl) (fun _ _ _ h => h) ⟨Or.inl ⟨by rfl, ?hy21_43⟩, fun _ => rfl⟩ ?rest21_43
          case hy21_43 => intro w; first | (go_simp; done) | (go_simp; with_reducible rfl)
          try simp only [PL]
          refine wpAnyIn_done (by kernel_rfl) ?_ _
          by_cases hkM : k < M
          ·
           have hcc := hMa k hkM
           have hng : ¬ (F + (n : Int) - 1 < E + Y + (k : Int)) := by omega
           gi_wp2
           go_roundw
           case rel => exact ⟨k + 1, _, by omega, by (try simp only [ok1]) <;> norm_cast, hys.snoc rfl, hJ4, hb5, hbel4⟩
           case measure => simp [intOf] <;> omega
          ·
           obtain rfl : k = M := by omega
           gi_wp2
           refine bodyPost_ret (results_none rfl _ _ _) rfl ?_
           exact ⟨⟨_, rfl⟩, .inl ⟨_, hys.snoc rfl, hJ4⟩⟩
         exact AllReadyIn.nil
        exact AllReadyIn.nil
       refine AllReadyIn.cons rfl (fun K hK => ?_) ?_
       ·
        go_simp
        refine hK _ _ ?_
        clear hK K
        try simp only [PL]
        refine wpAnyIn_ready (rs := [10, 19]) (by kernel_rfl) (by simp) ?_
        refine AllReadyIn.cons rfl (fun K hK => ?_) ?_
        ·
         go_simp
         refine hK _ _ ?_
         clear hK K
         try simp only [PL]
         refine wpAnyIn_take (i := 14) (v := ?v14_44) rfl rfl (by kernel_rfl) (by kernel_rfl) (by kernel_rfl) (fun _ _ _ h => h) ⟨Or.inl ⟨by rfl, ?hy14_44⟩, fun _ => rfl⟩ ?rest14_44
         case hy14_44 => intro w; first | (go_simp; done) | (go_simp; with_reducible rfl)
         try simp only [PL]
         refine wpAnyIn_take (i := 16) (v := ?v16_45) rfl rfl (by kernel_rfl) (by kernel_rfl) (by kernel_rfl) (fun _ _ _ h => h) ⟨Or.inl ⟨by rfl, ?hy16_45⟩, fun _ => rfl⟩ ?rest16_45
         case hy16_45 => intro w; first | (go_simp; done) | (go_simp; with_reducible rfl)
         try simp only [PL]
         refine wpAnyIn_ready (rs := [19]) (by kernel_rfl) (by simp) ?_
         refine AllReadyIn.cons rfl (fun K hK => ?_) ?_
         ·
          go_simp
          refine ⟨trivial, fun _ => by omega, (callsIn_wide.2 (llast_v F S A n c _ f1 (by omega) (by omega))).mono ?_⟩
          rintro e w4 ⟨rfl, hb4⟩
          have hb5 : Blk 99 Bs #[.int .i64 F, .int .i64 S, .slice A n c, .int .i64 E, .int .i64 Y] w4 := (hb4.block Bs hb3.lt).trans hb3
          obtain ⟨k0, k1, k2, k3, k4⟩ := hb5.c5
          have hJ4 := hJ _ _ _ hJ3 hb4
          have hbel4 : Below w.heap.size w w4 := hbel3.trans (hb4.mono hbel3.size)
          gi_wp2_with fail
          refine wpAnyIn_take (i := 20) (v := ?v20_46) rfl rfl (by kernel_rfl) (by kernel_rfl) (by kernel_rfl) (fun _ _ _ h => h) ⟨Or.inl ⟨by rfl, ?hy20_46⟩, fun _ => rfl⟩ ?rest20_46
          case hy20_46 => intro w; first | (go_simp; done) | (go_simp; with_reducible rfl)
          try simp only [PL]
          refine wpAnyIn_take (i := 21) (v := ?v21_47) rfl rfl (by kernel_rfl) (by kernel_rfl) (by kernel_rfl) (fun _ _ _ h => h) ⟨Or.inl ⟨by rfl, ?hy21_47⟩, fun _ => rfl⟩ ?rest21_47
          case hy21_47 => intro w; first | (go_simp; done) | (go_simp; with_reducible rfl)
          try simp only [PL]
          refine wpAnyIn_done (by kernel_rfl) ?_ _
          by_cases hkM : k < M
          ·
           have hcc := hMa k hkM
           have hng : ¬ (F + (n : Int) - 1 < E + Y + (k : Int)) := by omega
           gi_wp2
           go_roundw
           case rel => exact ⟨k + 1, _, by omega, by (try simp only [ok1]) <;> norm_cast, hys.snoc rfl, hJ4, hb5, hbel4⟩
           case measure => simp [intOf] <;> omega
          ·
           obtain rfl : k = M := by omega
           gi_wp2
           refine bodyPost_ret (results_none rfl _ _ _) rfl ?_
           exact ⟨⟨_, rfl⟩, .inl ⟨_, hys.snoc rfl, hJ4⟩⟩
         exact AllReadyIn.nil
        refine AllReadyIn.cons rfl (fun K hK => ?_) ?_
        ·
         go_simp
         refine ⟨trivial, fun _ => by omega, (callsIn_wide.2 (llast_v F S A n c _ f1 (by omega) (by omega))).mono ?_⟩
         rintro e w4 ⟨rfl, hb4⟩
         have hb5 : Blk 99 Bs #[.int .i64 F, .int .i64 S, .slice A n c, .int .i64 E, .int .i64 Y] w4 := (hb4.block Bs hb3.lt).trans hb3
         obtain ⟨k0, k1, k2, k3, k4⟩ := hb5.c5
         have hJ4 := hJ _ _ _ hJ3 hb4
         have hbel4 : Below w.heap.size w w4 := hbel3.trans (hb4.mono hbel3.size)
         gi_wp2_with fail
         refine wpAnyIn_ready (rs := [10]) (by kernel_rfl) (by simp) ?_
         refine AllReadyIn.cons rfl (fun K hK => ?_) ?_
         ·
          go_simp
          refine hK _ _ ?_
          clear hK K
          try simp only [PL]
          refine wpAnyIn_take (i := 14) (v := ?v14_48) rfl rfl (by kernel_rfl) (by kernel_rfl) (by kernel_rfl) (fun _ _ _ h => h) ⟨Or.inl ⟨by rfl, ?hy14_48⟩, fun _ => rfl⟩ ?rest14_48
          case hy14_48 => intro w; first | (go_simp; done) | (go_simp; with_reducible rfl)
          try simp only [PL]
          refine wpAnyIn_take (i := 16) (v := ?v16_49) rfl rfl (by kernel_rfl) (by kernel_rfl) (by kernel_rfl) (fun _ _ _ h => h) ⟨Or.inl ⟨by rfl, ?hy16_49⟩, fun _ => rfl⟩ ?rest16_49
          case hy16_49 => intro w; first | (go_simp; done) | (go_simp; with_reducible rfl)
          try simp only [PL]
          refine wpAnyIn_take (i := 20) (v := ?v20_50) rfl rfl (by kernel_rfl) (by kernel_rfl) (by kernel_rfl) (fun _ _ _ h => h) ⟨Or.inl ⟨by rfl, ?hy20_50⟩, fun _ => rfl⟩ ?rest20_50
          case hy20_50 => intro w; first | (go_simp; done) | (go_simp; with_reducible rfl)
          try simp only [PL]
          refine wpAnyIn_take (i := 21) (v := ?v21_51) rfl rfl (by kernel_rfl) (by kernel_rfl) (by kernel_rfl) (fun _ _ _ h => h) ⟨Or.inl ⟨by rfl, ?hy21_51⟩, fun _ => rfl⟩ ?rest21_51
          case hy21_51 => intro w; first | (go_simp; done) | (go_simp; with_reducible rfl)
          try simp only [PL]
          refine wpAnyIn_done (by kernel_rfl) ?_ _
          by_cases hkM : k < M
          ·
           have hcc := hMa k hkM
           have hng : ¬ (F + (n : Int) - 1 < E + Y + (k : Int)) := by omega
           gi_wp2
           go_roundw
           case rel => exact ⟨k + 1, _, by omega, by (try simp only [ok1]) <;> norm_cast, hys.snoc rfl, hJ4, hb5, hbel4⟩
           case measure => simp [intOf] <;> omega
          ·
           obtain rfl : k = M := by omega
           gi_wp2
           refine bodyPost_ret (results_none rfl _ _ _) rfl ?_
           exact ⟨⟨_, rfl⟩, .inl ⟨_, hys.snoc rfl, hJ4⟩⟩
         exact AllReadyIn.nil
        exact AllReadyIn.nil
       refine AllReadyIn.cons rfl (fun K hK => ?_) ?_
       ·
        go_simp
        refine ⟨trivial, fun _ => by omega, (callsIn_wide.2 (llast_v F S A n c _ f1 (by omega) (by omega))).mono ?_⟩
        rintro e w4 ⟨rfl, hb4⟩
        have hb5 : Blk 99 Bs #[.int .i64 F, .int .i64 S, .slice A n c, .int .i64 E, .int .i64 Y] w4 := (hb4.block Bs hb3.lt).trans hb3
        obtain ⟨k0, k1, k2, k3, k4⟩ := hb5.c5
        have hJ4 := hJ _ _ _ hJ3 hb4
        have hbel4 : Below w.heap.size w w4 := hbel3.trans (hb4.mono hbel3.size)
        gi_wp2_with fail
        refine wpAnyIn_ready (rs := [10, 13]) (by kernel_rfl) (by simp) ?_
        refine AllReadyIn.cons rfl (fun K hK => ?_) ?_
        ·
         go_simp
         refine hK _ _ ?_
         clear hK K
         try simp only [PL]
         refine wpAnyIn_ready (rs := [13]) (by kernel_rfl) (by simp) ?_
         refine AllReadyIn.cons rfl (fun K hK => ?_) ?_
         ·
          go_simp
          refine hK _ _ ?_
          clear hK K
          try simp only [PL]
          refine wpAnyIn_take (i := 14) (v := ?v14_52) rfl rfl (by kernel_rfl) (by kernel_rfl) (by kernel_rfl) (fun _ _ _ h => h) ⟨Or.inl ⟨by rfl, ?hy14_52⟩, fun _ => rfl⟩ ?rest14_52
          case hy14_52 => intro w; first | (go_simp; done) | (go_simp; with_reducible rfl)
          try simp only [PL]
          refine wpAnyIn_take (i := 16) (v := ?v16_53) rfl rfl (by kernel_rfl) (by kernel_rfl) (by kernel_rfl) (fun _ _ _ h => h) ⟨Or.inl ⟨by rfl, ?hy16_53⟩, fun _ => rfl⟩ ?rest16_53
          case hy16_53 => intro w; first | (go_simp; done) | (go_simp; with_reducible rfl)
          try simp only [PL]
          refine wpAnyIn_take (i := 20) (v := ?v20_54) rfl rfl (by kernel_rfl) (by kernel_rfl) (by kernel_rfl) (fun _ _ _ h => h) ⟨Or.inl ⟨by rfl, ?hy20_54⟩, fun _ => rfl⟩ ?rest20_54
          case hy20_54 => intro w; first | (go_simp; done) | (go_simp; with_reducible rfl)
          try simp only [PL]
          refine wpAnyIn_take (i := 21) (v := ?v21_55) rfl rfl (by kernel_rfl) (by kernel_rfl) (by kernel_rfl) (fun _ _ _ h => h) ⟨Or.inl ⟨by rfl, ?hy21_55⟩, fun _ => rfl⟩ ?rest21_55
          case hy21_55 => intro w; first | (go_simp; done) | (go_simp; with_reducible rfl)
          try simp only [PL]
          refine wpAnyIn_done (by kernel_rfl) ?_ _
          by_cases hkM : k < M
          ·
           have hcc := hMa k hkM
           have hng : ¬ (F + (n : Int) - 1 < E + Y + (k : Int)) := by omega
           gi_wp2
           go_roundw
           case rel => exact ⟨k + 1, _, by omega, by (try simp only [ok1]) <;> norm_cast, hys.snoc rfl, hJ4, hb5, hbel4⟩
           case measure => simp [intOf] <;> omega
          ·
           obtain rfl : k = M := by omega
           gi_wp2
           refine bodyPost_ret (results_none rfl _ _ _) rfl ?_
           exact ⟨⟨_, rfl⟩, .inl ⟨_, hys.snoc rfl, hJ4⟩⟩
         exact AllReadyIn.nil
        refine AllReadyIn.cons rfl (fun K hK => ?_) ?_
        ·
         go_simp
         refine hK _ _ ?_
         clear hK K
         try simp only [PL]
         refine wpAnyIn_ready (rs := [10]) (by kernel_rfl) (by simp) ?_
         refine AllReadyIn.cons rfl (fun K hK => ?_) ?_
         ·
          go_simp
          refine hK _ _ ?_
          clear hK K
          try simp only [PL]
          refine wpAnyIn_take (i := 14) (v := ?v14_56) rfl rfl (by kernel_rfl) (by kernel_rfl) (by kernel_rfl) (fun _ _ _ h => h) ⟨Or.inl ⟨by rfl, ?hy14_56⟩, fun _ => rfl⟩ ?rest14_56
          case hy14_56 => intro w; first | (go_simp; done) | (go_simp; with_reducible rfl)
          try simp only [PL]
          refine wpAnyIn_take (i := 16) (v := ?v16_57) rfl rfl (by kernel_rfl) (by kernel_rfl) (by kernel_rfl) (fun _ _ _ h => h) ⟨Or.inl ⟨by rfl, ?hy16_57⟩, fun _ => rfl⟩ ?rest16_57
          case hy16_57 => intro w; first | (go_simp; done) | (go_simp; with_reducible rfl)
          try simp only [PL]
          refine wpAnyIn_take (i := 20) (v := ?v20_58) rfl rfl (by kernel_rfl) (by kernel_rfl) (by kernel_rfl) (fun _ _ _ h => h) ⟨Or.inl ⟨by rfl, ?hy20_58⟩, fun _ => rfl⟩ ?rest20_58
          case hy20_58 => intro w; first | (go_simp; done) | (go_simp; with_reducible rfl)
          try simp only [PL]
          refine wpAnyIn_take (i := 21) (v := ?v21_59) rfl rfl (by kernel_rfl) (by kernel_rfl) (by kernel_rfl) (fun _ _ _ h => h) ⟨Or.inl ⟨by rfl, ?hy21_59⟩, fun _ => rfl⟩ ?rest21_59
          case hy21_59 => intro w; first | (go_simp; done) | (go_simp; with_reducible rfl)
          try simp only [PL]
          refine wpAnyIn_done (by kernel_rfl) ?_ _
          by_cases hkM : k < M
          ·
           have hcc := hMa k hkM
           have hng : ¬ (F + (n : Int) - 1 < E + Y + (k : Int)) := by omega
           gi_wp2
           go_roundw
           case rel => exact ⟨k + 1, _, by omega, by (try simp only [ok1]) <;> norm_cast, hys.snoc rfl, hJ4, hb5, hbel4⟩
           case measure => simp [intOf] <;> omega
          ·
           obtain rfl : k = M := by omega
           gi_wp2
           refine bodyPost_ret (results_none rfl _ _ _) rfl ?_
           exact ⟨⟨_, rfl⟩, .inl ⟨_, hys.snoc rfl, hJ4⟩⟩
         exact AllReadyIn.nil
        exact AllReadyIn.nil
       exact AllReadyIn.nil
      exact AllReadyIn.nil
     ·
      gi_wp2_with fail
      refine wpAnyIn_take (i := 6) (v := ?v6_60) rfl rfl (by kernel_rfl) (by kernel_rfl) (by kernel_rfl) (fun _ _ _ h => h) ⟨Or.inl ⟨by rfl, ?hy6_60⟩, fun _ => rfl⟩ ?rest6_60
      case hy6_60 => intro w; first | (go_simp; done) | (go_simp; with_reducible rfl)
      try simp only [PL]
      refine wpAnyIn_take (i := 7) (v := ?v7_61) rfl rfl (by kernel_rfl) (by kernel_rfl) (by kernel_rfl) (fun _ _ _ h => h) ⟨Or.inl ⟨by rfl, ?hy7_61⟩, fun _ => rfl⟩ ?rest7_61
      case hy7_61 => intro w; first | (go_simp; done) | (go_simp; with_reducible rfl)
      try simp only [PL]
      refine wpAnyIn_take (i := 8) (v := undef) rfl rfl (by kernel_rfl) (by kernel_rfl) (by kernel_rfl) (fun _ _ _ h => h) ⟨Or.inr ⟨by rfl, rfl⟩, fun _ => rfl⟩ ?_
      try simp only [PL]
      refine wpAnyIn_take (i := 9) (v := undef) rfl rfl (by kernel_rfl) (by kernel_rfl) (by kernel_rfl) (fun _ _ _ h => h) ⟨Or.inr ⟨by rfl, rfl⟩, fun _ => rfl⟩ ?_
      try simp only [PL]
      refine wpAnyIn_take (i := 10) (v := undef) rfl rfl (by kernel_rfl) (by kernel_rfl) (by kernel_rfl) (fun _ _ _ h => h) ⟨Or.inr ⟨by rfl, rfl⟩, fun _ => rfl⟩ ?_
      try simp only [PL]
      refine wpAnyIn_take (i := 11) (v := undef) rfl rfl (by kernel_rfl) (by kernel_rfl) (by kernel_rfl) (fun _ _ _ h => h) ⟨Or.inr ⟨by rfl, rfl⟩, fun _ => rfl⟩ ?_
      try simp only [PL]
      refine wpAnyIn_take (i := 12) (v := undef) rfl rfl (by kernel_rfl) (by kernel_rfl) (by kernel_rfl) (fun _ _ _ h => h) ⟨Or.inr ⟨by rfl, rfl⟩, fun _ => rfl⟩ ?_
      try simp only [PL]
      refine wpAnyIn_take (i := 13) (v := undef) rfl rfl (by kernel_rfl) (by kernel_rfl) (by kernel_rfl) (fun _ _ _ h => h) ⟨Or.inr ⟨by rfl, rfl⟩, fun _ => rfl⟩ ?_
      try simp only [PL]
      refine wpAnyIn_take (i := 14) (v := undef) rfl rfl (by kernel_rfl) (by kernel_rfl) (by kernel_rfl) (fun _ _ _ h => h) ⟨Or.inr ⟨by rfl, rfl⟩, fun _ => rfl⟩ ?_
      try simp only [PL]
      refine wpAnyIn_take (i := 15) (v := undef) rfl rfl (by kernel_rfl) (by kernel_rfl) (by kernel_rfl) (fun _ _ _ h => h) ⟨Or.inr ⟨by rfl, rfl⟩, fun _ => rfl⟩ ?_
      try simp only [PL]
      refine wpAnyIn_take (i := 16) (v := undef) rfl rfl (by kernel_rfl) (by kernel_rfl) (by kernel_rfl) (fun _ _ _ h => h) ⟨Or.inr ⟨by rfl, rfl⟩, fun _ => rfl⟩ ?_
      try simp only [PL]
      refine wpAnyIn_take (i := 17) (v := undef) rfl rfl (by kernel_rfl) (by kernel_rfl) (by kernel_rfl) (fun _ _ _ h => h) ⟨Or.inr ⟨by rfl, rfl⟩, fun _ => rfl⟩ ?_
      try simp only [PL]
      refine wpAnyIn_take (i := 18) (v := undef) rfl rfl (by kernel_rfl) (by kernel_rfl) (by kernel_rfl) (fun _ _ _ h => h) ⟨Or.inr ⟨by rfl, rfl⟩, fun _ => rfl⟩ ?_
      try simp only [PL]
      refine wpAnyIn_ready (rs := [19]) (by kernel_rfl) (by simp) ?_
      refine AllReadyIn.cons rfl (fun K hK => ?_) ?_
      ·
       go_simp
       refine ⟨trivial, hK _ _ ?_⟩
       clear hK K
       try simp only [PL]
       refine wpAnyIn_take (i := 20) (v := undef) rfl rfl (by kernel_rfl) (by kernel_rfl) (by kernel_rfl) (fun _ _ _ h => h) ⟨Or.inr ⟨by rfl, rfl⟩, fun _ => rfl⟩ ?_
       try simp only [PL]
       refine wpAnyIn_take (i := 21) (v := ?v21_74) rfl rfl (by kernel_rfl) (by kernel_rfl) (by kernel_rfl) (fun _ _ _ h => h) ⟨Or.inl ⟨by rfl, ?hy21_74⟩, fun _ => rfl⟩ ?rest21_74
       case hy21_74 => intro w; first | (go_simp; done) | (go_simp; with_reducible rfl)
       try simp only [PL]
       refine wpAnyIn_done (by kernel_rfl) ?_ _
       gi_wp2
       refine bodyPost_ret (results_none rfl _ _ _) rfl ?_
       exact ⟨⟨_, rfl⟩, .inr ⟨_, ⟨k + 1, by omega, hys.snoc rfl⟩, hJx3⟩⟩
      exact AllReadyIn.nil
    exact AllReadyIn.nil
   exact AllReadyIn.nil
  exact AllReadyIn.nil

set_option maxHeartbeats 1000000 in
/-- years: the closure over a box of the person. -/
theorem years_in (m : Nat) (F S E Y : Int) (A : Option Addr) (n c : Nat) (w : World) :
  CallsIn Fence.wide m Tryz.prog 69 #[.agg #[.int .i64 F, .int .i64 S, .slice A n c, .int .i64 E, .int .i64 Y]] w fun e w' =>
   e = .returned (.func (.func 111) #[] #[.pointer (some ⟨w.heap.size, 0, none⟩)]) ∧ w' = w.alloc (.cells #[.int .i64 F, .int .i64 S, .slice A n c, .int .i64 E, .int .i64 Y] 99) := by
 have hro : Fence.wide.round = none := rfl
 refine callsIn_of_wp Tryz.func69 rfl trivial ?_ hro
 simp only [Tryz.ntmps69, List.size_toArray, List.length_cons, List.length_nil, Nat.reduceAdd, Nat.reduceSub, Array.replicate_succ, Array.replicate_zero, List.push_toArray, List.append_toArray, List.nil_append, List.cons_append]
 gi_wp2
 go_ret
 exact ⟨rfl, rfl⟩

theorem years_seq (m : Nat) (hm : 2 ≤ m) (Bs n₀ : Nat) {F S E Y : Int} {A : Option Addr} {n c : Nat} {r : Nat → RH} {w : World} (hn₀ : w.heap.size ≤ n₀) (hT : TabM w A n r) (hR : RightP F S n r E Y) (M : Nat) (hM : M ≤ 1000) (hMa : ∀ k : Nat, k < M → E + Y + (k : Int) ≤ F + (n : Int) - 1) (hMb : F + (n : Int) - 1 < E + Y + (M : Int))
  (w0 : World) (hb0 : Below w.heap.size w w0) (hBs : Blk 99 Bs #[.int .i64 F, .int .i64 S, .slice A n c, .int .i64 E, .int .i64 Y] w0) :
  SeqV Fence.wide m Tryz.prog 111 #[.pointer (some ⟨Bs, 0, none⟩)] Yr.vals (KpB n₀ Bs) (Yr.fit (fun k => rt F S n r E Y (k : Int)))
   (fun ys => Yrs ys (M + 1)) (fun pre => ∃ j, j ≤ M + 1 ∧ Yrs pre j) (M + 1) w0 := fun l J Jx W hW hJ _ hY h0 =>
 years1_in m hm l Bs n₀ hn₀ hT hR M hM hMa hMb J Jx (fun _ _ _ hs hb => AbidesFrom_below hJ hs hb) hY W (hBs.below hW hBs.lt) (hb0.trans (hW.mono hb0.size)) h0
def dpr (f : Nat → Rat) : Nat → Nat
 | 0 => 1
 | k + 1 => dpr f k * (f k).den
theorem pr_dv (f : Nat → Rat) : ∀ k, Dv (pr f k) (dpr f k)
 | 0 => ⟨1, by simp [pr, dpr]⟩
 | k + 1 => (pr_dv f k).mul (((Dv.int 1).more (Nat.one_dvd _)).sub (Dv.self (f k)))
theorem dpr_pos (f : Nat → Rat) : ∀ k, 0 < dpr f k
 | 0 => by simp [dpr]
 | k + 1 => Nat.mul_pos (dpr_pos f k) (f k).den_pos
theorem dpr_lt {f : Nat → Rat} {n : Nat} (h : Rts f n) : ∀ k, k ≤ n → dpr f k ≤ b16 ^ k
 | 0, _ => by simp [dpr]
 | k + 1, hk => by
  have h1 := dpr_lt h k (by omega)
  have h2 := Nat.le_of_lt (h k (by omega)).2.2
  rw [Nat.pow_succ]
  exact Nat.mul_le_mul h1 h2
theorem pr_01 {f : Nat → Rat} {n : Nat} (h : Rts f n) : ∀ k, k ≤ n → 0 ≤ pr f k ∧ pr f k ≤ 1
 | 0, _ => by simp only [pr]; exact ⟨by decide, by decide⟩
 | k + 1, hk => by
  obtain ⟨h1, h2⟩ := pr_01 h k (by omega)
  obtain ⟨h3, h4, _⟩ := h k (by omega)
  have a0 : 0 ≤ 1 - f k := by grind
  have a1 : 1 - f k ≤ 1 := by grind
  refine ⟨Rat.mul_nonneg h1 a0, ?_⟩
  have := Rat.mul_nonneg h1 h3
  simp only [pr]
  grind
theorem pr_fl {f : Nat → Rat} {n k : Nat} (h : Rts f n) (hk : k ≤ n) : fl (pr f k) ≤ k + 1 :=
 fl_of (dpr_pos f k) (pr_dv f k) (pr_01 h k hk).1 (pr_01 h k hk).2 (dpr_lt h k hk)
theorem other_fl {f : Nat → Rat} {n k : Nat} (h : Rts f n) (hk : k < n) : fl (1 - f k) ≤ 2 := by
 obtain ⟨h3, h4, h5⟩ := h k hk
 exact fl_of (k := 1) (f k).den_pos (((Dv.int 1).more (Nat.one_dvd _)).sub (Dv.self (f k))) (by grind) (by grind) (by rw [Nat.pow_one]; omega)
/-- The complete years expected: the sum of pr f 1 .. pr f k. -/
def smr (f : Nat → Rat) : Nat → Rat
 | 0 => 0
 | k + 1 => smr f k + pr f (k + 1)
theorem dpr_dvd (f : Nat → Rat) (k : Nat) : dpr f k ∣ dpr f (k + 1) := ⟨(f k).den, rfl⟩
theorem smr_dv (f : Nat → Rat) : ∀ k, Dv (smr f k) (dpr f k)
 | 0 => ⟨0, by simp [smr]⟩
 | k + 1 => ((smr_dv f k).more (dpr_dvd f k)).add (pr_dv f (k + 1))
theorem smr_01 {f : Nat → Rat} {n : Nat} (h : Rts f n) : ∀ k, k ≤ n → 0 ≤ smr f k ∧ smr f k ≤ (k : Rat)
 | 0, _ => by simp [smr]
 | k + 1, hk => by
  obtain ⟨h1, h2⟩ := smr_01 h k (by omega)
  obtain ⟨h3, h4⟩ := pr_01 h (k + 1) hk
  have e : ((k + 1 : Nat) : Rat) = (k : Rat) + 1 := by push_cast; rfl
  simp only [smr]
  rw [e]
  exact ⟨by grind, by grind⟩
theorem pr_stop {f : Nat → Rat} {M : Nat} (h : f M = 1) : ∀ k, M < k → pr f k = 0
 | 0, hk => by omega
 | k + 1, hk => by
  by_cases e : M = k
  ·
   subst e
   simp only [pr]
   rw [h]
   grind
  ·
   simp only [pr]
   rw [pr_stop h k (by omega)]
   grind
/-- Beyond the last year nothing is added. -/
theorem smr_stop {f : Nat → Rat} {j : Nat} (h : ∀ k, j < k → pr f k = 0) : ∀ d, smr f (j + d) = smr f j
 | 0 => rfl
 | d + 1 => by
  rw [← Nat.add_assoc]
  simp only [smr]
  rw [smr_stop h d, h (j + d + 1) (by omega)]
  grind
theorem smr_fl {f : Nat → Rat} {n k : Nat} (h : Rts f n) (hk : k ≤ n) (h9 : k ≤ 1000) : fl (smr f k) ≤ k + 1 := by
 obtain ⟨h1, h2⟩ := smr_01 h k hk
 refine fl_bound (dpr_pos f k) (smr_dv f k) (M := 1001) (by grind) ?_ (by decide) ((ln_le b16_two).2 ?_)
 ·
  have : (k : Rat) ≤ (1001 : Rat) := by exact_mod_cast (show k ≤ 1001 by omega)
  grind
 ·
  rw [Nat.pow_succ]
  have h3 := dpr_lt h k hk
  have hp : 0 < b16 ^ k := Nat.pow_pos (by decide)
  have h4 : b16 ^ k * 1002 ≤ b16 ^ k * b16 := Nat.mul_le_mul_left _ (by decide)
  omega
theorem smr_any {f : Nat → Rat} {M : Nat} (h1 : f M = 1) {K : Nat} (hK : M ≤ K) : smr f K = smr f M := by
 have h := smr_stop (f := f) (j := M) (fun k hk => pr_stop h1 k hk) (K - M)
 rwa [show M + (K - M) = K by omega] at h
set_option linter.unusedSimpArgs false in
set_option maxRecDepth 100000 in
set_option maxHeartbeats 8000000 in
theorem lExpect_v {F S E Y : Int} {A : Option Addr} {n c : Nat} {r : Nat → RH} {w : World} (hT : TabM w A n r) (hB : TabB n r) (hR : RightP F S n r E Y) (K : Nat) (hK : 111 ≤ K) :
  Calls Tryz.prog 32 #[.agg #[.int .i64 F, .int .i64 S, .slice A n c], .agg #[.int .i64 E, .int .i64 Y]] w (FOK (smr (fr F S n r E Y) K) w) := by
 obtain ⟨M, hM, hMa, hMb, hM1⟩ := last_year hR
 have hY200 := fun (Bs n0 : Nat) (h0 : w.heap.size ≤ n0) (W : World) (hb : Below w.heap.size w W) (hBs : Blk 99 Bs #[.int .i64 F, .int .i64 S, .slice A n c, .int .i64 E, .int .i64 Y] W) => years_seq (5 - 1) (by decide) Bs n0 h0 hT hR M (by omega) hMa hMb W hb hBs
 have hRts := rt_rates hT hR 200
 unfold fr
 generalize hf : (fun i : Nat => rt F S n r E Y (i : Int)) = f at *
 have hfM : f M = 1 := by rw [← hf]; exact hM1
 refine (callsIn_wide (n := 5)).1 ?_
 have hro : Fence.wide.round = none := rfl
 refine callsIn_of_wp_marks Tryz.func32 rfl trivial ?_ hro
 simp only [Tryz.ntmps32, List.size_toArray, List.length_cons, List.length_nil, Nat.reduceAdd, Nat.reduceSub, Array.replicate_succ, Array.replicate_zero, List.push_toArray, List.append_toArray, List.nil_append, List.cons_append]
 have hE := ((((Env.start w).tab hT).blk 24 #[.int .i64 F, .int .i64 S, .slice A n c] (g := w.heap.size) rfl).blk 33 #[.int .i64 E, .int .i64 Y] (g := w.heap.size + 1) (by simp)).blk 29 #[.bool false, .slice none 0 0, .bool false, .slice none 0 0] (g := w.heap.size + 1 + 1) (by simp)
 obtain ⟨W0, hW0⟩ : ∃ W0, W0 = (((w.alloc (.cells #[.int .i64 F, .int .i64 S, .slice A n c] 24)).alloc (.cells #[.int .i64 E, .int .i64 Y] 33)).alloc (.cells #[.bool false, .slice none 0 0, .bool false, .slice none 0 0] 29)) := ⟨_, rfl⟩
 rw [← hW0] at hE
 have HW0 := Lib.hid hW0
 clear hW0
 have HhT := Lib.hid hT
 clear hT
 have HhR := Lib.hid hR
 clear hR
 have HhM := Lib.hid hM
 clear hM
 have HhMa := Lib.hid hMa
 clear hMa
 have HhMb := Lib.hid hMb
 clear hMb
 have HhM1 := Lib.hid hM1
 clear hM1
 have Hhf := Lib.hid hf
 clear hf
 have HhfM := Lib.hid hfM
 clear hfM
 have HhRts := Lib.hid hRts
 clear hRts
 have HhK := Lib.hid hK
 clear hK
 have HhY200 := Lib.hid hY200
 clear hY200
 have HhB := Lib.hid hB
 clear hB
 obtain ⟨k1, k2, k3⟩ := (hE.h2).c3
 obtain ⟨k4, k5⟩ := (hE.here.1.2).c2
 rw [HW0.out] at k1 k2 k3 k4 k5
 gi_wp2
 rw [← HW0.out]
 clear k1 k2 k3 k4 k5
 skip
 first | refine ⟨trivial, fun _ => by omega, (callsIn_wide.2 (lright_t (c := c) hE.h3 HhB.out HhR.out)).mono ?_⟩ | refine ⟨trivial, (callsIn_wide.2 (lright_t (c := c) hE.h3 HhB.out HhR.out)).mono ?_⟩ | refine ⟨trivial, trivial, (callsIn_wide.2 (lright_t (c := c) hE.h3 HhB.out HhR.out)).mono ?_⟩ | refine ⟨trivial, trivial, fun _ => by omega, (callsIn_wide.2 (lright_t (c := c) hE.h3 HhB.out HhR.out)).mono ?_⟩
 rintro e w1 ⟨rfl, hb⟩
 replace hE := hE.step hb
 clear hb
 gi_wp2
 skip
 first | refine ⟨trivial, fun _ => by omega, (callsIn_wide.2 (ffromInt_v 0 _ (by decide) (by decide))).mono ?_⟩ | refine ⟨trivial, (callsIn_wide.2 (ffromInt_v 0 _ (by decide) (by decide))).mono ?_⟩ | refine ⟨trivial, trivial, (callsIn_wide.2 (ffromInt_v 0 _ (by decide) (by decide))).mono ?_⟩ | refine ⟨trivial, trivial, fun _ => by omega, (callsIn_wide.2 (ffromInt_v 0 _ (by decide) (by decide))).mono ?_⟩
 rintro e w2 ⟨su, Au, nu, cu, tu, Bu, mu, du, rfl, hs, hb⟩
 replace hE := hE.step hb
 clear hb
 replace hE := hE.fv hs
 clear hs
 gi_wp2
 obtain ⟨g3, hg3⟩ : ∃ g3, g3 = w2.heap.size := ⟨_, rfl⟩
 have hl3_1 : w.heap.size < g3 := by rw [hg3]; exact (hE.h3).lt
 have hl3_2 : w.heap.size + 1 < g3 := by rw [hg3]; exact (hE.h2).lt
 have hl3_3 : w.heap.size + 1 + 1 < g3 := by rw [hg3]; exact (hE.here.1.2).lt
 replace hE := hE.blk 29 #[.bool su, .slice Au nu cu, .bool tu, .slice Bu mu du] (g := g3) hg3.symm
 generalize w2.alloc (.cells #[.bool su, .slice Au nu cu, .bool tu, .slice Bu mu du] 29) = W3 at hE ⊢
 rw [← hg3]
 clear hg3
 skip
 first | refine ⟨trivial, fun _ => by omega, (callsIn_wide.2 (ffromInt_v 1 _ (by decide) (by decide))).mono ?_⟩ | refine ⟨trivial, (callsIn_wide.2 (ffromInt_v 1 _ (by decide) (by decide))).mono ?_⟩ | refine ⟨trivial, trivial, (callsIn_wide.2 (ffromInt_v 1 _ (by decide) (by decide))).mono ?_⟩ | refine ⟨trivial, trivial, fun _ => by omega, (callsIn_wide.2 (ffromInt_v 1 _ (by decide) (by decide))).mono ?_⟩
 rintro e w4 ⟨sp, Ap, np, cp, tp, Bp, mp, dp, rfl, hp, hb⟩
 replace hE := hE.step hb
 clear hb
 replace hE := hE.fv hp
 clear hp
 have hE1 := hE.blk 29 #[.bool sp, .slice Ap np cp, .bool tp, .slice Bp mp dp] (g := w4.heap.size) rfl
 obtain ⟨k1, k2, k3⟩ := (hE1.here.1.1.1.1.1.1.2).c3
 obtain ⟨k4, k5⟩ := (hE1.here.1.1.1.1.1.2).c2
 clear hE1
 have hPl : g3 < w4.heap.size := (hE.here.1.2).lt
 gi_wp2
 refine ⟨trivial, (years_in 4 F S E Y A n c _).mono ?_⟩
 rintro e w9 ⟨rfl, rfl⟩
 gi_wp2
 clear k1 k2 k3 k4 k5
 have hE := (hE.blk 29 #[.bool sp, .slice Ap np cp, .bool tp, .slice Bp mp dp] (g := w4.heap.size) rfl).blk 99 #[.int .i64 F, .int .i64 S, .slice A n c, .int .i64 E, .int .i64 Y] (g := w4.heap.size + 1) (by simp)
 generalize hPp : w4.heap.size = Pp at hE hPl ⊢
 have hsz : ((w4.alloc (.cells #[.bool sp, .slice Ap np cp, .bool tp, .slice Bp mp dp] 29)).alloc (.cells #[.int .i64 F, .int .i64 S, .slice A n c, .int .i64 E, .int .i64 Y] 99)).heap.size = Pp + 2 := by simp [hPp]
 generalize (w4.alloc (.cells #[.bool sp, .slice Ap np cp, .bool tp, .slice Bp mp dp] 29)).alloc (.cells #[.int .i64 F, .int .i64 S, .slice A n c, .int .i64 E, .int .i64 Y] 99) = Wr at hE hsz ⊢
 clear hPp
 have hsw : w.heap.size ≤ Wr.heap.size := by omega
 refine rangeV hro (by decide) (gf := 111) (lb := #[.pointer (some ⟨Pp + 1, 0, none⟩)]) rfl trivial (enters_of Tryz.func111 (by kernel_rfl) rfl)
  (HhY200.out (Pp + 1) w.heap.size (Nat.le_refl _) Wr hE.bel hE.here.2) KpB.t (KpB.b hsw (by omega)) (Below.refl _ _) (fun _ => rfl)
  (fun pre W => BInv w (w.heap.size + 1 + 1) g3 Pp (smr f pre.length) (pr f pre.length) W ∧ Pp + 1 < W.heap.size) (fun _ _ _ => False)
  (fun s W W' row h hg hr => ⟨BInv.grown hsw (w.heap.size + 1 + 1) g3 Pp _ _ W W' row h.1 hg hr, Nat.lt_of_lt_of_le h.2 hg.size⟩) (fun _ _ _ _ _ h _ _ => h)
  ⟨⟨_, _, _, _, _, _, _, _, _, _, _, _, _, _, _, _, (((((Env.again hE.bel).blkI (hE.h5)).fv (hE.h4)).blkI (hE.h3)).fv (hE.h2)).blkI (hE.here.1.2)⟩, by omega⟩
  (AAx f Pp (fun g yv rv => { tmps := #[.agg #[.int .i64 F, .int .i64 S, .slice A n c], .agg #[.int .i64 E, .int .i64 Y], .pointer (some ⟨w.heap.size, 0, none⟩), .pointer (some ⟨w.heap.size + 1, 0, none⟩), .pointer (some ⟨w.heap.size + 1 + 1, 0, none⟩), .int .i64 0, .pointer (some ⟨g3, 0, none⟩), .pointer (some ⟨Pp, 0, none⟩), undef, .pointer (some ⟨g, 0, none⟩), .agg #[.int .i64 F, .int .i64 S, .slice A n c], .agg #[.int .i64 E, .int .i64 Y], .bool true, .bool false, undef, .agg #[.bool su, .slice Au nu cu, .bool tu, .slice Bu mu du], .agg #[.bool sp, .slice Ap np cp, .bool tp, .slice Bp mp dp], .agg #[.int .i64 F, .int .i64 S, .slice A n c], .agg #[.int .i64 E, .int .i64 Y], .agg #[.int .i64 F, .int .i64 S, .slice A n c, .int .i64 E, .int .i64 Y], .func (.func 111) #[] #[.pointer (some ⟨Pp + 1, 0, none⟩)], yv, rv, undef, undef, undef, undef, undef, undef, undef, undef], defers := [] })) (fun pre x a' => fun _ W W' row h hg hr => AAx.grown W W' row h hg hr) ?assign ?body ?done ?stop
 case assign =>
  rintro l pre ⟨xk, xs, xA, xn, xc, xt, xB, xm, xd⟩ W K ⟨hI, hBs⟩ ⟨hxk, hxf⟩ hK
  dsimp only at hxk hxf
  subst hxk
  have hIa := BInv.step hI ((Below.refl W.heap.size W).alloc (Nat.le_refl _) (.cells #[.bool xs, .slice xA xn xc, .bool xt, .slice xB xm xd] 29))
  have hkf := (KeepsOthers.alloc W (.cells #[.bool xs, .slice xA xn xc, .bool xt, .slice xB xm xd] 29)).from Wr.heap.size
  have hwl : w.heap.size ≤ W.heap.size := by obtain ⟨_, _, _, _, _, _, _, _, _, _, _, _, _, _, _, _, h⟩ := hI; exact h.bel.size
  have hkp : KpB w.heap.size (Pp + 1) W (W.alloc (.cells #[.bool xs, .slice xA xn xc, .bool xt, .slice xB xm xd] 29)) := KpB.grown hwl hBs (World.grownBy_alloc W _ none) (fun _ e => by cases e)
  have hfa := hxf.below ((Below.refl W.heap.size W).alloc (Nat.le_refl _) (.cells #[.bool xs, .slice xA xn xc, .bool xt, .slice xB xm xd] 29))
  have hba := Blk.new W 29 #[.bool xs, .slice xA xn xc, .bool xt, .slice xB xm xd]
  have hfin := fun a hax => hK a _ hkf hkp ⟨hIa, by simp; omega⟩ ⟨rfl, W.heap.size, hax, by omega, by simp, hfa, hba⟩
  have HF := Lib.hid hfin
  clear hfin hK hIa hkf hkp hfa hba hI hxf
  dsimp only [Yr.vals]
  gi_wp2
  exact HF.out _ rfl
 case body =>
  rintro l pre ⟨xk, xs, xA, xn, xc, xt, xB, xm, xd⟩ a' W ⟨⟨su2, Au2, nu2, cu2, tu2, Bu2, mu2, du2, sq, Aq, nq, cq, tq, Bq, mq, dq, hE⟩, hBs⟩ ⟨hxk, g, rfl, hg1, hg2, hxf, hxb⟩ hlen
  dsimp only at hxk hxf hxb
  subst hxk
  have hE := ((hE.fv hxf).blkI hxb).trail (Trail.refl (B := Wr.heap.size) (n₀ := w.heap.size) (Bs := Pp + 1) W hBs hE.bel.size)
  clear hxf hxb
  have hmx : Tryz.prog.follows .mixedOrders = true := by kernel_rfl
  have hM := HhM.out
  have lq : fl (pr f pre.length) ≤ 256 := Nat.le_trans (pr_fl HhRts.out (show pre.length ≤ 200 by omega)) (by omega)
  have lx : fl (f pre.length) ≤ 256 := Nat.le_trans (rate_fl HhRts.out (show pre.length < 200 by omega)) (by decide)
  have lo : fl (1 - f pre.length) ≤ 256 := Nat.le_trans (other_fl HhRts.out (show pre.length < 200 by omega)) (by decide)
  have lr : fl (pr f pre.length * (1 - f pre.length)) ≤ 256 := Nat.le_trans (pr_fl (k := pre.length + 1) HhRts.out (show pre.length + 1 ≤ 200 by omega)) (by omega)
  have lu : fl (smr f pre.length) ≤ 256 := Nat.le_trans (smr_fl HhRts.out (show pre.length ≤ 200 by omega) (by omega)) (by omega)
  have lv : fl (smr f pre.length + pr f pre.length * (1 - f pre.length)) ≤ 256 := Nat.le_trans (smr_fl (k := pre.length + 1) HhRts.out (show pre.length + 1 ≤ 200 by omega) (by omega)) (by omega)
  have hlen2 : (pre ++ [Yr.mk pre.length xs xA xn xc xt xB xm xd]).length = pre.length + 1 := by simp
  clear hM
  have Hlq := Lib.hid lq
  clear lq
  have Hlx := Lib.hid lx
  clear lx
  have Hlo := Lib.hid lo
  clear lo
  have Hlr := Lib.hid lr
  clear lr
  have Hlu := Lib.hid lu
  clear lu
  have Hlv := Lib.hid lv
  clear lv
  have Hhlen2 := Lib.hid hlen2
  clear hlen2
  gi_wp2
  refine wpIn_region_any (by assumption) ?_
  replace hE := hE.drew
  change wpAnyIn _ _ _ _ _ _ _ _ _ (W.drew)
  generalize W.drew = wd at hE ⊢
  refine wpAnyIn_ready (rs := [0, 1]) (by kernel_rfl) (by simp) ?_
  refine AllReadyIn.cons rfl (fun K hK => ?_) ?_
  ·
   obtain ⟨k5, k6, k7, k8⟩ := (hE.h3).c4
   obtain ⟨k9, k10, k11, k12⟩ := (hE.here.1.2).c4
   go_simp
   refine hK _ _ ?_
   clear hK K
   try simp only [PL]
   clear k5 k6 k7 k8 k9 k10 k11 k12
   refine wpAnyIn_ready (rs := [1]) (by kernel_rfl) (by simp) ?_
   refine AllReadyIn.cons rfl (fun K hK => ?_) ?_
   ·
    obtain ⟨k13, k14, k15, k16⟩ := (hE.h3).c4
    obtain ⟨k17, k18, k19, k20⟩ := (hE.here.1.2).c4
    go_simp
    refine hK _ _ ?_
    clear hK K
    try simp only [PL]
    clear k13 k14 k15 k16 k17 k18 k19 k20
    refine wpAnyIn_ready (rs := [2]) (by kernel_rfl) (by simp) ?_
    refine AllReadyIn.cons rfl (fun K hK => ?_) ?_
    ·
     go_simp
     skip
     first | refine ⟨trivial, fun _ => by omega, (CallsIn.inRound l (callsIn_wide.2 (lother_v (ca := xc) (da := xd) hE.h2 Hlx.out Hlo.out))).mono ?_⟩ | refine ⟨trivial, (CallsIn.inRound l (callsIn_wide.2 (lother_v (ca := xc) (da := xd) hE.h2 Hlx.out Hlo.out))).mono ?_⟩ | refine ⟨trivial, trivial, (CallsIn.inRound l (callsIn_wide.2 (lother_v (ca := xc) (da := xd) hE.h2 Hlx.out Hlo.out))).mono ?_⟩ | refine ⟨trivial, trivial, fun _ => by omega, (CallsIn.inRound l (callsIn_wide.2 (lother_v (ca := xc) (da := xd) hE.h2 Hlx.out Hlo.out))).mono ?_⟩
     rintro e w21 ⟨so, Ao, no, co, ti, Bo, mo, dob, rfl, ho, hb⟩
     replace hE := hE.step hb
     clear hb
     replace hE := hE.fv ho
     clear ho
     refine hK _ _ ?_
     clear hK K
     try simp only [PL]
     refine wpAnyIn_ready (rs := [3]) (by kernel_rfl) (by simp) ?_
     refine AllReadyIn.cons rfl (fun K hK => ?_) ?_
     ·
      go_simp
      skip
      first | refine ⟨trivial, fun _ => by omega, (CallsIn.inRound l (callsIn_wide.2 (ltimes_v (ca := cq) (da := dq) (cb := co) (db := dob) hE.h5 hE.here.2 Hlq.out Hlo.out Hlr.out))).mono ?_⟩ | refine ⟨trivial, (CallsIn.inRound l (callsIn_wide.2 (ltimes_v (ca := cq) (da := dq) (cb := co) (db := dob) hE.h5 hE.here.2 Hlq.out Hlo.out Hlr.out))).mono ?_⟩ | refine ⟨trivial, trivial, (CallsIn.inRound l (callsIn_wide.2 (ltimes_v (ca := cq) (da := dq) (cb := co) (db := dob) hE.h5 hE.here.2 Hlq.out Hlo.out Hlr.out))).mono ?_⟩ | refine ⟨trivial, trivial, fun _ => by omega, (CallsIn.inRound l (callsIn_wide.2 (ltimes_v (ca := cq) (da := dq) (cb := co) (db := dob) hE.h5 hE.here.2 Hlq.out Hlo.out Hlr.out))).mono ?_⟩
      rintro e w22 ⟨sz, Az, nz, cz, tz, Bz, mz, dz, rfl, hz, hb⟩
      replace hE := hE.step hb
      clear hb
      replace hE := hE.fv hz
      clear hz
      refine hK _ _ ?_
      clear hK K
      try simp only [PL]
      refine wpAnyIn_ready (rs := [4]) (by kernel_rfl) (by simp) ?_
      refine AllReadyIn.cons rfl (fun K hK => ?_) ?_
      ·
       have hgl23 : w.heap.size ≤ Pp := by omega
       obtain ⟨x23_0, x23_1, x23_2, x23_3⟩ := (hE.h5).c4
       obtain ⟨f23_0, f23_1, f23_2, f23_3⟩ := hE.h5.f4
       replace hE := (((((((((((Env.again (bel4 hE.bel hgl23 (.bool sz) (.slice Az nz cz) (.bool tz) (.slice Bz mz dz))).blkI ((hE.h9).far4 (R := Pp) (by omega) (.bool sz) (.slice Az nz cz) (.bool tz) (.slice Bz mz dz))).fv ((hE.h8).sep4 hE.h5 rfl (.bool sz) (.slice Az nz cz) (.bool tz) (.slice Bz mz dz) rfl rfl rfl)).blkI ((hE.h7).far4 (R := Pp) (by omega) (.bool sz) (.slice Az nz cz) (.bool tz) (.slice Bz mz dz))).fv ((hE.h6).sep4 hE.h5 rfl (.bool sz) (.slice Az nz cz) (.bool tz) (.slice Bz mz dz) rfl rfl rfl)).blkI ((hE.h5).s4 (.bool sz) (.slice Az nz cz) (.bool tz) (.slice Bz mz dz))).fv ((hE.h4).sep4 hE.h5 rfl (.bool sz) (.slice Az nz cz) (.bool tz) (.slice Bz mz dz) rfl rfl rfl)).blkI ((hE.h3).far4 (R := Pp) (by omega) (.bool sz) (.slice Az nz cz) (.bool tz) (.slice Bz mz dz))).trail ((hE.h2).set4 ⟨by omega, by omega, by omega⟩ (.bool sz) (.slice Az nz cz) (.bool tz) (.slice Bz mz dz))).fv ((hE.here.1.2).sep4 hE.h5 rfl (.bool sz) (.slice Az nz cz) (.bool tz) (.slice Bz mz dz) rfl rfl rfl)).fv ((hE.here.2).sep4 hE.h5 rfl (.bool sz) (.slice Az nz cz) (.bool tz) (.slice Bz mz dz) rfl rfl rfl))
       go_simp
       clear x23_0 x23_1 x23_2 x23_3 f23_0 f23_1 f23_2 f23_3 hgl23
       generalize ((((w22.setCell ⟨Pp, 0, none⟩ (.bool sz)).setCell ⟨Pp, 1, none⟩ (.slice Az nz cz)).setCell ⟨Pp, 2, none⟩ (.bool tz)).setCell ⟨Pp, 3, none⟩ (.slice Bz mz dz)) = W23 at hE ⊢
       refine hK _ _ ?_
       clear hK K
       try simp only [PL]
       refine wpAnyIn_done (by kernel_rfl) ?_ _
       obtain ⟨j1, j2, j3, j4⟩ := (hE.h7).c4
       obtain ⟨j5, j6, j7, j8⟩ := (hE.h5).c4
       gi_wp2
       skip
       first | refine ⟨trivial, fun _ => by omega, (CallsIn.inRound l (callsIn_wide.2 (lplus_v (ca := cu2) (da := du2) (cb := cz) (db := dz) hE.h8 hE.here.2 Hlu.out Hlr.out Hlv.out))).mono ?_⟩ | refine ⟨trivial, (CallsIn.inRound l (callsIn_wide.2 (lplus_v (ca := cu2) (da := du2) (cb := cz) (db := dz) hE.h8 hE.here.2 Hlu.out Hlr.out Hlv.out))).mono ?_⟩ | refine ⟨trivial, trivial, (CallsIn.inRound l (callsIn_wide.2 (lplus_v (ca := cu2) (da := du2) (cb := cz) (db := dz) hE.h8 hE.here.2 Hlu.out Hlr.out Hlv.out))).mono ?_⟩ | refine ⟨trivial, trivial, fun _ => by omega, (CallsIn.inRound l (callsIn_wide.2 (lplus_v (ca := cu2) (da := du2) (cb := cz) (db := dz) hE.h8 hE.here.2 Hlu.out Hlr.out Hlv.out))).mono ?_⟩
       rintro e w24 ⟨sv, Av, nv, cv, tv, Bv, mv, dv, rfl, hv, hb⟩
       replace hE := hE.step hb
       clear hb
       replace hE := hE.fv hv
       clear hv
       clear j1 j2 j3 j4 j5 j6 j7 j8
       have hgl25 : w.heap.size ≤ g3 := by omega
       obtain ⟨x25_0, x25_1, x25_2, x25_3⟩ := (hE.h8).c4
       obtain ⟨f25_0, f25_1, f25_2, f25_3⟩ := hE.h8.f4
       replace hE := ((((((((((((Env.again (bel4 hE.bel hgl25 (.bool sv) (.slice Av nv cv) (.bool tv) (.slice Bv mv dv))).blkI ((hE.h10).far4 (R := g3) (by omega) (.bool sv) (.slice Av nv cv) (.bool tv) (.slice Bv mv dv))).fv ((hE.h9).sep4 hE.h8 rfl (.bool sv) (.slice Av nv cv) (.bool tv) (.slice Bv mv dv) rfl rfl rfl)).blkI ((hE.h8).s4 (.bool sv) (.slice Av nv cv) (.bool tv) (.slice Bv mv dv))).fv ((hE.h7).sep4 hE.h8 rfl (.bool sv) (.slice Av nv cv) (.bool tv) (.slice Bv mv dv) rfl rfl rfl)).blkI ((hE.h6).far4 (R := g3) (by omega) (.bool sv) (.slice Av nv cv) (.bool tv) (.slice Bv mv dv))).fv ((hE.h5).sep4 hE.h8 rfl (.bool sv) (.slice Av nv cv) (.bool tv) (.slice Bv mv dv) rfl rfl rfl)).blkI ((hE.h4).far4 (R := g3) (by omega) (.bool sv) (.slice Av nv cv) (.bool tv) (.slice Bv mv dv))).trail ((hE.h3).set4 ⟨by omega, by omega, by omega⟩ (.bool sv) (.slice Av nv cv) (.bool tv) (.slice Bv mv dv))).fv ((hE.h2).sep4 hE.h8 rfl (.bool sv) (.slice Av nv cv) (.bool tv) (.slice Bv mv dv) rfl rfl rfl)).fv ((hE.here.1.2).sep4 hE.h8 rfl (.bool sv) (.slice Av nv cv) (.bool tv) (.slice Bv mv dv) rfl rfl rfl)).fv ((hE.here.2).sep4 hE.h8 rfl (.bool sv) (.slice Av nv cv) (.bool tv) (.slice Bv mv dv) rfl rfl rfl))
       gi_wp2
       clear x25_0 x25_1 x25_2 x25_3 f25_0 f25_1 f25_2 f25_3 hgl25
       generalize ((((w24.setCell ⟨g3, 0, none⟩ (.bool sv)).setCell ⟨g3, 1, none⟩ (.slice Av nv cv)).setCell ⟨g3, 2, none⟩ (.bool tv)).setCell ⟨g3, 3, none⟩ (.slice Bv mv dv)) = W25 at hE ⊢
       refine ⟨(hE.h3).keeps, (hE.h3).kp, ?_, (hE.h3).hs⟩
       show BInv _ _ _ _ (smr f (pre ++ [Yr.mk pre.length xs xA xn xc xt xB xm xd]).length) (pr f (pre ++ [Yr.mk pre.length xs xA xn xc xt xB xm xd]).length) _
       rw [Hhlen2.out]
       exact ⟨_, _, _, _, _, _, _, _, _, _, _, _, _, _, _, _, (((((Env.again hE.bel).blkI (hE.h10)).fv (hE.here.2)).blkI (hE.h8)).fv (hE.here.1.2)).blkI (hE.h6)⟩
      exact AllReadyIn.nil
     exact AllReadyIn.nil
    exact AllReadyIn.nil
   exact AllReadyIn.nil
  refine AllReadyIn.cons rfl (fun K hK => ?_) ?_
  ·
   obtain ⟨k26, k27, k28, k29⟩ := (hE.h3).c4
   obtain ⟨k30, k31, k32, k33⟩ := (hE.here.1.2).c4
   go_simp
   refine hK _ _ ?_
   clear hK K
   try simp only [PL]
   clear k26 k27 k28 k29 k30 k31 k32 k33
   refine wpAnyIn_ready (rs := [0, 2]) (by kernel_rfl) (by simp) ?_
   refine AllReadyIn.cons rfl (fun K hK => ?_) ?_
   ·
    obtain ⟨k34, k35, k36, k37⟩ := (hE.h3).c4
    obtain ⟨k38, k39, k40, k41⟩ := (hE.here.1.2).c4
    go_simp
    refine hK _ _ ?_
    clear hK K
    try simp only [PL]
    clear k34 k35 k36 k37 k38 k39 k40 k41
    refine wpAnyIn_ready (rs := [2]) (by kernel_rfl) (by simp) ?_
    refine AllReadyIn.cons rfl (fun K hK => ?_) ?_
    ·
     go_simp
     skip
     first | refine ⟨trivial, fun _ => by omega, (CallsIn.inRound l (callsIn_wide.2 (lother_v (ca := xc) (da := xd) hE.h2 Hlx.out Hlo.out))).mono ?_⟩ | refine ⟨trivial, (CallsIn.inRound l (callsIn_wide.2 (lother_v (ca := xc) (da := xd) hE.h2 Hlx.out Hlo.out))).mono ?_⟩ | refine ⟨trivial, trivial, (CallsIn.inRound l (callsIn_wide.2 (lother_v (ca := xc) (da := xd) hE.h2 Hlx.out Hlo.out))).mono ?_⟩ | refine ⟨trivial, trivial, fun _ => by omega, (CallsIn.inRound l (callsIn_wide.2 (lother_v (ca := xc) (da := xd) hE.h2 Hlx.out Hlo.out))).mono ?_⟩
     rintro e w42 ⟨so, Ao, no, co, ti, Bo, mo, dob, rfl, ho, hb⟩
     replace hE := hE.step hb
     clear hb
     replace hE := hE.fv ho
     clear ho
     refine hK _ _ ?_
     clear hK K
     try simp only [PL]
     refine wpAnyIn_ready (rs := [3]) (by kernel_rfl) (by simp) ?_
     refine AllReadyIn.cons rfl (fun K hK => ?_) ?_
     ·
      go_simp
      skip
      first | refine ⟨trivial, fun _ => by omega, (CallsIn.inRound l (callsIn_wide.2 (ltimes_v (ca := cq) (da := dq) (cb := co) (db := dob) hE.h5 hE.here.2 Hlq.out Hlo.out Hlr.out))).mono ?_⟩ | refine ⟨trivial, (CallsIn.inRound l (callsIn_wide.2 (ltimes_v (ca := cq) (da := dq) (cb := co) (db := dob) hE.h5 hE.here.2 Hlq.out Hlo.out Hlr.out))).mono ?_⟩ | refine ⟨trivial, trivial, (CallsIn.inRound l (callsIn_wide.2 (ltimes_v (ca := cq) (da := dq) (cb := co) (db := dob) hE.h5 hE.here.2 Hlq.out Hlo.out Hlr.out))).mono ?_⟩ | refine ⟨trivial, trivial, fun _ => by omega, (CallsIn.inRound l (callsIn_wide.2 (ltimes_v (ca := cq) (da := dq) (cb := co) (db := dob) hE.h5 hE.here.2 Hlq.out Hlo.out Hlr.out))).mono ?_⟩
      rintro e w43 ⟨sz, Az, nz, cz, tz, Bz, mz, dz, rfl, hz, hb⟩
      replace hE := hE.step hb
      clear hb
      replace hE := hE.fv hz
      clear hz
      refine hK _ _ ?_
      clear hK K
      try simp only [PL]
      refine wpAnyIn_ready (rs := [4]) (by kernel_rfl) (by simp) ?_
      refine AllReadyIn.cons rfl (fun K hK => ?_) ?_
      ·
       have hgl44 : w.heap.size ≤ Pp := by omega
       obtain ⟨x44_0, x44_1, x44_2, x44_3⟩ := (hE.h5).c4
       obtain ⟨f44_0, f44_1, f44_2, f44_3⟩ := hE.h5.f4
       replace hE := (((((((((((Env.again (bel4 hE.bel hgl44 (.bool sz) (.slice Az nz cz) (.bool tz) (.slice Bz mz dz))).blkI ((hE.h9).far4 (R := Pp) (by omega) (.bool sz) (.slice Az nz cz) (.bool tz) (.slice Bz mz dz))).fv ((hE.h8).sep4 hE.h5 rfl (.bool sz) (.slice Az nz cz) (.bool tz) (.slice Bz mz dz) rfl rfl rfl)).blkI ((hE.h7).far4 (R := Pp) (by omega) (.bool sz) (.slice Az nz cz) (.bool tz) (.slice Bz mz dz))).fv ((hE.h6).sep4 hE.h5 rfl (.bool sz) (.slice Az nz cz) (.bool tz) (.slice Bz mz dz) rfl rfl rfl)).blkI ((hE.h5).s4 (.bool sz) (.slice Az nz cz) (.bool tz) (.slice Bz mz dz))).fv ((hE.h4).sep4 hE.h5 rfl (.bool sz) (.slice Az nz cz) (.bool tz) (.slice Bz mz dz) rfl rfl rfl)).blkI ((hE.h3).far4 (R := Pp) (by omega) (.bool sz) (.slice Az nz cz) (.bool tz) (.slice Bz mz dz))).trail ((hE.h2).set4 ⟨by omega, by omega, by omega⟩ (.bool sz) (.slice Az nz cz) (.bool tz) (.slice Bz mz dz))).fv ((hE.here.1.2).sep4 hE.h5 rfl (.bool sz) (.slice Az nz cz) (.bool tz) (.slice Bz mz dz) rfl rfl rfl)).fv ((hE.here.2).sep4 hE.h5 rfl (.bool sz) (.slice Az nz cz) (.bool tz) (.slice Bz mz dz) rfl rfl rfl))
       go_simp
       clear x44_0 x44_1 x44_2 x44_3 f44_0 f44_1 f44_2 f44_3 hgl44
       generalize ((((w43.setCell ⟨Pp, 0, none⟩ (.bool sz)).setCell ⟨Pp, 1, none⟩ (.slice Az nz cz)).setCell ⟨Pp, 2, none⟩ (.bool tz)).setCell ⟨Pp, 3, none⟩ (.slice Bz mz dz)) = W44 at hE ⊢
       refine hK _ _ ?_
       clear hK K
       try simp only [PL]
       refine wpAnyIn_done (by kernel_rfl) ?_ _
       obtain ⟨j1, j2, j3, j4⟩ := (hE.h7).c4
       obtain ⟨j5, j6, j7, j8⟩ := (hE.h5).c4
       gi_wp2
       skip
       first | refine ⟨trivial, fun _ => by omega, (CallsIn.inRound l (callsIn_wide.2 (lplus_v (ca := cu2) (da := du2) (cb := cz) (db := dz) hE.h8 hE.here.2 Hlu.out Hlr.out Hlv.out))).mono ?_⟩ | refine ⟨trivial, (CallsIn.inRound l (callsIn_wide.2 (lplus_v (ca := cu2) (da := du2) (cb := cz) (db := dz) hE.h8 hE.here.2 Hlu.out Hlr.out Hlv.out))).mono ?_⟩ | refine ⟨trivial, trivial, (CallsIn.inRound l (callsIn_wide.2 (lplus_v (ca := cu2) (da := du2) (cb := cz) (db := dz) hE.h8 hE.here.2 Hlu.out Hlr.out Hlv.out))).mono ?_⟩ | refine ⟨trivial, trivial, fun _ => by omega, (CallsIn.inRound l (callsIn_wide.2 (lplus_v (ca := cu2) (da := du2) (cb := cz) (db := dz) hE.h8 hE.here.2 Hlu.out Hlr.out Hlv.out))).mono ?_⟩
       rintro e w45 ⟨sv, Av, nv, cv, tv, Bv, mv, dv, rfl, hv, hb⟩
       replace hE := hE.step hb
       clear hb
       replace hE := hE.fv hv
       clear hv
       clear j1 j2 j3 j4 j5 j6 j7 j8
       have hgl46 : w.heap.size ≤ g3 := by omega
       obtain ⟨x46_0, x46_1, x46_2, x46_3⟩ := (hE.h8).c4
       obtain ⟨f46_0, f46_1, f46_2, f46_3⟩ := hE.h8.f4
       replace hE := ((((((((((((Env.again (bel4 hE.bel hgl46 (.bool sv) (.slice Av nv cv) (.bool tv) (.slice Bv mv dv))).blkI ((hE.h10).far4 (R := g3) (by omega) (.bool sv) (.slice Av nv cv) (.bool tv) (.slice Bv mv dv))).fv ((hE.h9).sep4 hE.h8 rfl (.bool sv) (.slice Av nv cv) (.bool tv) (.slice Bv mv dv) rfl rfl rfl)).blkI ((hE.h8).s4 (.bool sv) (.slice Av nv cv) (.bool tv) (.slice Bv mv dv))).fv ((hE.h7).sep4 hE.h8 rfl (.bool sv) (.slice Av nv cv) (.bool tv) (.slice Bv mv dv) rfl rfl rfl)).blkI ((hE.h6).far4 (R := g3) (by omega) (.bool sv) (.slice Av nv cv) (.bool tv) (.slice Bv mv dv))).fv ((hE.h5).sep4 hE.h8 rfl (.bool sv) (.slice Av nv cv) (.bool tv) (.slice Bv mv dv) rfl rfl rfl)).blkI ((hE.h4).far4 (R := g3) (by omega) (.bool sv) (.slice Av nv cv) (.bool tv) (.slice Bv mv dv))).trail ((hE.h3).set4 ⟨by omega, by omega, by omega⟩ (.bool sv) (.slice Av nv cv) (.bool tv) (.slice Bv mv dv))).fv ((hE.h2).sep4 hE.h8 rfl (.bool sv) (.slice Av nv cv) (.bool tv) (.slice Bv mv dv) rfl rfl rfl)).fv ((hE.here.1.2).sep4 hE.h8 rfl (.bool sv) (.slice Av nv cv) (.bool tv) (.slice Bv mv dv) rfl rfl rfl)).fv ((hE.here.2).sep4 hE.h8 rfl (.bool sv) (.slice Av nv cv) (.bool tv) (.slice Bv mv dv) rfl rfl rfl))
       gi_wp2
       clear x46_0 x46_1 x46_2 x46_3 f46_0 f46_1 f46_2 f46_3 hgl46
       generalize ((((w45.setCell ⟨g3, 0, none⟩ (.bool sv)).setCell ⟨g3, 1, none⟩ (.slice Av nv cv)).setCell ⟨g3, 2, none⟩ (.bool tv)).setCell ⟨g3, 3, none⟩ (.slice Bv mv dv)) = W46 at hE ⊢
       refine ⟨(hE.h3).keeps, (hE.h3).kp, ?_, (hE.h3).hs⟩
       show BInv _ _ _ _ (smr f (pre ++ [Yr.mk pre.length xs xA xn xc xt xB xm xd]).length) (pr f (pre ++ [Yr.mk pre.length xs xA xn xc xt xB xm xd]).length) _
       rw [Hhlen2.out]
       exact ⟨_, _, _, _, _, _, _, _, _, _, _, _, _, _, _, _, (((((Env.again hE.bel).blkI (hE.h10)).fv (hE.here.2)).blkI (hE.h8)).fv (hE.here.1.2)).blkI (hE.h6)⟩
      exact AllReadyIn.nil
     exact AllReadyIn.nil
    exact AllReadyIn.nil
   refine AllReadyIn.cons rfl (fun K hK => ?_) ?_
   ·
    go_simp
    skip
    first | refine ⟨trivial, fun _ => by omega, (CallsIn.inRound l (callsIn_wide.2 (lother_v (ca := xc) (da := xd) hE.h2 Hlx.out Hlo.out))).mono ?_⟩ | refine ⟨trivial, (CallsIn.inRound l (callsIn_wide.2 (lother_v (ca := xc) (da := xd) hE.h2 Hlx.out Hlo.out))).mono ?_⟩ | refine ⟨trivial, trivial, (CallsIn.inRound l (callsIn_wide.2 (lother_v (ca := xc) (da := xd) hE.h2 Hlx.out Hlo.out))).mono ?_⟩ | refine ⟨trivial, trivial, fun _ => by omega, (CallsIn.inRound l (callsIn_wide.2 (lother_v (ca := xc) (da := xd) hE.h2 Hlx.out Hlo.out))).mono ?_⟩
    rintro e w47 ⟨so, Ao, no, co, ti, Bo, mo, dob, rfl, ho, hb⟩
    replace hE := hE.step hb
    clear hb
    replace hE := hE.fv ho
    clear ho
    refine hK _ _ ?_
    clear hK K
    try simp only [PL]
    refine wpAnyIn_ready (rs := [0]) (by kernel_rfl) (by simp) ?_
    refine AllReadyIn.cons rfl (fun K hK => ?_) ?_
    ·
     obtain ⟨k48, k49, k50, k51⟩ := (hE.h4).c4
     obtain ⟨k52, k53, k54, k55⟩ := (hE.h2).c4
     go_simp
     refine hK _ _ ?_
     clear hK K
     try simp only [PL]
     clear k48 k49 k50 k51 k52 k53 k54 k55
     refine wpAnyIn_ready (rs := [3]) (by kernel_rfl) (by simp) ?_
     refine AllReadyIn.cons rfl (fun K hK => ?_) ?_
     ·
      go_simp
      skip
      first | refine ⟨trivial, fun _ => by omega, (CallsIn.inRound l (callsIn_wide.2 (ltimes_v (ca := cq) (da := dq) (cb := co) (db := dob) hE.h5 hE.here.2 Hlq.out Hlo.out Hlr.out))).mono ?_⟩ | refine ⟨trivial, (CallsIn.inRound l (callsIn_wide.2 (ltimes_v (ca := cq) (da := dq) (cb := co) (db := dob) hE.h5 hE.here.2 Hlq.out Hlo.out Hlr.out))).mono ?_⟩ | refine ⟨trivial, trivial, (CallsIn.inRound l (callsIn_wide.2 (ltimes_v (ca := cq) (da := dq) (cb := co) (db := dob) hE.h5 hE.here.2 Hlq.out Hlo.out Hlr.out))).mono ?_⟩ | refine ⟨trivial, trivial, fun _ => by omega, (CallsIn.inRound l (callsIn_wide.2 (ltimes_v (ca := cq) (da := dq) (cb := co) (db := dob) hE.h5 hE.here.2 Hlq.out Hlo.out Hlr.out))).mono ?_⟩
      rintro e w56 ⟨sz, Az, nz, cz, tz, Bz, mz, dz, rfl, hz, hb⟩
      replace hE := hE.step hb
      clear hb
      replace hE := hE.fv hz
      clear hz
      refine hK _ _ ?_
      clear hK K
      try simp only [PL]
      refine wpAnyIn_ready (rs := [4]) (by kernel_rfl) (by simp) ?_
      refine AllReadyIn.cons rfl (fun K hK => ?_) ?_
      ·
       have hgl57 : w.heap.size ≤ Pp := by omega
       obtain ⟨x57_0, x57_1, x57_2, x57_3⟩ := (hE.h5).c4
       obtain ⟨f57_0, f57_1, f57_2, f57_3⟩ := hE.h5.f4
       replace hE := (((((((((((Env.again (bel4 hE.bel hgl57 (.bool sz) (.slice Az nz cz) (.bool tz) (.slice Bz mz dz))).blkI ((hE.h9).far4 (R := Pp) (by omega) (.bool sz) (.slice Az nz cz) (.bool tz) (.slice Bz mz dz))).fv ((hE.h8).sep4 hE.h5 rfl (.bool sz) (.slice Az nz cz) (.bool tz) (.slice Bz mz dz) rfl rfl rfl)).blkI ((hE.h7).far4 (R := Pp) (by omega) (.bool sz) (.slice Az nz cz) (.bool tz) (.slice Bz mz dz))).fv ((hE.h6).sep4 hE.h5 rfl (.bool sz) (.slice Az nz cz) (.bool tz) (.slice Bz mz dz) rfl rfl rfl)).blkI ((hE.h5).s4 (.bool sz) (.slice Az nz cz) (.bool tz) (.slice Bz mz dz))).fv ((hE.h4).sep4 hE.h5 rfl (.bool sz) (.slice Az nz cz) (.bool tz) (.slice Bz mz dz) rfl rfl rfl)).blkI ((hE.h3).far4 (R := Pp) (by omega) (.bool sz) (.slice Az nz cz) (.bool tz) (.slice Bz mz dz))).trail ((hE.h2).set4 ⟨by omega, by omega, by omega⟩ (.bool sz) (.slice Az nz cz) (.bool tz) (.slice Bz mz dz))).fv ((hE.here.1.2).sep4 hE.h5 rfl (.bool sz) (.slice Az nz cz) (.bool tz) (.slice Bz mz dz) rfl rfl rfl)).fv ((hE.here.2).sep4 hE.h5 rfl (.bool sz) (.slice Az nz cz) (.bool tz) (.slice Bz mz dz) rfl rfl rfl))
       go_simp
       clear x57_0 x57_1 x57_2 x57_3 f57_0 f57_1 f57_2 f57_3 hgl57
       generalize ((((w56.setCell ⟨Pp, 0, none⟩ (.bool sz)).setCell ⟨Pp, 1, none⟩ (.slice Az nz cz)).setCell ⟨Pp, 2, none⟩ (.bool tz)).setCell ⟨Pp, 3, none⟩ (.slice Bz mz dz)) = W57 at hE ⊢
       refine hK _ _ ?_
       clear hK K
       try simp only [PL]
       refine wpAnyIn_done (by kernel_rfl) ?_ _
       obtain ⟨j1, j2, j3, j4⟩ := (hE.h7).c4
       obtain ⟨j5, j6, j7, j8⟩ := (hE.h5).c4
       gi_wp2
       skip
       first | refine ⟨trivial, fun _ => by omega, (CallsIn.inRound l (callsIn_wide.2 (lplus_v (ca := cu2) (da := du2) (cb := cz) (db := dz) hE.h8 hE.here.2 Hlu.out Hlr.out Hlv.out))).mono ?_⟩ | refine ⟨trivial, (CallsIn.inRound l (callsIn_wide.2 (lplus_v (ca := cu2) (da := du2) (cb := cz) (db := dz) hE.h8 hE.here.2 Hlu.out Hlr.out Hlv.out))).mono ?_⟩ | refine ⟨trivial, trivial, (CallsIn.inRound l (callsIn_wide.2 (lplus_v (ca := cu2) (da := du2) (cb := cz) (db := dz) hE.h8 hE.here.2 Hlu.out Hlr.out Hlv.out))).mono ?_⟩ | refine ⟨trivial, trivial, fun _ => by omega, (CallsIn.inRound l (callsIn_wide.2 (lplus_v (ca := cu2) (da := du2) (cb := cz) (db := dz) hE.h8 hE.here.2 Hlu.out Hlr.out Hlv.out))).mono ?_⟩
       rintro e w58 ⟨sv, Av, nv, cv, tv, Bv, mv, dv, rfl, hv, hb⟩
       replace hE := hE.step hb
       clear hb
       replace hE := hE.fv hv
       clear hv
       clear j1 j2 j3 j4 j5 j6 j7 j8
       have hgl59 : w.heap.size ≤ g3 := by omega
       obtain ⟨x59_0, x59_1, x59_2, x59_3⟩ := (hE.h8).c4
       obtain ⟨f59_0, f59_1, f59_2, f59_3⟩ := hE.h8.f4
       replace hE := ((((((((((((Env.again (bel4 hE.bel hgl59 (.bool sv) (.slice Av nv cv) (.bool tv) (.slice Bv mv dv))).blkI ((hE.h10).far4 (R := g3) (by omega) (.bool sv) (.slice Av nv cv) (.bool tv) (.slice Bv mv dv))).fv ((hE.h9).sep4 hE.h8 rfl (.bool sv) (.slice Av nv cv) (.bool tv) (.slice Bv mv dv) rfl rfl rfl)).blkI ((hE.h8).s4 (.bool sv) (.slice Av nv cv) (.bool tv) (.slice Bv mv dv))).fv ((hE.h7).sep4 hE.h8 rfl (.bool sv) (.slice Av nv cv) (.bool tv) (.slice Bv mv dv) rfl rfl rfl)).blkI ((hE.h6).far4 (R := g3) (by omega) (.bool sv) (.slice Av nv cv) (.bool tv) (.slice Bv mv dv))).fv ((hE.h5).sep4 hE.h8 rfl (.bool sv) (.slice Av nv cv) (.bool tv) (.slice Bv mv dv) rfl rfl rfl)).blkI ((hE.h4).far4 (R := g3) (by omega) (.bool sv) (.slice Av nv cv) (.bool tv) (.slice Bv mv dv))).trail ((hE.h3).set4 ⟨by omega, by omega, by omega⟩ (.bool sv) (.slice Av nv cv) (.bool tv) (.slice Bv mv dv))).fv ((hE.h2).sep4 hE.h8 rfl (.bool sv) (.slice Av nv cv) (.bool tv) (.slice Bv mv dv) rfl rfl rfl)).fv ((hE.here.1.2).sep4 hE.h8 rfl (.bool sv) (.slice Av nv cv) (.bool tv) (.slice Bv mv dv) rfl rfl rfl)).fv ((hE.here.2).sep4 hE.h8 rfl (.bool sv) (.slice Av nv cv) (.bool tv) (.slice Bv mv dv) rfl rfl rfl))
       gi_wp2
       clear x59_0 x59_1 x59_2 x59_3 f59_0 f59_1 f59_2 f59_3 hgl59
       generalize ((((w58.setCell ⟨g3, 0, none⟩ (.bool sv)).setCell ⟨g3, 1, none⟩ (.slice Av nv cv)).setCell ⟨g3, 2, none⟩ (.bool tv)).setCell ⟨g3, 3, none⟩ (.slice Bv mv dv)) = W59 at hE ⊢
       refine ⟨(hE.h3).keeps, (hE.h3).kp, ?_, (hE.h3).hs⟩
       show BInv _ _ _ _ (smr f (pre ++ [Yr.mk pre.length xs xA xn xc xt xB xm xd]).length) (pr f (pre ++ [Yr.mk pre.length xs xA xn xc xt xB xm xd]).length) _
       rw [Hhlen2.out]
       exact ⟨_, _, _, _, _, _, _, _, _, _, _, _, _, _, _, _, (((((Env.again hE.bel).blkI (hE.h10)).fv (hE.here.2)).blkI (hE.h8)).fv (hE.here.1.2)).blkI (hE.h6)⟩
      exact AllReadyIn.nil
     exact AllReadyIn.nil
    exact AllReadyIn.nil
   exact AllReadyIn.nil
  exact AllReadyIn.nil
 case done =>
  rintro D ys W hD hS ⟨⟨su2, Au2, nu2, cu2, tu2, Bu2, mu2, du2, sq, Aq, nq, cq, tq, Bq, mq, dq, hE⟩, hBs⟩ hK
  have hz : smr f ys.length = smr f K := by
   have := HhM.out; have := HhK.out
   rw [hS.length, smr_any HhfM.out (show M ≤ M + 1 by omega), smr_any HhfM.out (show M ≤ K by omega)]
  rw [hz] at hE
  have hE := hE.def_ hK
  clear hK hz
  obtain ⟨k1, k2, k3, k4⟩ := (hE.h3).c4
  have hgl60 : w.heap.size ≤ w.heap.size + 1 + 1 := by omega
  obtain ⟨x60_0, x60_1, x60_2, x60_3⟩ := (hE.h5).c4
  obtain ⟨f60_0, f60_1, f60_2, f60_3⟩ := hE.h5.f4
  replace hE := (((((((Env.again (bel4 hE.bel hgl60 (.bool su2) (.slice Au2 nu2 cu2) (.bool tu2) (.slice Bu2 mu2 du2))).blkI ((hE.h5).s4 (.bool su2) (.slice Au2 nu2 cu2) (.bool tu2) (.slice Bu2 mu2 du2))).fv ((hE.h4).sep4 hE.h5 rfl (.bool su2) (.slice Au2 nu2 cu2) (.bool tu2) (.slice Bu2 mu2 du2) rfl rfl rfl)).blkI ((hE.h3).far4 (R := w.heap.size + 1 + 1) (by omega) (.bool su2) (.slice Au2 nu2 cu2) (.bool tu2) (.slice Bu2 mu2 du2))).fv ((hE.h2).sep4 hE.h5 rfl (.bool su2) (.slice Au2 nu2 cu2) (.bool tu2) (.slice Bu2 mu2 du2) rfl rfl rfl)).blkI ((hE.here.1.2).far4 (R := w.heap.size + 1 + 1) (by omega) (.bool su2) (.slice Au2 nu2 cu2) (.bool tu2) (.slice Bu2 mu2 du2))).def_ ((heap_set4 (by omega) (.bool su2) (.slice Au2 nu2 cu2) (.bool tu2) (.slice Bu2 mu2 du2)).trans (hE.here.2)))
  gi_wp2
  clear x60_0 x60_1 x60_2 x60_3 f60_0 f60_1 f60_2 f60_3 hgl60
  generalize ((((W.setCell ⟨w.heap.size + 1 + 1, 0, none⟩ (.bool su2)).setCell ⟨w.heap.size + 1 + 1, 1, none⟩ (.slice Au2 nu2 cu2)).setCell ⟨w.heap.size + 1 + 1, 2, none⟩ (.bool tu2)).setCell ⟨w.heap.size + 1 + 1, 3, none⟩ (.slice Bu2 mu2 du2)) = W60 at hE ⊢
  clear k1 k2 k3 k4
  obtain ⟨hB2, hV2, hb2⟩ := leave_frac (hE.h5) (hE.h4) hE.bel (show w.heap.size ≤ D by omega) (show D ≠ w.heap.size + 1 + 1 by omega) (hE.here.2) (.deferred none)
  refine ⟨by simp, .inl ⟨_, _, rfl, run_takeDeferred (hE.here.2), ?_⟩⟩
  obtain ⟨y0, y1, y2, y3⟩ := hB2.c4
  exact ⟨.tuple #[.agg #[.bool su2, .slice Au2 nu2 cu2, .bool tu2, .slice Bu2 mu2 du2], .int .i64 0], by simp [results, Tryz.results32, go_sem, y0, y1, y2, y3], su2, Au2, nu2, cu2, tu2, Bu2, mu2, du2, rfl, hV2, hb2⟩
 case stop =>
  rintro D c pre W _ _ h _
  exact h.elim
theorem ps_mono {g h : Nat → Rat} (a b : Int) : ∀ {k : Nat}, (∀ j, j < k → g j ≤ h j) → ps g a b k ≤ ps h a b k
 | 0, _ => Rat.le_refl
 | k + 1, e => by
  have ih := ps_mono (g := g) (h := h) a b (k := k) fun j hj => e j (by omega)
  have e1 := e k (by omega)
  simp only [ps]
  split
  · grind
  · exact ih
theorem pow_mono {v w : Rat} (h0 : 0 ≤ v) (h1 : v ≤ w) : ∀ k : Nat, 0 ≤ v ^ k ∧ v ^ k ≤ w ^ k
 | 0 => by simp only [Rat.pow_zero]; exact ⟨by decide, Rat.le_refl⟩
 | k + 1 => by
  obtain ⟨a, b⟩ := pow_mono h0 h1 k
  rw [Rat.pow_succ, Rat.pow_succ]
  have e1 := Rat.mul_nonneg a h0
  have e2 := Rat.mul_nonneg (show 0 ≤ w ^ k - v ^ k by grind) (show 0 ≤ w by grind)
  have e3 := Rat.mul_nonneg a (show 0 ≤ w - v by grind)
  exact ⟨e1, by grind⟩
theorem dd_mono {v w : Rat} {f : Nat → Rat} {n : Nat} (h0 : 0 ≤ v) (h1 : v ≤ w) (hf : Rts f n) {k : Nat} (hk : k ≤ n) : dd v f k ≤ dd w f k := by
 rw [dd_pr, dd_pr]
 have e1 := (pow_mono h0 h1 k).2
 have e2 := Rat.mul_nonneg (show 0 ≤ w ^ k - v ^ k by grind) (pr_01 hf k hk).1
 grind
theorem cc_mono {v w : Rat} {f : Nat → Rat} {n : Nat} (h0 : 0 ≤ v) (h1 : v ≤ w) (hf : Rts f n) {k : Nat} (hk : k < n) : cc v f k ≤ cc w f k := by
 unfold cc
 rw [dd_pr, dd_pr]
 have e1 := (pow_mono h0 h1 (k + 1)).2
 rw [Rat.pow_succ, Rat.pow_succ] at e1
 have e3 := Rat.mul_nonneg (pr_01 hf k (by omega)).1 (hf k hk).1
 have e2 := Rat.mul_nonneg (show 0 ≤ w ^ k * w - v ^ k * v by grind) e3
 grind
theorem one_pow (k : Nat) : (1 : Rat) ^ k = 1 := by
 induction k with
 | zero => rw [Rat.pow_zero]
 | succ k ih => rw [Rat.pow_succ, ih]; grind
/-- Without interest an annuity for life is one more than the expected years. -/
theorem dd_expect (f : Nat → Rat) {N : Nat} (h : Cnt 1 f N) {K : Nat} (hK : N ≤ K + 1) (hs : ∀ k, N ≤ k → pr f k = 0) : ps (dd 1 f) 0 1000 N = 1 + smr f K ∨ 1000 < N := by
 by_cases hN : 1000 < N
 · exact .inr hN
 ·
  refine .inl ?_
  have hd : ∀ k, dd 1 f k = pr f k := fun k => by rw [dd_pr, one_pow]; grind
  have h1 : ∀ k : Nat, (k : Int) ≤ 999 → ps (dd 1 f) 0 1000 (k + 1) = 1 + smr f k := fun k => by
   induction k with
   | zero =>
    intro _
    simp only [ps, smr, dd]
    rw [if_pos ⟨by decide, by decide⟩]
    grind
   | succ k ih =>
    intro hk
    rw [ps, if_pos (show (0 : Int) ≤ ((k + 1 : Nat) : Int) ∧ ((k + 1 : Nat) : Int) < 1000 by omega), ih (by omega), hd]
    simp only [smr]
    grind
  obtain ⟨m, rfl⟩ : ∃ m, N = m + 1 := ⟨N - 1, by have := h.pos; omega⟩
  rw [h1 m (by omega)]
  obtain ⟨d, rfl⟩ : ∃ d, K = m + d := ⟨K - m, by omega⟩
  rw [smr_stop (f := f) (j := m) (fun k hk => hs k (by omega)) d]
/-- Without interest an assurance for life is 1. -/
theorem cc_one (f : Nat → Rat) {N : Nat} (h : Cnt 1 f N) (hN : N ≤ 1000) : ps (cc 1 f) 0 1000 N = 1 := by
 have h1 : ∀ k, k ≤ 1000 → ps (cc 1 f) 0 1000 k = 1 - dd 1 f k := fun k => by
  induction k with
  | zero => intro _; simp only [ps, dd]; grind
  | succ k ih =>
   intro hk
   rw [ps, if_pos (show (0 : Int) ≤ (k : Int) ∧ (k : Int) < 1000 by omega), ih (by omega)]
   simp only [dd, cc]
   grind
 rw [h1 N hN, h.1]
 grind
end Go.Proofs.YtmjlankpihnicaaGreat
