/-
  The walk of WholeGcds.
-/
import Derived.Test.YtafglggjncnkkaaDoorDivd
import Derived.Deep.RegionHeld3
import Derived.Deep.CutRange
namespace Go.Proofs.YtafglggjncnkkaaDoor
open Go.RowKit

theorem same_r {a b : Int} {r : Bool} {s t : Bool} {A B : Option Addr} {n m c d : Nat} {w : World} (ha : WV w a s A n) (hb : WV w b t B m) (la : n ≤ 1024) (lb : m ≤ 1024) (h : decide (a = b) = r) :
    Calls Tryd.prog 37 #[.agg #[.bool s, .slice A n c], .agg #[.bool t, .slice B m d]] w fun e w' => e = .returned (.bool r) ∧ Below w.heap.size w w' := by
  subst h
  exact same_v ha hb (by omega) (by omega)
/-- A new variable that is given a number. -/
theorem Env.var {w W : World} {P : World → Prop} {z : Int} {s : Bool} {A : Option Addr} {n : Nat} (h : Env w P W) (hv : WV W z s A n) (c : Nat) :
    Env w (fun V => P V ∧ Bx W.heap.size z s A n c V) (((W.alloc (.cells #[.bool false, .slice none 0 0] 24)).setCell ⟨W.heap.size, 0, none⟩ (.bool s)).setCell ⟨W.heap.size, 1, none⟩ (.slice A n c)) := by
  obtain ⟨hW, hb⟩ := store_whole (WholeAt.new W false (.slice none 0 0)) ((Below.refl _ W).alloc (Nat.le_refl _) _) (Nat.le_refl _) s (.slice A n c)
  exact (h.step hb).and (Bx.stable _ _ _ _ _ _) ⟨hW, hv.below hb⟩
theorem WV.abs {w : World} {z : Int} {s : Bool} {A : Option Addr} {n : Nat} (h : WV w z s A n) : WV w ((z.natAbs : Nat) : Int) false A n :=
  ⟨(decide_eq_false (by omega)).symm, h.2.1, h.2.2⟩
theorem gcd_one {a b c : Int} : ((Nat.gcd (b + a * c).natAbs a.natAbs : Nat) : Int) = ((Nat.gcd a.natAbs b.natAbs : Nat) : Int) := by
  have h := Int.gcd_add_mul_left_left a b c
  have h2 : Int.gcd b a = Nat.gcd a.natAbs b.natAbs := by rw [Int.gcd_comm]; rfl
  rw [← h2, ← h]; rfl
theorem gcd_two {a b c : Int} : ((Nat.gcd (a * c).natAbs (b * c).natAbs : Nat) : Int) = ((Nat.gcd a.natAbs b.natAbs : Nat) : Int) * ((c.natAbs : Nat) : Int) := by
  rw [Int.natAbs_mul, Int.natAbs_mul, Nat.gcd_mul_right, Int.natCast_mul]
theorem Env.tri {g : Nat} {a b c : Int} {s1 s2 s3 : Bool} {A1 A2 A3 : Option Addr} {n1 n2 n3 c1 c2 c3 : Nat} {w W : World} {P : World → Prop} (h : Env w P W) (ht : Tri g a b c s1 s2 s3 A1 A2 A3 n1 n2 n3 c1 c2 c3 W) : W.cell? ⟨g, 0, none⟩ = some (.bool s1) ∧ W.cell? ⟨g, 1, none⟩ = some (.slice A1 n1 c1) ∧ W.cell? ⟨g + 1, 0, none⟩ = some (.bool s2) ∧ W.cell? ⟨g + 1, 1, none⟩ = some (.slice A2 n2 c2) ∧
    W.cell? ⟨g + 1 + 1, 0, none⟩ = some (.bool s3) ∧ W.cell? ⟨g + 1 + 1, 1, none⟩ = some (.slice A3 n3 c3) ∧ Env w P W :=
  ⟨ht.1.1.cells.1, ht.1.1.cells.2, ht.2.1.1.cells.1, ht.2.1.1.cells.2, ht.2.2.1.cells.1, ht.2.2.1.cells.2, h⟩
/-- A variable made ahead of the calls that give its value. -/
structure New (W0 W : World) (G : Nat) : Prop where
  box : WholeAt W G false (.slice none 0 0)
  bel : Below G W0 W
  eq : W0.heap.size = G
theorem New.start (W : World) : New W (W.alloc (.cells #[.bool false, .slice none 0 0] 24)) W.heap.size := ⟨WholeAt.new W _ _, (Below.refl _ W).alloc (Nat.le_refl _) _, rfl⟩
theorem New.below {W0 W W' : World} {G : Nat} (h : New W0 W G) (hb : Below W.heap.size W W') : New W0 W' G := ⟨h.box.below hb h.box.lt, h.bel.trans (hb.mono (Nat.le_of_lt h.box.lt)), h.eq⟩
theorem New.stored {w W0 W : World} {P : World → Prop} {G : Nat} (h0 : Env w P W0) (h : New W0 W G) (s : Bool) (v : Value) : Env w P ((W.setCell ⟨G, 0, none⟩ (.bool s)).setCell ⟨G, 1, none⟩ v) :=
  h0.step (by rw [h.eq]; exact (store_whole h.box h.bel (Nat.le_refl _) s v).2)
theorem New.done {w W0 W : World} {P : World → Prop} {G B : Nat} {z : Int} {s : Bool} {A : Option Addr} {n c : Nat} (h0 : Env w P W0) (h : New W0 W G) (ho : WO B W z s A n c) (hB : G < B) :
    Env w (fun V => P V ∧ Bx G z s A n c V) ((W.setCell ⟨G, 0, none⟩ (.bool s)).setCell ⟨G, 1, none⟩ (.slice A n c)) :=
  (New.stored h0 h s _).and (Bx.stable _ _ _ _ _ _) ⟨(store_whole h.box h.bel (Nat.le_refl _) s _).1, (ho.store hB s _).v⟩
theorem Env.fresh {w W : World} {P : World → Prop} {z : Int} {s : Bool} {A : Option Addr} {n : Nat} (h : Env w P W) (hv : WV W z s A n) (c : Nat) :
    Env w (fun V => P V ∧ Bx W.heap.size z s A n c V) (W.alloc (.cells #[.bool s, .slice A n c] 24)) :=
  (h.alloc _).and (Bx.stable _ _ _ _ _ _) (Bx.new hv)
theorem belAlloc (W : World) (o : Obj) : Below W.heap.size W (W.alloc o) := (Below.refl _ W).alloc (Nat.le_refl _) o
theorem newStart {w W : World} {P : World → Prop} (_ : Env w P W) : New W (W.alloc (.cells #[.bool false, .slice none 0 0] 24)) W.heap.size := New.start W
theorem cel {g : Nat} {a b c : Int} {s1 s2 s3 : Bool} {A1 A2 A3 : Option Addr} {n1 n2 n3 c1 c2 c3 : Nat} {w W : World} {P : World → Prop} (_ : Env w P W) (ht : Tri g a b c s1 s2 s3 A1 A2 A3 n1 n2 n3 c1 c2 c3 W) : W.cell? ⟨g, 0, none⟩ = some (.bool s1) ∧ W.cell? ⟨g, 1, none⟩ = some (.slice A1 n1 c1) ∧ W.cell? ⟨g + 1, 0, none⟩ = some (.bool s2) ∧ W.cell? ⟨g + 1, 1, none⟩ = some (.slice A2 n2 c2) ∧
    W.cell? ⟨g + 1 + 1, 0, none⟩ = some (.bool s3) ∧ W.cell? ⟨g + 1 + 1, 1, none⟩ = some (.slice A3 n3 c3) :=
  ⟨ht.1.1.cells.1, ht.1.1.cells.2, ht.2.1.1.cells.1, ht.2.1.1.cells.2, ht.2.2.1.cells.1, ht.2.2.1.cells.2⟩
theorem gcd_three {a b g : Int} (hg : g = ((Nat.gcd a.natAbs b.natAbs : Nat) : Int)) (h0 : g ≠ 0) :
    ∃ qa qb : Int, a = qa * g ∧ b = qb * g ∧ Nat.gcd qa.natAbs qb.natAbs = 1 ∧ qa.natAbs ≤ a.natAbs ∧ qb.natAbs ≤ b.natAbs := by
  obtain ⟨d, hd⟩ : ∃ d, d = Nat.gcd a.natAbs b.natAbs := ⟨_, rfl⟩
  rw [← hd] at hg
  have hdp : 0 < d := by omega
  have h1 : (d : Int) ∣ a := Int.natAbs_dvd_natAbs.1 (by rw [Int.natAbs_natCast, hd]; exact Nat.gcd_dvd_left _ _)
  have h2 : (d : Int) ∣ b := Int.natAbs_dvd_natAbs.1 (by rw [Int.natAbs_natCast, hd]; exact Nat.gcd_dvd_right _ _)
  obtain ⟨qa, rfl⟩ := h1
  obtain ⟨qb, rfl⟩ := h2
  rw [Int.natAbs_mul, Int.natAbs_mul, Int.natAbs_natCast, Nat.gcd_mul_left] at hd
  have h3 : Nat.gcd qa.natAbs qb.natAbs = 1 := by
    have h4 : d * 1 = d * Nat.gcd qa.natAbs qb.natAbs := by rw [Nat.mul_one]; exact hd
    exact (Nat.eq_of_mul_eq_mul_left hdp h4).symm
  refine ⟨qa, qb, by rw [hg, Int.mul_comm], by rw [hg, Int.mul_comm], h3, ?_, ?_⟩
  · rw [Int.natAbs_mul, Int.natAbs_natCast]; exact Nat.le_mul_of_pos_left _ hdp
  · rw [Int.natAbs_mul, Int.natAbs_natCast]; exact Nat.le_mul_of_pos_left _ hdp
set_option maxRecDepth 100000 in
set_option maxHeartbeats 16000000 in
theorem gcds_walk (s1 s2 s3 : Bool) (A1 A2 A3 : Option Addr) (n1 n2 n3 c1 c2 c3 : Nat) (f1 f2 f3 : Nat → Nat) (w : World) (htab : Tab w)
    (r1 : Rd w.heap.size .u16 w A1 n1 f1) (r2 : Rd w.heap.size .u16 w A2 n2 f2) (r3 : Rd w.heap.size .u16 w A3 n3 f3) (q1 : ∀ j, j < n1 → f1 j < 65536) (q2 : ∀ j, j < n2 → f2 j < 65536) (q3 : ∀ j, j < n3 → f3 j < 65536) :
    Calls Tryd.prog 3 #[.agg #[.bool s1, .slice A1 n1 c1], .agg #[.bool s2, .slice A2 n2 c2], .agg #[.bool s3, .slice A3 n3 c3]] w fun e w' => e = .returned (.bool true) ∧ Below w.heap.size w w' := by
  have hT := Env.three w s1 s2 s3 A1 A2 A3 n1 n2 n3 c1 c2 c3
  have hU := Lib.hid fun (W : World) (hW : Below w.heap.size w W) => usable_three 40 s1 s2 s3 A1 A2 A3 n1 n2 n3 c1 c2 c3 f1 f2 f3 W ((r1.below hW).more hW.size) ((r2.below hW).more hW.size) ((r3.below hW).more hW.size) q1 q2 q3 (by decide)
  go_enter Tryd.func3, Tryd.ntmps3
  go_wp2_with fail
  refine (awake_any _ (htab.below hT.bel)).mono ?_
  rintro e w1 ⟨rfl, hb1⟩
  have hT1 := hT.step hb1
  obtain ⟨k1, k2, k3, k4, k5, k6⟩ := Three.cells hT1.here
  go_wp2_with fail
  refine (hU.out _ hT1.bel).mono ?_
  rintro e w2 ⟨rfl, hb2⟩
  have hT2 := (hT1.alloc _).step hb2
  clear k1 k2 k3 k4 k5 k6 hT hT1 hb1 hb2
  cases hq : (useOK 40 s1 n1 f1 && useOK 40 s2 n2 f2) && useOK 40 s3 n3 f3
  · go_wp2_with fail
    go_ret
    exact ⟨rfl, hT2.bel⟩
  · obtain ⟨⟨u1, u2⟩, u3⟩ : (useOK 40 s1 n1 f1 = true ∧ useOK 40 s2 n2 f2 = true) ∧ useOK 40 s3 n3 f3 = true := by simpa using hq
    obtain ⟨a, ha, la⟩ := WV.of_use r1 q1 u1
    obtain ⟨b, hb, lb⟩ := WV.of_use r2 q2 u2
    obtain ⟨c, hc, lc⟩ := WV.of_use r3 q3 u3
    have hB := Three.tri hT2 ha hb hc
    clear hq u1 u2 u3 hT2 ha hb hc r1 r2 r3 q1 q2 q3 hU htab
    obtain ⟨k1, k2, k3, k4, k5, k6, -⟩ := Tri.cells hB
    go_wp2_with fail
    refine (gcd_v hB.here.1.2 hB.here.2.1.2 (le_len hB.here.1.2 (Nat.le_trans la (by decide))) (le_len hB.here.2.1.2 (Nat.le_trans lb (by decide)))).mono ?_
    clear k1 k2 k3 k4 k5 k6
    rintro e w3 ⟨sg, Ag, ng, cg, rfl, ho, hb3⟩
    replace hB := hB.step hb3
    have hg := ho.v
    obtain ⟨g, hgg⟩ : ∃ g : Int, g = ((Nat.gcd a.natAbs b.natAbs : Nat) : Int) := ⟨_, rfl⟩
    rw [← hgg] at hg
    have hlen : n1 = ln b16 a.natAbs ∧ n2 = ln b16 b.natAbs := ⟨hB.here.1.2.len, hB.here.2.1.2.len⟩
    have lg : ln b16 g.natAbs ≤ 40 := by rw [hgg, Int.natAbs_natCast]; exact ln_gcd _ _ _ (hlen.1 ▸ la) (hlen.2 ▸ lb)
    have HG := Lib.hid hgg
    clear hb3 ho hgg hlen

    obtain rfl : sg = false := by rw [hg.sgn]; exact decide_eq_false (by rw [HG.out]; omega)
    go_upto_region 6 with (fail)
    replace hB := hB.fresh hg cg
    clear hg
    obtain ⟨z4, hz4⟩ : ∃ z4, z4 = w3.heap.size := ⟨_, rfl⟩
    generalize w3.alloc (.cells #[.bool false, .slice Ag ng cg] 24) = W4 at hB ⊢
    rw [← hz4] at *
    clear hz4
    have k1 := hB.here.2.1.cells.1
    have k2 := hB.here.2.1.cells.2
    go_wp2_with fail
    refine (valid_v hB.here.2.2 (le_len hB.here.2.2 (Nat.le_trans lg (by decide)))).mono ?_
    clear k1 k2
    rintro e w4 ⟨rfl, hb4⟩
    replace hB := hB.step hb4
    clear hb4
    go_upto_region 8 with (fail)
    go_cut [9, 10] from 40 to 49 (fun p q wx => ∃ G ss AA nn cc, p = .pointer (some ⟨G, 0, none⟩) ∧ q = .int .i64 0 ∧ Env w (fun V => (Tri w.heap.size a b c s1 s2 s3 A1 A2 A3 n1 n2 n3 c1 c2 c3 V ∧ Bx z4 g false Ag ng cg V) ∧ Bx G ((Nat.gcd (b + a * c).natAbs a.natAbs : Nat) : Int) ss AA nn cc V) wx)
    case first =>
      have hD := hB.drew
      have hE := hD
      have tok0 : True := trivial
      go_region_held3 (fun w' => w'.cell? ⟨w.heap.size, 0, none⟩ = some (.bool s1) ∧ w'.cell? ⟨w.heap.size, 1, none⟩ = some (.slice A1 n1 c1) ∧ w'.cell? ⟨w.heap.size + 1, 0, none⟩ = some (.bool s2) ∧ w'.cell? ⟨w.heap.size + 1, 1, none⟩ = some (.slice A2 n2 c2) ∧ w'.cell? ⟨w.heap.size + 1 + 1, 0, none⟩ = some (.bool s3) ∧ w'.cell? ⟨w.heap.size + 1 + 1, 1, none⟩ = some (.slice A3 n3 c3))
        (first | exact cel hE hE.here.1 | exact cel (hE.alloc _) (hE.alloc _).here.1 | exact cel (New.stored h0 hN _ _) (New.stored h0 hN _ _).here.1)
        (first
          | (have _t := tok0; go_at_call 17; (first | refine (law_product (c := c1) (d := c3) hE.here.1.1.2 hE.here.1.2.2.2 (le_len hE.here.1.1.2 (Nat.le_trans la (by decide))) (le_len hE.here.1.2.2.2 (Nat.le_trans lc (by decide))) (Nat.le_trans (ln_mulZ la lc) (by decide))).mono ?_ | (have h0 := hE; have hN := newStart hE; replace hE := hE.alloc (.cells #[.bool false, .slice none 0 0] 24); refine (law_product (c := c1) (d := c3) hE.here.1.1.2 hE.here.1.2.2.2 (le_len hE.here.1.1.2 (Nat.le_trans la (by decide))) (le_len hE.here.1.2.2.2 (Nat.le_trans lc (by decide))) (Nat.le_trans (ln_mulZ la lc) (by decide))).mono ?_)); rintro e w100 ⟨sv0, Av0, nv0, cv0, rfl, ho0, hb0⟩; (try (have hlt := hN.box.lt; replace hN := hN.below hb0)); replace hE := hE.step hb0; have hv0 := ho0.v; clear tok0 ho0 hb0; have tok1 : True := trivial)
          | (have _t := tok1; go_at_call 16; (first | refine (law_sum (c := c2) (d := cv0) hE.here.1.2.1.2 hv0 (le_len hE.here.1.2.1.2 (Nat.le_trans lb (by decide))) (le_len hv0 (Nat.le_trans (ln_mulZ la lc) (by decide))) (Nat.le_trans (ln_addZ (m := 80) (Nat.le_trans lb (by decide)) (Nat.le_trans (ln_mulZ la lc) (by decide))) (by decide))).mono ?_ | (have h0 := hE; have hN := newStart hE; replace hE := hE.alloc (.cells #[.bool false, .slice none 0 0] 24); replace hv0 := hv0.below (belAlloc _ (.cells #[.bool false, .slice none 0 0] 24)); refine (law_sum (c := c2) (d := cv0) hE.here.1.2.1.2 hv0 (le_len hE.here.1.2.1.2 (Nat.le_trans lb (by decide))) (le_len hv0 (Nat.le_trans (ln_mulZ la lc) (by decide))) (Nat.le_trans (ln_addZ (m := 80) (Nat.le_trans lb (by decide)) (Nat.le_trans (ln_mulZ la lc) (by decide))) (by decide))).mono ?_)); rintro e w101 ⟨sv1, Av1, nv1, cv1, rfl, ho1, hb1⟩; (try (have hlt := hN.box.lt; replace hN := hN.below hb1)); replace hE := hE.step hb1; have hv1 := ho1.v; clear tok1 hv0 ho1 hb1; have tok2 : True := trivial)
          | (have _t := tok2; go_at_call 14; (first | refine (gcd_v (c := cv1) (d := c1) hv1 hE.here.1.1.2 (le_len hv1 (Nat.le_trans (ln_addZ (m := 80) (Nat.le_trans lb (by decide)) (Nat.le_trans (ln_mulZ la lc) (by decide))) (by decide))) (le_len hE.here.1.1.2 (Nat.le_trans la (by decide)))).mono ?_ | (have h0 := hE; have hN := newStart hE; replace hE := hE.alloc (.cells #[.bool false, .slice none 0 0] 24); replace hv1 := hv1.below (belAlloc _ (.cells #[.bool false, .slice none 0 0] 24)); refine (gcd_v (c := cv1) (d := c1) hv1 hE.here.1.1.2 (le_len hv1 (Nat.le_trans (ln_addZ (m := 80) (Nat.le_trans lb (by decide)) (Nat.le_trans (ln_mulZ la lc) (by decide))) (by decide))) (le_len hE.here.1.1.2 (Nat.le_trans la (by decide)))).mono ?_)); rintro e w102 ⟨sv2, Av2, nv2, cv2, rfl, ho2, hb2⟩; (try (have hlt := hN.box.lt; replace hN := hN.below hb2)); (try (have f0 := hN.box.frozen 0; have f1 := hN.box.frozen 1; obtain ⟨r0, r1⟩ := hN.box.cells; try simp only [World.size_drew] at f0 f1 r0 r1)); replace hE := hE.step hb2; clear tok2 hv1; have tok3 : True := trivial))
      all_goals go_wp2_with fail
      all_goals go_meet
      all_goals first
        | exact ⟨_, _, _, _, _, rfl, rfl, New.done h0 hN ho2 hlt⟩
        | exact ⟨_, _, _, _, _, rfl, rfl, hE.fresh ho2.v _⟩
    case rest =>
    clear hB
    obtain ⟨G8, s8, A8, n8, cc8, rfl, rfl, hB⟩ := hcut
    rw [show ((Nat.gcd (b + a * c).natAbs a.natAbs : Nat) : Int) = g by rw [HG.out]; exact gcd_one] at hB
    go_upto_region 9 with (fail)
    go_cut [11, 12] from 50 to 59 (fun p q wx => ∃ G ss AA nn cc, p = .pointer (some ⟨G, 0, none⟩) ∧ q = .int .i64 0 ∧ Env w (fun V => ((Tri w.heap.size a b c s1 s2 s3 A1 A2 A3 n1 n2 n3 c1 c2 c3 V ∧ Bx z4 g false Ag ng cg V) ∧ Bx G8 g s8 A8 n8 cc8 V) ∧ Bx G ((Nat.gcd (a * c).natAbs (b * c).natAbs : Nat) : Int) ss AA nn cc V) wx)
    case first =>
      have hD := hB.drew
      have hE := hD
      have tok0 : True := trivial
      go_region_held3 (fun w' => w'.cell? ⟨w.heap.size, 0, none⟩ = some (.bool s1) ∧ w'.cell? ⟨w.heap.size, 1, none⟩ = some (.slice A1 n1 c1) ∧ w'.cell? ⟨w.heap.size + 1, 0, none⟩ = some (.bool s2) ∧ w'.cell? ⟨w.heap.size + 1, 1, none⟩ = some (.slice A2 n2 c2) ∧ w'.cell? ⟨w.heap.size + 1 + 1, 0, none⟩ = some (.bool s3) ∧ w'.cell? ⟨w.heap.size + 1 + 1, 1, none⟩ = some (.slice A3 n3 c3))
        (first | exact cel hE hE.here.1.1 | exact cel (hE.alloc _) (hE.alloc _).here.1.1 | exact cel (New.stored h0 hN _ _) (New.stored h0 hN _ _).here.1.1)
        (first
          | (have _t := tok0; go_at_call 17; (first | refine (law_product (c := c1) (d := c3) hE.here.1.1.1.2 hE.here.1.1.2.2.2 (le_len hE.here.1.1.1.2 (Nat.le_trans la (by decide))) (le_len hE.here.1.1.2.2.2 (Nat.le_trans lc (by decide))) (Nat.le_trans (ln_mulZ la lc) (by decide))).mono ?_ | (have h0 := hE; have hN := newStart hE; replace hE := hE.alloc (.cells #[.bool false, .slice none 0 0] 24); refine (law_product (c := c1) (d := c3) hE.here.1.1.1.2 hE.here.1.1.2.2.2 (le_len hE.here.1.1.1.2 (Nat.le_trans la (by decide))) (le_len hE.here.1.1.2.2.2 (Nat.le_trans lc (by decide))) (Nat.le_trans (ln_mulZ la lc) (by decide))).mono ?_)); rintro e w100 ⟨sv0, Av0, nv0, cv0, rfl, ho0, hb0⟩; (try (have hlt := hN.box.lt; replace hN := hN.below hb0)); replace hE := hE.step hb0; have hv0 := ho0.v; clear tok0 ho0 hb0; have tok1 : True := trivial)
          | (have _t := tok1; go_at_call 17; (first | refine (law_product (c := c2) (d := c3) hE.here.1.1.2.1.2 hE.here.1.1.2.2.2 (le_len hE.here.1.1.2.1.2 (Nat.le_trans lb (by decide))) (le_len hE.here.1.1.2.2.2 (Nat.le_trans lc (by decide))) (Nat.le_trans (ln_mulZ lb lc) (by decide))).mono ?_ | (have h0 := hE; have hN := newStart hE; replace hE := hE.alloc (.cells #[.bool false, .slice none 0 0] 24); replace hv0 := hv0.below (belAlloc _ (.cells #[.bool false, .slice none 0 0] 24)); refine (law_product (c := c2) (d := c3) hE.here.1.1.2.1.2 hE.here.1.1.2.2.2 (le_len hE.here.1.1.2.1.2 (Nat.le_trans lb (by decide))) (le_len hE.here.1.1.2.2.2 (Nat.le_trans lc (by decide))) (Nat.le_trans (ln_mulZ lb lc) (by decide))).mono ?_)); rintro e w101 ⟨sv1, Av1, nv1, cv1, rfl, ho1, hb1⟩; (try (have hlt := hN.box.lt; replace hN := hN.below hb1)); replace hv0 := hv0.below hb1; replace hE := hE.step hb1; have hv1 := ho1.v; clear tok1 ho1 hb1; have tok2 : True := trivial)
          | (have _t := tok2; go_at_call 14; (first | refine (gcd_v (c := cv0) (d := cv1) hv0 hv1 (le_len hv0 (Nat.le_trans (ln_mulZ la lc) (by decide))) (le_len hv1 (Nat.le_trans (ln_mulZ lb lc) (by decide)))).mono ?_ | (have h0 := hE; have hN := newStart hE; replace hE := hE.alloc (.cells #[.bool false, .slice none 0 0] 24); replace hv0 := hv0.below (belAlloc _ (.cells #[.bool false, .slice none 0 0] 24)); replace hv1 := hv1.below (belAlloc _ (.cells #[.bool false, .slice none 0 0] 24)); refine (gcd_v (c := cv0) (d := cv1) hv0 hv1 (le_len hv0 (Nat.le_trans (ln_mulZ la lc) (by decide))) (le_len hv1 (Nat.le_trans (ln_mulZ lb lc) (by decide)))).mono ?_)); rintro e w102 ⟨sv2, Av2, nv2, cv2, rfl, ho2, hb2⟩; (try (have hlt := hN.box.lt; replace hN := hN.below hb2)); (try (have f0 := hN.box.frozen 0; have f1 := hN.box.frozen 1; obtain ⟨r0, r1⟩ := hN.box.cells; try simp only [World.size_drew] at f0 f1 r0 r1)); replace hE := hE.step hb2; clear tok2 hv0 hv1; have tok3 : True := trivial))
      all_goals go_wp2_with fail
      all_goals go_meet
      all_goals first
        | exact ⟨_, _, _, _, _, rfl, rfl, New.done h0 hN ho2 hlt⟩
        | exact ⟨_, _, _, _, _, rfl, rfl, hE.fresh ho2.v _⟩
    case rest =>
    clear hB
    obtain ⟨G9, s9, A9, n9, cc9, rfl, rfl, hB⟩ := hcut
    rw [show ((Nat.gcd (a * c).natAbs (b * c).natAbs : Nat) : Int) = g * ((c.natAbs : Nat) : Int) by rw [HG.out]; exact gcd_two] at hB
    have lc' : ln b16 ((c.natAbs : Nat) : Int).natAbs ≤ 40 := by rw [Int.natAbs_natCast]; exact lc
    go_upto_region 10 with (fail)
    replace hB := hB.drew
    have tok0 : True := trivial
    go_region_held3 (fun w' => w'.cell? ⟨G8, 0, none⟩ = some (.bool s8) ∧ w'.cell? ⟨G8, 1, none⟩ = some (.slice A8 n8 cc8) ∧ w'.cell? ⟨z4, 0, none⟩ = some (.bool false) ∧ w'.cell? ⟨z4, 1, none⟩ = some (.slice Ag ng cg) ∧ w'.cell? ⟨G9, 0, none⟩ = some (.bool s9) ∧ w'.cell? ⟨G9, 1, none⟩ = some (.slice A9 n9 cc9) ∧ w'.cell? ⟨w.heap.size + 1 + 1, 0, none⟩ = some (.bool s3) ∧ w'.cell? ⟨w.heap.size + 1 + 1, 1, none⟩ = some (.slice A3 n3 c3))
      (exact ⟨hB.here.1.2.1.cells.1, hB.here.1.2.1.cells.2, hB.here.1.1.2.1.cells.1, hB.here.1.1.2.1.cells.2, hB.here.2.1.cells.1, hB.here.2.1.cells.2, hB.here.1.1.1.2.2.1.cells.1, hB.here.1.1.1.2.2.1.cells.2⟩)
      (first
        | (have _t := tok0; go_at_call 18; have hc := law_equal_t (c := cc8) (d := cg) hB.here.1.2.2 hB.here.1.1.2.2 (le_len hB.here.1.2.2 (Nat.le_trans lg (by decide))) (le_len hB.here.1.1.2.2 (Nat.le_trans lg (by decide))) rfl; refine hc.mono ?_; clear hc; rintro e w110 ⟨rfl, hb10⟩; replace hB := hB.step hb10; clear tok0 hb10; have tok1 : True := trivial)
        | (have _t := tok1; go_at_call 17; have hc := law_product (c := cg) (d := c3) hB.here.1.1.2.2 (WV.abs hB.here.1.1.1.2.2.2) (le_len hB.here.1.1.2.2 (Nat.le_trans lg (by decide))) (le_len (WV.abs hB.here.1.1.1.2.2.2) (Nat.le_trans lc' (by decide))) (Nat.le_trans (ln_mulZ lg lc') (by decide)); refine hc.mono ?_; clear hc; rintro e w111 ⟨sv0, Av0, nv0, cv0, rfl, ho0, hb11⟩; replace hB := hB.step hb11; have hv0 := ho0.v; clear tok1 hb11 ho0; have tok2 : True := trivial)
        | (have _t := tok2; go_at_call 18; have hc := law_equal_t (c := cc9) (d := cv0) hB.here.2.2 hv0 (le_len hB.here.2.2 (Nat.le_trans (ln_mulZ lg lc') (by decide))) (le_len hv0 (Nat.le_trans (ln_mulZ lg lc') (by decide))) rfl; refine hc.mono ?_; clear hc; rintro e w112 ⟨rfl, hb12⟩; replace hB := hB.step hb12; clear tok2 hb12 hv0; have tok3 : True := trivial))
    clear tok3
    have k1 := hB.here.1.1.2.1.cells.2
    have k3 := hB.here.1.1.1.1.1.cells.2
    have k4 := hB.here.1.1.1.2.1.1.cells.2
    have hz := hB.here.1.1.2.2.len
    have hz1 := hB.here.1.1.1.1.2.len
    have hz2 := hB.here.1.1.1.2.1.2.len
    by_cases hg0 : g = 0
    · have hgz : Nat.gcd a.natAbs b.natAbs = 0 := by have := HG.out; omega
      obtain ⟨ha0, hb0⟩ := Nat.gcd_eq_zero_iff.1 hgz
      obtain rfl : ng = 0 := by rw [hz, hg0]; exact ln_zero
      obtain rfl : n1 = 0 := by rw [hz1, ha0]; exact ln_zero
      obtain rfl : n2 = 0 := by rw [hz2, hb0]; exact ln_zero
      clear hz hz1 hz2
      go_wp2_with fail
      go_ret
      exact ⟨rfl, hB.bel⟩
    · have hn : 0 < ng := by rw [hz]; exact (ln_pos b16_two).2 (by omega)
      have t1 : (((ng : Nat) : Int) == 0) = false := beq_eq_false_iff_ne.2 (by omega)
      obtain ⟨qa, qb, hqa, hqb, hq1, hle1, hle2⟩ := gcd_three HG.out hg0
      have lqa : ln b16 qa.natAbs ≤ 40 := Nat.le_trans (ln_mono b16_two hle1) la
      have lqb : ln b16 qb.natAbs ≤ 40 := Nat.le_trans (ln_mono b16_two hle2) lb
      have HA := Lib.hid hqa
      have HB := Lib.hid hqb
      have HQ := Lib.hid hq1
      have HN := Lib.hid hg0
      clear hz hz1 hz2 hqa hqb hq1 hle1 hle2 hg0
      go_upto_region 14 with (fail)
      clear k1 k3 k4 t1 hn
      go_cut [13, 14] from 96 to 105 (fun p q wx => ∃ G ss AA nn cc, p = .pointer (some ⟨G, 0, none⟩) ∧ q = .int .i64 0 ∧ Env w (fun V => (((Tri w.heap.size a b c s1 s2 s3 A1 A2 A3 n1 n2 n3 c1 c2 c3 V ∧ Bx z4 g false Ag ng cg V) ∧ Bx G8 g s8 A8 n8 cc8 V) ∧ Bx G9 (g * ((c.natAbs : Nat) : Int)) s9 A9 n9 cc9 V) ∧ Bx G ((Nat.gcd qa.natAbs qb.natAbs : Nat) : Int) ss AA nn cc V) wx)
      case first =>
        have hD := hB.drew
        have hE := hD
        have tok0 : True := trivial
        go_region_held3 (fun w' => w'.cell? ⟨z4, 0, none⟩ = some (.bool false) ∧ w'.cell? ⟨z4, 1, none⟩ = some (.slice Ag ng cg) ∧ w'.cell? ⟨w.heap.size, 0, none⟩ = some (.bool s1) ∧ w'.cell? ⟨w.heap.size, 1, none⟩ = some (.slice A1 n1 c1) ∧ w'.cell? ⟨w.heap.size + 1, 0, none⟩ = some (.bool s2) ∧ w'.cell? ⟨w.heap.size + 1, 1, none⟩ = some (.slice A2 n2 c2) ∧ w'.cell? ⟨w.heap.size + 1 + 1, 0, none⟩ = some (.bool s3) ∧ w'.cell? ⟨w.heap.size + 1 + 1, 1, none⟩ = some (.slice A3 n3 c3))
          (first | exact ⟨hE.here.1.1.2.1.cells.1, hE.here.1.1.2.1.cells.2, cel hE hE.here.1.1.1⟩ | exact ⟨(hE.alloc _).here.1.1.2.1.cells.1, (hE.alloc _).here.1.1.2.1.cells.2, cel (hE.alloc _) (hE.alloc _).here.1.1.1⟩ | exact ⟨(New.stored h0 hN _ _).here.1.1.2.1.cells.1, (New.stored h0 hN _ _).here.1.1.2.1.cells.2, cel (New.stored h0 hN _ _) (New.stored h0 hN _ _).here.1.1.1⟩)
          (first
            | (have _t := tok0; go_at_call 19; (first | refine (law_divided (c := c1) (d := cg) hE.here.1.1.1.1.2 hE.here.1.1.2.2 (le_len hE.here.1.1.1.1.2 (Nat.le_trans la (by decide))) (le_len hE.here.1.1.2.2 (Nat.le_trans lg (by decide))) HN.out HA.out).mono ?_ | (have h0 := hE; have hN := newStart hE; replace hE := hE.alloc (.cells #[.bool false, .slice none 0 0] 24); refine (law_divided (c := c1) (d := cg) hE.here.1.1.1.1.2 hE.here.1.1.2.2 (le_len hE.here.1.1.1.1.2 (Nat.le_trans la (by decide))) (le_len hE.here.1.1.2.2 (Nat.le_trans lg (by decide))) HN.out HA.out).mono ?_)); rintro e w100 ⟨sv0, Av0, nv0, cv0, rfl, ho0, hb0⟩; (try (have hlt := hN.box.lt; replace hN := hN.below hb0)); replace hE := hE.step hb0; have hv0 := ho0.v; clear tok0 ho0 hb0; have tok1 : True := trivial)
            | (have _t := tok1; go_at_call 19; (first | refine (law_divided (c := c2) (d := cg) hE.here.1.1.1.2.1.2 hE.here.1.1.2.2 (le_len hE.here.1.1.1.2.1.2 (Nat.le_trans lb (by decide))) (le_len hE.here.1.1.2.2 (Nat.le_trans lg (by decide))) HN.out HB.out).mono ?_ | (have h0 := hE; have hN := newStart hE; replace hE := hE.alloc (.cells #[.bool false, .slice none 0 0] 24); replace hv0 := hv0.below (belAlloc _ (.cells #[.bool false, .slice none 0 0] 24)); refine (law_divided (c := c2) (d := cg) hE.here.1.1.1.2.1.2 hE.here.1.1.2.2 (le_len hE.here.1.1.1.2.1.2 (Nat.le_trans lb (by decide))) (le_len hE.here.1.1.2.2 (Nat.le_trans lg (by decide))) HN.out HB.out).mono ?_)); rintro e w101 ⟨sv1, Av1, nv1, cv1, rfl, ho1, hb1⟩; (try (have hlt := hN.box.lt; replace hN := hN.below hb1)); replace hv0 := hv0.below hb1; replace hE := hE.step hb1; have hv1 := ho1.v; clear tok1 ho1 hb1; have tok2 : True := trivial)
            | (have _t := tok2; go_at_call 14; (first | refine (gcd_v (c := cv0) (d := cv1) hv0 hv1 (le_len hv0 (Nat.le_trans lqa (by decide))) (le_len hv1 (Nat.le_trans lqb (by decide)))).mono ?_ | (have h0 := hE; have hN := newStart hE; replace hE := hE.alloc (.cells #[.bool false, .slice none 0 0] 24); replace hv0 := hv0.below (belAlloc _ (.cells #[.bool false, .slice none 0 0] 24)); replace hv1 := hv1.below (belAlloc _ (.cells #[.bool false, .slice none 0 0] 24)); refine (gcd_v (c := cv0) (d := cv1) hv0 hv1 (le_len hv0 (Nat.le_trans lqa (by decide))) (le_len hv1 (Nat.le_trans lqb (by decide)))).mono ?_)); rintro e w102 ⟨sv2, Av2, nv2, cv2, rfl, ho2, hb2⟩; (try (have hlt := hN.box.lt; replace hN := hN.below hb2)); (try (have f0 := hN.box.frozen 0; have f1 := hN.box.frozen 1; obtain ⟨r0, r1⟩ := hN.box.cells; try simp only [World.size_drew] at f0 f1 r0 r1)); replace hE := hE.step hb2; clear tok2 hv0 hv1; have tok3 : True := trivial))
        all_goals go_wp2_with fail
        all_goals go_meet
        all_goals first
          | exact ⟨_, _, _, _, _, rfl, rfl, New.done h0 hN ho2 hlt⟩
          | exact ⟨_, _, _, _, _, rfl, rfl, hE.fresh ho2.v _⟩
      case rest =>
      clear hB
      obtain ⟨G14, s14, A14, n14, cc14, rfl, rfl, hB⟩ := hcut
      rw [show ((Nat.gcd qa.natAbs qb.natAbs : Nat) : Int) = 1 by rw [HQ.out]; rfl] at hB
      go_upto_region 15 with (fail)
      replace hB := hB.drew
      have tok0 : True := trivial
      go_region_held3 (fun w' => w'.cell? ⟨G14, 0, none⟩ = some (.bool s14) ∧ w'.cell? ⟨G14, 1, none⟩ = some (.slice A14 n14 cc14))
        (exact ⟨hB.here.2.1.cells.1, hB.here.2.1.cells.2⟩)
        (first
          | (have _t := tok0; go_at_call 20; refine (num_v (1) _ (by decide) (by decide)).mono ?_; rintro e w120 ⟨sv0, Av0, nv0, cv0, rfl, ho0, hb20⟩; replace hB := hB.step hb20; have hv0 := ho0.v; clear tok0 hb20 ho0; have tok1 : True := trivial)
          | (have _t := tok1; go_at_call 18; have hc := law_equal_t (c := cc14) (d := cv0) hB.here.2.2 hv0 (le_len hB.here.2.2 (Nat.le_trans (ln_int (z := 1) (by decide) (by decide)) (by decide))) (le_len hv0 (Nat.le_trans (ln_int (z := 1) (by decide) (by decide)) (by decide))) rfl; refine hc.mono ?_; clear hc; rintro e w121 ⟨rfl, hb21⟩; replace hB := hB.step hb21; clear tok1 hb21 hv0; have tok2 : True := trivial))
      clear tok2
      go_wp2_with fail
      go_ret
      exact ⟨rfl, hB.bel⟩
end Go.Proofs.YtafglggjncnkkaaDoor
