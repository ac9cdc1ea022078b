/-
  The walk of WholeTexts.
-/
import Derived.Test.YtafglggjncnkkaaDoorEnvN
import Derived.Test.YtafglggjncnkkaaDoorTextsM
namespace Go.Proofs.YtafglggjncnkkaaDoor
open Go.RowKit

theorem text_s {a : Int} {s : Bool} {A : Option Addr} {n c : Nat} {w : World} (ha : WV w a s A n) (la : n ≤ 1024) (htab : Tab w) {t : List UInt8} (ht : Lib.itoa a = t) :
    Calls Tryd.prog 21 #[.agg #[.bool s, .slice A n c]] w fun e w' => e = .returned (.tuple #[.string (str t), .int .i64 0]) ∧ Below w.heap.size w w' := by
  refine (text_v ha la htab).mono ?_
  rintro e w' ⟨⟨T, rfl, hT⟩, hb⟩
  rw [hT.out, ht]
  exact ⟨rfl, hb⟩
theorem parse_ok {l : List UInt8} {z : Int} (w : World) (hl : l.length ≤ 1000000) (hok : numOK l) (hlen : (bodyT l).length ≤ 4933) (hz : toI (negT l) (pv (bodyT l)) = z) (hln : ln b16 z.natAbs ≤ 1024) :
    Calls Tryd.prog 22 #[.string (str l)] w (VR z w) := by
  refine (parse_walk l w hl).mono ?_
  rintro e w' (⟨h, _⟩ | ⟨_, h, _⟩ | ⟨_, _, h⟩)
  · exact absurd hok h
  · omega
  · rw [hz] at h; exact h.vr hln
theorem usable_one (most : Nat) (s1 : Bool) (A1 : Option Addr) (n1 c1 : Nat) (f1 : Nat → Nat) (W : World) (r1 : Rd W.heap.size .u16 W A1 n1 f1) (q1 : ∀ j, j < n1 → f1 j < 65536) (hmost : most ≤ 1000000) :
    Calls Tryd.prog 13 #[.int .i64 (most : Int), .slice (some ⟨W.heap.size, 0, none⟩) 1 1] (W.alloc (.cells #[.bool s1, .slice A1 n1 c1] 24))
      fun e w' => e = .returned (.bool (useOK most s1 n1 f1)) ∧ Below (W.alloc (.cells #[.bool s1, .slice A1 n1 c1] 24)).heap.size (W.alloc (.cells #[.bool s1, .slice A1 n1 c1] 24)) w' := by
  have hb : Below W.heap.size W (W.alloc (.cells #[.bool s1, .slice A1 n1 c1] 24)) := (Below.refl _ W).alloc (Nat.le_refl _) _
  have hg := heap_alloc_new W (.cells #[.bool s1, .slice A1 n1 c1] 24)
  refine (usable_any most W.heap.size 1 (fun _ => s1) (fun _ => A1) (fun _ => n1) (fun _ => c1) (fun _ => f1) _ ?_ (by simp) (by omega) hmost).mono ?_
  · intro i hi
    match i, hi with
    | 0, _ => exact ⟨(cell_of_row _ _ 0 _ _ (0, 0) hg).trans rfl, (cell_of_row _ _ 1 _ _ (0, 0) hg).trans rfl, (r1.below hb).more hb.size, q1⟩
  · rintro e w' ⟨rfl, h⟩
    exact ⟨ret_bool (by simp [okAll]), h⟩
theorem Env.one (w : World) (s : Bool) (A : Option Addr) (n c : Nat) : Env w (fun V => WholeAt V w.heap.size s (.slice A n c)) (w.alloc (.cells #[.bool s, .slice A n c] 24)) :=
  ⟨(Below.refl _ w).alloc (Nat.le_refl _) _, WholeAt.stable _ _ _, WholeAt.new w s _⟩
theorem Env.num {w W : World} {g : Nat} {s : Bool} {A : Option Addr} {n c : Nat} {z : Int} (h : Env w (fun V => WholeAt V g s (.slice A n c)) W) (hz : WV w z s A n) : Env w (Bx g z s A n c) W :=
  ⟨h.bel, Bx.stable _ _ _ _ _ _, h.here, hz.below h.bel⟩
theorem bx2 {g : Nat} {z : Int} {s : Bool} {A : Option Addr} {n c : Nat} {W : World} (h : Bx g z s A n c W) : W.cell? ⟨g, 0, none⟩ = some (.bool s) ∧ W.cell? ⟨g, 1, none⟩ = some (.slice A n c) := ⟨h.1.cells.1, h.1.cells.2⟩
theorem wv0 (w : World) : WV w 0 false none 0 := ⟨rfl, ln_zero.symm, fun h => absurd h (by rw [show (0 : Int).natAbs = 0 from rfl, ln_zero]; exact Nat.lt_irrefl 0)⟩
theorem body_le (l : List UInt8) : (bodyT l).length ≤ l.length := by
  unfold bodyT
  split
  · rw [List.length_drop]; omega
  · exact Nat.le_refl _
theorem env9 {w W : World} {g h : Nat} {y z : Int} {s t : Bool} {A C : Option Addr} {n m c d : Nat} (hb : Below w.heap.size w W) (h1 : Bx g y s A n c W) (h2 : Bx h z t C m d W) : Env w (fun V => Bx g y s A n c V ∧ Bx h z t C m d V) W :=
  ⟨hb, fun P Q hpq hp => ⟨Bx.stable _ _ _ _ _ _ P Q hpq hp.1, Bx.stable _ _ _ _ _ _ P Q hpq hp.2⟩, h1, h2⟩
theorem finS {w W0 W : World} {P : World → Prop} {G B : Nat} {z : Int} {s t : Bool} {A : Option Addr} {n c : Nat} {v : Value} (hD : Env w P W0) (hb : Below W0.heap.size W0 W) (hx : WholeAt W G t v) (hG : W0.heap.size ≤ G) (hGB : G < B) (ho : WO B W z s A n c) :
    Env w (fun V => P V ∧ Bx G z s A n c V) ((W.setCell ⟨G, 0, none⟩ (.bool s)).setCell ⟨G, 1, none⟩ (.slice A n c)) :=
  (hD.step ((hb.setCell (p := ⟨G, 0, none⟩) hG _).setCell (p := ⟨G, 1, none⟩) hG _)).and (Bx.stable _ _ _ _ _ _) ⟨hx.set s _, (ho.store hGB s _).v⟩
set_option linter.unusedSimpArgs false in
set_option maxRecDepth 100000 in
set_option maxHeartbeats 16000000 in
theorem texts_walk (s : Bool) (A : Option Addr) (n c : Nat) (f : Nat → Nat) (l : List UInt8) (D : Int) (w : World) (htab : Tab w)
    (r1 : Rd w.heap.size .u16 w A n f) (q1 : ∀ j, j < n → f j < 65536) (d1 : 0 ≤ D) (d2 : D ≤ 255) :
    Calls Tryd.prog 4 #[.agg #[.bool s, .slice A n c], .string (str l), .int .u8 D] w fun e w' => e = .returned (.bool true) ∧ Below w.heap.size w w' := by
  have hE := Env.one w s A n c
  have hU := Lib.hid fun (W : World) (hW : Below w.heap.size w W) => usable_one 100 s A n c f W ((r1.below hW).more hW.size) q1 (by decide)
  have hsl := str_size l
  go_enter Tryd.func4, Tryd.ntmps4
  go_wp2_with fail
  refine (awake_any _ (htab.below hE.bel)).mono ?_
  rintro e w1 ⟨rfl, hb⟩
  replace hE := hE.step hb
  clear hb
  obtain ⟨k1, k2⟩ := WholeAt.cells hE.here
  go_wp2_with fail
  refine (hU.out _ hE.bel).mono ?_
  rintro e w2 ⟨rfl, hb⟩
  replace hE := (hE.alloc _).step hb
  clear k1 k2 hb
  cases hq : useOK 100 s n f
  · go_wp2_with fail
    go_ret
    exact ⟨rfl, hE.bel⟩
  · obtain ⟨a, ha, la⟩ := WV.of_use r1 q1 hq
    replace hE := hE.num ha
    clear hq ha r1 q1 hU
    by_cases h400 : l.length ≤ 400
    · have t1 : decide ((400 : Int) < (l.length : Int)) = false := decide_eq_false (by omega)
      obtain ⟨k1, k2⟩ := bx2 hE.here
      obtain ⟨c0, t, ht, hc0⟩ := itoa_first a
      have HT := Lib.hid ht
      have htl := len_body_itoa la [] (by decide)
      rw [List.append_nil] at htl
      rw [ht] at htl
      have hst := str_size (c0 :: t)
      go_wp2_with fail
      refine (text_s hE.here.2 (le_len hE.here.2 (Nat.le_trans la (by decide))) (htab.below hE.bel) ht).mono ?_
      rintro e w3 ⟨rfl, hb⟩
      replace hE := hE.step hb
      clear hb k1 k2 t1 ht
      go_wp2_with fail
      refine (parse_ok (l := c0 :: t) (z := a) _ (by omega) (by rw [← HT.out]; exact numOK_itoa a) (by omega) (by rw [← HT.out]; exact val_itoa a) (Nat.le_trans la (by decide))).mono ?_
      rintro e w4 ⟨s9, A9, n9, c9, rfl, ho, hb⟩
      replace hE := hE.step hb
      have hv9 := ho.v
      clear ho hb
      go_upto_region 7 with (fail)
      replace hE := hE.fresh hv9 c9
      clear hv9
      obtain ⟨z9, hz9⟩ : ∃ z9, z9 = w4.heap.size := ⟨_, rfl⟩
      generalize w4.alloc (.cells #[.bool s9, .slice A9 n9 c9] 24) = W4 at hE ⊢
      rw [← hz9] at *
      clear hz9
      have hB := hE
      clear hE
      go_cut [63] from 39 to 63 (fun v wx => v = .bool false ∧ Env w (fun V => Bx w.heap.size a s A n c V ∧ Bx z9 a s9 A9 n9 c9 V) wx)
      case first =>
        have hz : (str (c0 :: t))[0]'(by rw [hst]; simp) = c0 := rfl
        have t0 : (0 : Int) < ((c0 :: t).length : Int) := by simp only [List.length_cons]; omega
        have t1 : ((t.length : Int) + 1 == 0) = false := beq_eq_false_iff_ne.2 (by omega)
        have tc : (((c0.toNat : Nat) : Int) == 45) = s := by rw [hB.here.1.2.sgn, ← hc0]; exact u8_eq c0 45
        replace hB := hB.drew
        have tok0 : True := trivial
        go_region_held3 (fun w' => w'.cell? ⟨w.heap.size, 0, none⟩ = some (.bool s) ∧ w'.cell? ⟨w.heap.size, 1, none⟩ = some (.slice A n c) ∧ w'.cell? ⟨z9, 0, none⟩ = some (.bool s9) ∧ w'.cell? ⟨z9, 1, none⟩ = some (.slice A9 n9 c9))
          (exact ⟨hB.here.1.1.cells.1, hB.here.1.1.cells.2, hB.here.2.1.cells.1, hB.here.2.1.cells.2⟩)
          (first
            | (have _t := tok0; go_at_call 18; have hc := law_equal_t (c := c) (d := c9) hB.here.1.2 hB.here.2.2 (le_len hB.here.1.2 (Nat.le_trans la (by decide))) (le_len hB.here.2.2 (Nat.le_trans la (by decide))) (rfl); refine hc.mono ?_; clear hc; rintro e w101 ⟨rfl, hb1⟩; replace hB := hB.step hb1; clear tok0 hb1; have tok1 : True := trivial))
        clear tok1
        go_wp2_with fail
        go_meet
        exact ⟨rfl, hB⟩
      case rest =>
      clear hB
      obtain ⟨rfl, hB⟩ := hcut
      go_upto_region 9 with (fail)
      go_cut [2] from 64 to 65 (fun v wx => ∃ k : Nat, v = .int .u8 (k : Int) ∧ k < 10 ∧ wx = wc)
      case first =>
        have hk : D.tmod 10 = ((D.toNat % 10 : Nat) : Int) := by rw [Int.tmod_eq_emod_of_nonneg d1]; omega
        go_wp2_with fail
        go_meet
        exact ⟨D.toNat % 10, by first | (rw [hk]; done) | (congr 1; rw [IntKind.wrap_u8, hk]; omega) | (congr 1; omega), Nat.mod_lt _ (by decide), rfl⟩
      case rest =>
      obtain ⟨k, rfl, hk, rfl⟩ := hcut
      have k1 := hB.here.1.1.cells.2
      go_upto_if 69 with (fail)
      go_cut [] from 69 to 100 (fun wx => Env w (fun V => Bx w.heap.size a s A n c V ∧ Bx z9 a s9 A9 n9 c9 V) wx)
      case first =>
        by_cases hn : 0 < n
        · have t1 : decide ((0 : Int) < (n : Int)) = true := decide_eq_true (by omega)
          have o1 : IntKind.u8.wrap (48 + (k : Int)) = 48 + (k : Int) := by rw [IntKind.wrap_u8]; omega
          obtain ⟨c1, hc1⟩ : ∃ c1, c1 = UInt8.ofNat (48 + k) := ⟨_, rfl⟩
          have hcn : c1.toNat = 48 + k := by rw [hc1, UInt8.toNat_ofNat']; omega
          have hcb : 48 ≤ c1.toNat ∧ c1.toNat ≤ 57 := by omega
          have happ : str (c0 :: t) ++ str [c1] = str (c0 :: t ++ [c1]) := by apply ByteArray.ext; simp [str, ByteArray.data_append]
          clear hc1
          have hcl := cell_one_new wc (.int .u8 (48 + (k : Int))) 5
          have hcv : (convert 38 9 (.slice (some ⟨wc.heap.size, 0, none⟩) 1 1)).run Tryd.prog (wc.alloc (.cells #[.int .u8 (48 + (k : Int))] 5)) = .ok (.string ⟨[c1].toArray⟩) (wc.alloc (.cells #[.int .u8 (48 + (k : Int))] 5)) :=
            run_convert_bytes_back (P := Tryd.prog) _ 38 9 5 ⟨wc.heap.size, 0, none⟩ 1 [c1] Tryd.underlying38 Tryd.underlying5 Tryd.underlying9 (fun j hj => by
              obtain rfl : j = 0 := by simpa using hj
              have h5 := hcl 0 _ rfl
              have h6 : (48 + (k : Int)) = ((c1.toNat : Nat) : Int) := by omega
              rw [h6] at h5 ⊢
              exact h5)
          obtain ⟨st, hst0⟩ : ∃ st : Int, (if a < 0 then -(k : Int) else (k : Int)) = st := ⟨_, rfl⟩
          have ha0 : a ≠ 0 := fun h => by
            have h5 := hB.here.1.2.len
            rw [h, show (0 : Int).natAbs = 0 from rfl, ln_zero] at h5
            omega
          have hval := val_more a c1
          rw [show c1.toNat - 48 = k by omega, hst0, HT.out] at hval
          have hst1 : -9223372036854775808 ≤ st ∧ st ≤ 9223372036854775807 := by rw [← hst0]; split <;> omega
          have lst : ln b16 st.natAbs ≤ 4 := ln_int hst1.1 hst1.2
          have lc : ln b16 (a * 10 + st).natAbs ≤ 105 := ln_addZ (m := 104) (ln_mulZ la (ln_int (z := 10) (by decide) (by decide))) (Nat.le_trans lst (by decide))
          have hok := numOK_more ha0 hcb
          rw [HT.out] at hok
          have hln := len_body_itoa la [c1] (Nat.le_refl 1)
          rw [HT.out] at hln
          have HV := Lib.hid hval
          have HO := Lib.hid hok
          have HS := Lib.hid hst0
          clear hval hok hst0 hcb
          have hz2 : (⟨[c1].toArray⟩ : ByteArray).size = 1 := rfl
          have hz3 : (⟨#[c1]⟩ : ByteArray).size = 1 := rfl
          have hz4 : t.length + 1 + 1 ≤ 9223372036854775807 := by have := htl.2.1; rw [List.length_cons] at this; omega
          have hz5 : (str (c0 :: t)).size + (⟨#[c1]⟩ : ByteArray).size ≤ 9223372036854775807 := by rw [hst, hz3, List.length_cons]; exact hz4
          go_wp2_with fail
          generalize hX : str (c0 :: t) ++ (⟨#[c1]⟩ : ByteArray) = X
          obtain rfl : X = str (c0 :: t ++ [c1]) := hX.symm.trans happ
          clear hX happ hcv
          refine (parse_ok (l := c0 :: t ++ [c1]) (z := a * 10 + st) _ (by omega) HO.out (by omega) HV.out (Nat.le_trans lc (by decide))).mono ?_
          rintro e w5 ⟨s11, A11, n11, c11, rfl, ho, hb⟩
          replace hB := (hB.alloc _).step hb
          have hv11 := ho.v
          clear ho hb hcl
          go_upto_region 12 with (fail)
          replace hB := hB.fresh hv11 c11
          clear hv11
          obtain ⟨z11, hz11⟩ : ∃ z11, z11 = w5.heap.size := ⟨_, rfl⟩
          generalize w5.alloc (.cells #[.bool s11, .slice A11 n11 c11] 24) = W5 at hB ⊢
          rw [← hz11] at *
          clear hz11
          have o3 : IntKind.i64.wrap (k : Int) = (k : Int) := by rw [IntKind.wrap_i64]; omega
          go_wp2_with fail
          refine (num_v (k : Int) _ (by omega) (by omega)).mono ?_
          rintro e w6 ⟨s13, A13, n13, c13, rfl, ho, hb⟩
          replace hB := hB.step hb
          have hv13 := ho.v
          clear ho hb
          go_upto_region 13 with (fail)
          have hD := hB
          have hbb := belAlloc w6 (.cells #[.bool s13, .slice A13 n13 c13] 24)
          replace hB := hB.fresh hv13 c13
          clear hv13
          generalize w6.alloc (.cells #[.bool s13, .slice A13 n13 c13] 24) = W6 at hB hbb ⊢
          obtain ⟨k1, k2⟩ := bx2 hB.here.1.1.1
          go_upto_if 84 with (fail)
          clear k1 k2
          go_cut [] from 84 to 88 (fun wx => ∃ ss AA nn cc, Env w (fun V => ((Bx w.heap.size a s A n c V ∧ Bx z9 a s9 A9 n9 c9 V) ∧ Bx z11 (a * 10 + st) s11 A11 n11 c11 V) ∧ Bx w6.heap.size st ss AA nn cc V) wx)
          case first =>
            have hsg := hB.here.1.1.1.2.sgn
            cases s
            · have hk2 : (k : Int) = st := by rw [← HS.out, if_neg (of_decide_eq_false hsg.symm)]
              rw [hk2] at hB
              go_wp2_with fail
              go_meet
              exact ⟨_, _, _, _, hB⟩
            · have hk2 : -(k : Int) = st := by rw [← HS.out, if_pos (of_decide_eq_true hsg.symm)]
              have o4 : IntKind.i64.wrap (-(k : Int)) = -(k : Int) := by rw [IntKind.wrap_i64]; omega
              go_wp2_with fail
              refine (num_v st _ hst1.1 hst1.2).mono ?_
              rintro e w7 ⟨s7, A7, n7, c7, rfl, ho, hb⟩
              have hx := hB.here.2.1
              have hlt := hx.lt
              replace hx := hx.below hb hlt
              replace hbb := hbb.trans (hb.mono hbb.size)
              obtain ⟨r0, r1⟩ := hx.cells
              have g0 := hx.frozen 0
              have g1 := hx.frozen 1
              have hF := Lib.hid (finS hD hbb hx (Nat.le_refl _) hlt ho)
              clear hB ho hx hk2 o4 o1 o3 hlt hbb hD hsg
              go_wp2_with fail
              go_meet
              exact ⟨_, _, _, _, hF.out⟩
          case rest =>
          clear hB hbb hD
          obtain ⟨ss, AA, nn, cc, hB⟩ := hcut
          go_upto_region 15 with (fail)
          replace hB := hB.drew
          have tok0 : True := trivial
          go_region_held3 (fun w' => w'.cell? ⟨z11, 0, none⟩ = some (.bool s11) ∧ w'.cell? ⟨z11, 1, none⟩ = some (.slice A11 n11 c11) ∧ w'.cell? ⟨w.heap.size, 0, none⟩ = some (.bool s) ∧ w'.cell? ⟨w.heap.size, 1, none⟩ = some (.slice A n c) ∧ w'.cell? ⟨w6.heap.size, 0, none⟩ = some (.bool ss) ∧ w'.cell? ⟨w6.heap.size, 1, none⟩ = some (.slice AA nn cc))
            (exact ⟨hB.here.1.2.1.cells.1, hB.here.1.2.1.cells.2, hB.here.1.1.1.1.cells.1, hB.here.1.1.1.1.cells.2, hB.here.2.1.cells.1, hB.here.2.1.cells.2⟩)
            (first
              | (have _t := tok0; go_at_call 20; refine (num_v (10) _ (by decide) (by decide)).mono ?_; rintro e w101 ⟨sv1, Av1, nv1, cv1, rfl, ho1, hb1⟩; replace hB := hB.step hb1; have hv1 := ho1.v; clear tok0 hb1 ho1; have tok1 : True := trivial)
              | (have _t := tok1; go_at_call 17; have hc := law_product (c := c) (d := cv1) hB.here.1.1.1.2 hv1 (le_len hB.here.1.1.1.2 (Nat.le_trans la (by decide))) (le_len hv1 (Nat.le_trans (ln_int (z := 10) (by decide) (by decide)) (by decide))) (Nat.le_trans (ln_mulZ la (ln_int (z := 10) (by decide) (by decide))) (by decide)); refine hc.mono ?_; clear hc; rintro e w102 ⟨sv2, Av2, nv2, cv2, rfl, ho2, hb2⟩; replace hB := hB.step hb2; have hv2 := ho2.v; clear tok1 hb2 hv1 ho2; have tok2 : True := trivial)
              | (have _t := tok2; go_at_call 16; have hc := law_sum (c := cv2) (d := cc) hv2 hB.here.2.2 (le_len hv2 (Nat.le_trans (ln_mulZ la (ln_int (z := 10) (by decide) (by decide))) (by decide))) (le_len hB.here.2.2 (Nat.le_trans lst (by decide))) (Nat.le_trans (ln_addZ (m := 104) (Nat.le_trans (ln_mulZ la (ln_int (z := 10) (by decide) (by decide))) (by decide)) (Nat.le_trans lst (by decide))) (by decide)); refine hc.mono ?_; clear hc; rintro e w103 ⟨sv3, Av3, nv3, cv3, rfl, ho3, hb3⟩; replace hB := hB.step hb3; have hv3 := ho3.v; clear tok2 hb3 hv2 ho3; have tok3 : True := trivial)
              | (have _t := tok3; go_at_call 18; have hc := law_equal_t (c := c11) (d := cv3) hB.here.1.2.2 hv3 (le_len hB.here.1.2.2 (Nat.le_trans lc (by decide))) (le_len hv3 (Nat.le_trans (ln_addZ (m := 104) (Nat.le_trans (ln_mulZ la (ln_int (z := 10) (by decide) (by decide))) (by decide)) (Nat.le_trans lst (by decide))) (by decide))) (rfl); refine hc.mono ?_; clear hc; rintro e w104 ⟨rfl, hb4⟩; replace hB := hB.step hb4; clear tok3 hb4 hv3; have tok4 : True := trivial))
          clear tok4
          go_wp2_with fail
          go_meet
          exact env9 hB.bel hB.here.1.1.1 hB.here.1.1.2
        · have t1 : decide ((0 : Int) < (n : Int)) = false := decide_eq_false (by omega)
          go_wp2_with fail
          go_meet
          exact hB
      case rest =>
      clear hB k1
      have hB := hcut
      clear hcut
      go_wp2_with fail
      refine (parse_walk l _ (by omega)).mono ?_
      rintro e w10 (⟨_, rfl, hb⟩ | ⟨_, h2, _⟩ | ⟨hok, _, hri⟩)
      · replace hB := hB.step hb
        go_upto_region 18 with (fail)
        replace hB := hB.fresh (wv0 w10) 0
        obtain ⟨z14, hz14⟩ : ∃ z14, z14 = w10.heap.size := ⟨_, rfl⟩
        generalize w10.alloc (.cells #[.bool false, .slice none 0 0] 24) = W10 at hB ⊢
        rw [← hz14] at *
        clear hz14
        obtain ⟨k1, k2⟩ := bx2 hB.here.2
        go_wp2_with fail
        go_ret
        exact ⟨rfl, hB.bel⟩
      · exact absurd h2 (by have := body_le l; omega)
      · obtain ⟨z, hz⟩ : ∃ z, toI (negT l) (pv (bodyT l)) = z := ⟨_, rfl⟩
        have hback := itoa_back hok
        have hlz := ln_text hok h400
        rw [hz] at hback hlz hri
        obtain ⟨s14, A14, n14, c14, rfl, ho, hb⟩ := hri.vr (Nat.le_trans hlz (by decide))
        replace hB := hB.step hb
        have hv14 := ho.v
        clear ho hb hri hz
        go_upto_region 18 with (fail)
        replace hB := hB.fresh hv14 c14
        clear hv14
        obtain ⟨z14, hz14⟩ : ∃ z14, z14 = w10.heap.size := ⟨_, rfl⟩
        generalize w10.alloc (.cells #[.bool s14, .slice A14 n14 c14] 24) = W10 at hB ⊢
        rw [← hz14] at *
        clear hz14
        obtain ⟨k1, k2⟩ := bx2 hB.here.2
        go_wp2_with fail
        refine (text_s hB.here.2.2 (le_len hB.here.2.2 (Nat.le_trans hlz (by decide))) (htab.below hB.bel) hback).mono ?_
        rintro e w11 ⟨rfl, hb⟩
        replace hB := hB.step hb
        clear hb k1 k2
        go_wp2_with fail
        go_ret
        exact ⟨rfl, hB.bel⟩
    · have t1 : decide ((400 : Int) < (l.length : Int)) = true := decide_eq_true (by omega)
      go_wp2_with fail
      go_ret
      exact ⟨rfl, hE.bel⟩
end Go.Proofs.YtafglggjncnkkaaDoor
