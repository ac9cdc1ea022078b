/-
  The walk of whole.Text.
-/
import Derived.Test.YtafglggjncnkkaaDoorTextA
import Derived.Deep.CutBlock
import Derived.Deep.CutRange
namespace Go.Proofs.YtafglggjncnkkaaDoor
open Go.RowKit Go.Shelf
attribute [local go_sem] Oper.semAt_some

set_option maxRecDepth 100000 in
set_option maxHeartbeats 4000000 in
theorem text_walk (s : Bool) (A : Option Addr) (c x : Nat) (w : World) (htab : Tab w) (hA : Num16 w A x) (la : ln b16 x ≤ 1024) (hx : 0 < x) (hok : okW s (ln b16 x) (dgt b16 x) = true) :
    Calls Tryd.prog 21 #[.agg #[.bool s, .slice A (ln b16 x) c]] w fun e w' => e = .returned (.tuple #[.string ⟨(numeral s x).toArray⟩, .int .i64 0]) ∧ Below w.heap.size w w' := by
  have hv := fun w' (hw' : Below w.heap.size w w') => valid_any s A (ln b16 x) c (dgt b16 x) w' (Num16.below hA hw') (fun i _ => dgt16_lt x i) (by omega)
  rw [hok] at hv
  have HV := Lib.hid hv
  clear hv hok
  have hl0 : 0 < ln b16 x := (ln_pos b16_two).2 hx
  have t0 : (((ln b16 x : Nat) : Int) == 0) = false := beq_eq_false_iff_ne.2 (by omega)
  have hp0 := WholeAt.new w s (.slice A (ln b16 x) c)
  have hb0 : Below w.heap.size w (w.alloc (.cells #[.bool s, .slice A (ln b16 x) c] 24)) := (Below.refl _ w).alloc (Nat.le_refl _) _
  refine (callsIn_wide (n := 5)).1 ?_
  have hro : Fence.wide.round = none := rfl
  refine callsIn_of_wp_marks Tryd.func21 rfl trivial ?_ hro
  refine wpIn_wide.2 ?_
  simp only [Tryd.ntmps21, List.size_toArray, List.length_cons, List.length_nil, Nat.reduceAdd, Nat.reduceSub, Array.replicate_succ, Array.replicate_zero, List.push_toArray, List.append_toArray, List.nil_append, List.cons_append]
  go_wp2_with fail
  refine (HV.out _ hb0).mono ?_
  rintro e w1 ⟨rfl, hb1⟩
  have hp1 := hp0.below hb1 hp0.lt
  have hbl1 := hb0.trans (hb1.mono hb0.size)
  obtain ⟨p0, p1⟩ := hp1.cells
  go_wp2_with fail
  refine (pack_any A c x w1 (Num16.below hA hbl1) (by omega)).mono ?_
  rintro e w2 ⟨A2, c2, rfl, hc2, hn2, hb2⟩
  have hp2 := hp1.below hb2 hp1.lt
  have hbl2 := hbl1.trans (hb2.mono hbl1.size)
  clear p0 p1
  go_wp2_with fail
  obtain ⟨i0, hi, hz0, hz1, hz2⟩ := info_parts info_u32
  go_loopw [4, 5] (fun v y wr => ∃ k X A' c', y = .slice A' (ln b32 X) c' ∧ Num32 wr A' X ∧ Hid (X = x / 1000000000 ^ k) ∧ k ≤ ln 1000000000 x ∧ Hid (lenV v = k) ∧ wr.ownsRow (w.heap.size + 1) 57 1 v k (nums .u32 k (dgt 1000000000 x)) ∧ WholeAt wr w.heap.size s (.slice A (ln b16 x) c) ∧ Below w.heap.size w wr) (fun v _ _ => ln 1000000000 x - lenV v)
  case atStart => exact ⟨0, x, A2, c2, rfl, hn2, Lib.hid (by simp), Nat.zero_le _, Lib.hid rfl, World.ownsRow_nil .., hp2, hbl2⟩
  case round =>
    have l9 := ln9_le la
    obtain ⟨k, X, A3, c3, rfl, hn3, hX, hk, hlv, hown, hp3, hbl3⟩ := hrel
    by_cases hX0 : 0 < X
    · have hlX : 0 < ln b32 X := (ln_pos b32_two).2 hX0
      have t1 : (0 : Int) < ((ln b32 X : Nat) : Int) := by omega
      have hXx : X ≤ x := by rw [hX.out]; exact Nat.div_le_self ..
      have hlX2 := Nat.le_trans (ln_mono b32_two hXx) (show ln b32 x ≤ 512 by rw [ln32_two]; omega)
      go_wp2_with fail
      refine (divShort_at A3 c3 X 1000000000 wr hn3 (by decide) (by decide) (by omega)).mono ?_
      rintro e w4 ⟨c4, rfl, hc4, hn4, hb4⟩
      have hp4 := hp3.below hb4 hp3.lt
      have hbl4 := hbl3.trans (hb4.mono hbl3.size)
      have hown4 := own_below hown hb4 (Nat.le_refl _)
      have hd : X % 1000000000 = dgt 1000000000 x k := by rw [hX.out]; rfl
      rw [hd]
      have HD := Lib.hid hd
      clear hd
      have hk9 : k < ln 1000000000 x := ln9_step.1 (by rw [← hX.out]; exact hX0)
      have hsz := hbl4.size
      have hpl4 := hp4.lt
      have hne4 : some wr.heap.size ≠ u4.ownBlock := fun e => by have := (hown.lt _ e.symm).2; omega
      clear hown hp3 hbl3
      go_wp2_with (at_builtin; refine wpList_append_own _ rfl _ _ 54 rfl (w.heap.size + 1) 57 i0 (.int .u32 0) 1 4 Tryd.underlying54 hi hz0 hz1 hz2 rfl (by decide) _ _ _ rfl (hown4.alloc _) ⟨w4.heap.size, 0, none⟩ 1 1 [.int .u32 ((dgt 1000000000 x k : Nat) : Int)] rfl rfl (cell_one_new _ _ _) (by simp [Value.oneCell']) (by unfold maxLen; omega) (by omega) (by simp; omega) ?_; intro v' w5 hown5 hgrow _; obtain ⟨g', cap', rfl⟩ := ownsRow_succ hown5)
      have hown6 := hown5
      rw [nums_succ] at hown6
      have hl5 : w4.heap.size ≤ w5.heap.size := by have := hgrow.size; simp at this; omega
      have hn5 := num32_grown (hn4.below ((Below.refl _ w4).alloc (Nat.le_refl _) (.cells #[.int .u32 ((dgt 1000000000 x k : Nat) : Int)] 57))) hgrow hne4
      have hp5 := (hp4.alloc' _).grown hgrow (own_not hown4 (Nat.lt_succ_self _))
      have hbl5 := (hbl4.alloc hsz (.cells #[.int .u32 ((dgt 1000000000 x k : Nat) : Int)] 57)).grown hgrow (by simp; omega) (fun g hg => by have := (hown4.lt g hg).1; omega)
      go_wp2
      go_roundw
      case rel => exact ⟨k + 1, X / 1000000000, some ⟨wr.heap.size, 0, none⟩, c4, rfl, hn5, Lib.hid (by rw [hX.out, Nat.div_div_eq_div_mul, Nat.pow_succ]), hk9, Lib.hid rfl, hown6, hp5, hbl5⟩
      case measure => show ln 1000000000 x - (k + 1) < ln 1000000000 x - lenV u4; rw [hlv.out]; omega
    · obtain ⟨wo, rfl⟩ : ∃ wo : World, wo = wr := ⟨_, rfl⟩
      obtain rfl : X = 0 := by omega
      rw [ln_zero]
      obtain ⟨p0, p1⟩ := hp3.cells
      obtain ⟨AP, cP, rfl, hcP, hrow⟩ := RowO.of_own hown
      have hpl3 := hp3.lt
      have hkk : k = ln 1000000000 x := by
        have := mt ln9_step.2 (by rw [← hX.out]; decide : ¬ 0 < x / 1000000000 ^ k)
        omega
      have HKK := Lib.hid hkk
      clear hkk
      have hrd : Rd wo.heap.size .u32 wo AP k (dgt9 x) := hrow.rd
      clear hown hp3
      obtain ⟨ie, hie, hy0, hy1, hy2⟩ := info_parts info_u8
      have hbxl : w.heap.size ≤ wo.heap.size := hbl3.size
      go_upto_if 35 with (fail)
      go_cut [] from 36 to 38 (fun wx => ∃ v, Boxed wx wo.heap.size 38 v ∧ wx.ownsRow wo.heap.size 5 1 v (txtS s []).length (bts (txtS s [])) ∧ Below wo.heap.size wo wx)
      case first =>
        have hbox := Boxed.new wo 38 (.slice none 0 0)
        have hnil := World.ownsRow_nil (wo.alloc (.cells #[.slice none 0 0] 38)) wo.heap.size 5 1
        have hbl4 : Below wo.heap.size wo (wo.alloc (.cells #[.slice none 0 0] 38)) := (Below.refl _ wo).alloc (Nat.le_refl _) _
        cases s
        · go_wp2_with fail
          go_meet
          exact ⟨_, hbox, hnil, hbl4⟩
        · have hcn := cell_one_new (wo.alloc (.cells #[.slice none 0 0] 38)) (.int .u8 45) 5
          rw [World.size_alloc] at hcn
          have HCN := Lib.hid hcn
          clear hcn
          go_wp2_with (at_builtin; go_loud (refine wpList_append_own _ rfl _ _ 38 rfl wo.heap.size 5 ie (.int .u8 0) 1 1 Tryd.underlying38 hie hy0 hy1 hy2 rfl (by decide) _ _ _ rfl (hnil.alloc _) ⟨wo.heap.size + 1, 0, none⟩ 1 1 [.int .u8 45] rfl rfl HCN.out (by simp [Value.oneCell']) (by decide) (by decide) (by simp; omega) ?_; intro v' w1 hown' hgrow _; obtain ⟨g', cap', rfl⟩ := ownsRow_succ hown'; obtain ⟨hv1, hv2, hr2, hk2, hb2⟩ := hbox.appended (by decide) hnil (by simp) (Nat.le_refl _) hown' hgrow; have hc1 := hv1.cell; have hf1 := hv1.frozen))
          go_meet
          exact ⟨_, hv2, hr2, hbl4.trans hb2⟩
      case rest =>
        obtain ⟨v0, hbox0, hown0, hbl4⟩ := hcut
        go_wp2_with fail
        refine (callsIn_wide.1 (down_in Fence.wide 4 trivial hro _ _ _ _)).mono ?_
        rintro e w' ⟨rfl, rfl⟩
        go_wp2_with fail
        have bN := Boxed.new wc 54 (.slice AP k cP)
        have bO := hbox0.alloc (.cells #[.slice AP k cP] 54)
        have hB0 : Below wo.heap.size wo (wc.alloc (.cells #[.slice AP k cP] 54)) := hbl4.alloc hbl4.size _
        have hk10 : k ≤ 1024 := by omega
        refine (wpIn_wide (n := 5)).1 ?_
        refine wpIn_rangeFunc_ownG hro (by decide) (gf := 70) (lb := #[.pointer (some ⟨wc.heap.size, 0, none⟩)]) rfl trivial (enters_of Tryd.func70 (by kernel_rfl) rfl)
          (down_stops Fence.wide (5 - 1) trivial hro (by decide) wc.heap.size wo.heap.size k cP AP (dgt9 x) (dgt9_lt x) (by omega) _ (by simp) (by simp; have := hbl4.size; omega) bN.cell (hrd.below hB0)) KpB.t (KpB.b (by simp; have := hbl4.size; omega) (by simp)) (Below.refl _ _) (fun _ => rfl)
          (fun pre W => (∃ v, Boxed W wo.heap.size 38 v ∧ W.ownsRow wo.heap.size 5 1 v (txtS s pre).length (bts (txtS s pre)) ∧ True) ∧ Boxed W wc.heap.size 54 (.slice AP k cP) ∧ Below wo.heap.size wo W)
          (fun _ _ _ => False)
          (OwnFrom.and (Own.from (holdsRow_own wo.heap.size wo.heap.size 38 5 1 (fun pre => (txtS s pre).length) (fun pre => bts (txtS s pre)) (fun _ _ => True)) _) (OwnFrom.and (Own.from (own_boxed wc.heap.size 54 (.slice AP k cP)) _) (ownFrom_below (Nat.le_refl _) (by simp; have := hbl4.size; omega))))
          (fun _ _ _ _ _ hs _ _ => hs)
          ⟨⟨_, bO, hown0.alloc _, trivial⟩, bN, hB0⟩
          (fun y => { tmps := #[.agg #[.bool s, .slice A (ln b16 x) c], .pointer (some ⟨w.heap.size, 0, none⟩), .string ⟨#[]⟩, .int .i64 0, .slice AP k cP, .slice A3 0 c3, u6, u7, .pointer (some ⟨wo.heap.size, 0, none⟩), .int .u32 (y.1 : Int), undef, .agg #[.bool s, .slice A (ln b16 x) c], .bool true, .bool false, .pointer (some ⟨w.heap.size, 1, none⟩), .slice A (ln b16 x) c, .int .i64 (ln b16 x : Nat), .bool false, .pointer (some ⟨w.heap.size, 1, none⟩), .slice A (ln b16 x) c, .slice A2 (ln b32 x) c2, .slice A3 0 c3, .int .i64 0, .bool false, u24, u25, u26, u27, u28, u29, u30, u31, u32, u33, .pointer (some ⟨w.heap.size, 0, none⟩), .bool s, u36, u37, u38, .slice AP k cP, .func (.func 70) #[] #[.pointer (some ⟨wc.heap.size, 0, none⟩)], .int .u32 (y.1 : Int), undef, undef, undef, undef, undef, undef, undef, undef, undef, undef, undef, undef, undef, undef, undef, undef, undef, undef, undef, undef, undef, undef, undef, undef, undef, undef, undef, undef, undef, undef, undef], defers := [] }) ?assign ?body ?done ?stop
        case assign =>
          intro l x W K hK
          gi_wp2
          exact hK
        case body =>
          rintro l pre y W ⟨⟨v, hv, hrow, -⟩, hib, hB⟩ hlt
          have hy := y.2
          have hne : wc.heap.size ≠ wo.heap.size := by have := hbox0.lt; omega
          have htw := htab.below (hbl3.trans (hB.mono hbl3.size))
          have hll := txt_len pre
          have hSl : (txtS s pre).length ≤ 10241 := by unfold txtS; cases s <;> simp <;> omega
          gi_wp2_with fail
          refine ⟨trivial, ?_⟩
          refine (CallsIn.inRound l (callsIn_wide.2 (formatUint_any y.1 (by omega) W htw))).mono ?_
          obtain ⟨D, hD⟩ : ∃ D : ByteArray, D = ⟨(Lib.decDigits y.1).toArray⟩ := ⟨_, rfl⟩
          rw [← hD]
          rintro e W1 ⟨rfl, hb1⟩
          have hDs : D.size = Lib.nDigits y.1 := by rw [hD, ← Lib.decDigits_length]; simp [ByteArray.size]
          have hDd : D.data.toList = Lib.decDigits y.1 := by rw [hD]
          have hD1 := Lib.nDigits_pos y.1
          have hD10 : Lib.nDigits y.1 ≤ 10 := by rw [← Lib.decDigits_length]; exact dec_len_le hy
          rw [← hDs] at hD1 hD10
          have HD := Lib.hid hDd
          have HDS := Lib.hid hDs
          clear hD hDd hDs htw
          have hv1 : Boxed W1 wo.heap.size 38 v := (hb1.block _ hv.lt).trans hv
          have hib1 : Boxed W1 wc.heap.size 54 (.slice AP k cP) := (hb1.block _ hib.lt).trans hib
          have hrow1 := own_below hrow hb1 (Nat.le_refl _)
          have hKO := keepsOthers_of_below hb1
          have hKB : KpB wo.heap.size wc.heap.size W W1 := ⟨hb1.mono hB.size, hb1.block _ hib.lt⟩
          have hB1 := hB.trans (hb1.mono hB.size)
          have hW1 := hB1.size
          have hcase : (txt pre = [] ∧ s = false) ∨ (txt pre = [] ∧ s = true) ∨ (txt pre ≠ [] ∧ 1 < (txtS s pre).length) ∨ (txt pre ≠ [] ∧ (txtS s pre).length = 1) := by
            by_cases ht : txt pre = []
            · cases s
              · exact .inl ⟨ht, rfl⟩
              · exact .inr (.inl ⟨ht, rfl⟩)
            · have hp : 1 ≤ (txtS s pre).length := by unfold txtS; rw [List.length_append]; have := List.length_pos_iff.2 ht; omega
              rcases Nat.lt_or_ge 1 (txtS s pre).length with h1 | h1
              · exact .inr (.inr (.inl ⟨ht, h1⟩))
              · exact .inr (.inr (.inr ⟨ht, by omega⟩))
          obtain ⟨Av, cv, rfl, hvc⟩ := own_val hrow1
          have hc := hv1.cell
          clear hv hrow hib hb1
          rcases hcase with ⟨ht, hs⟩ | ⟨ht, hs⟩ | ⟨ht, hn⟩ | ⟨ht, hn⟩
          · have hn : (txtS s pre).length = 0 := by rw [txtS, ht, hs]; rfl
            have HFIN := Lib.hid (txtS_first (s := s) y ht)
            have HN := Lib.hid hn
            have HS := Lib.hid hs
            rw [hn] at hc hrow1 hv1
            clear hvc ht hn hs hSl hll
            gi_wp2_with (gi_at_builtin; refine wpListIn_append_str _ rfl _ _ 38 9 rfl wo.heap.size 5 ie Tryd.underlying38 Tryd.underlying9 hie hy0 hy1 hy2 _ _ _ rfl hrow1 D rfl (by unfold maxLen; omega) (by omega) hW1 ?_; intro v' w5 hown5 hgrow; rw [Nat.zero_add] at hown5; obtain ⟨A5, c5, rfl, -⟩ := own_val hown5; obtain ⟨hv5, hv6, hr6, hk6, hb6⟩ := Boxed.appended0 hv1 (by decide) hrow1 hW1 (Nat.le_refl _) hown5 hgrow; have hs6 := Boxed.apart hib1 (v' := .slice A5 D.size c5) (by decide) hrow1 hne hgrow; have hc5 := hv5.cell; have hf5 := hv5.frozen)
            exact ⟨(hKO.trans hk6).from _, hKB.t ⟨hb6, hs6⟩, ⟨_, hv6, fin_row (by rw [HFIN.out, HD.out]) HN.out.symm (by rw [Nat.zero_add]; exact hr6), trivial⟩, hs6.trans hib1, hB1.trans hb6⟩
          · have hn : (txtS s pre).length = 1 := by rw [txtS, ht, hs]; rfl
            have HFIN := Lib.hid (txtS_first (s := s) y ht)
            have HN := Lib.hid hn
            have hx45 : (bts (txtS s pre))[0]? = some (.int .u8 45) := by rw [txtS, ht, hs]; rfl
            rw [hn] at hc hrow1 hv1 hvc
            obtain ⟨g, rfl, hg, hgc⟩ := hvc (by decide)
            have c45 := hgc 0 _ hx45
            have HS := Lib.hid hs
            clear hgc hvc ht hn hs hSl hll hx45
            gi_wp2_with (gi_at_builtin; refine wpListIn_append_str _ rfl _ _ 38 9 rfl wo.heap.size 5 ie Tryd.underlying38 Tryd.underlying9 hie hy0 hy1 hy2 _ _ _ rfl hrow1 D rfl (by unfold maxLen; omega) (by omega) hW1 ?_; intro v' w5 hown5 hgrow; obtain ⟨A5, c5, rfl, -⟩ := own_val hown5; obtain ⟨hv5, hv6, hr6, hk6, hb6⟩ := Boxed.appended0 hv1 (by decide) hrow1 hW1 (Nat.le_refl _) hown5 hgrow; have hs6 := Boxed.apart hib1 (v' := .slice A5 (1 + D.size) c5) (by decide) hrow1 hne hgrow; have hc5 := hv5.cell; have hf5 := hv5.frozen)
            exact ⟨(hKO.trans hk6).from _, hKB.t ⟨hb6, hs6⟩, ⟨_, hv6, fin_row (by rw [HFIN.out, HD.out]) HN.out.symm hr6, trivial⟩, hs6.trans hib1, hB1.trans hb6⟩
          · have HFIN := Lib.hid (txtS_more (s := s) y ht)
            have t1 : (1 : Int) < ((txtS s pre).length : Int) := by omega
            have HN1 : Hid ((txtS s pre).length = (txtS s pre).length + 0) := Lib.hid rfl
            clear hvc ht
            gi_wp2_with fail
            gi_loopw [62] (fun i wr => ∃ j v q, i = .int .i64 ((j : Nat) : Int) ∧ j ≤ 9 - D.size ∧ q ≤ 20000 ∧ Hid (q = (txtS s pre).length + j) ∧ Boxed wr wo.heap.size 38 v ∧ wr.ownsRow wo.heap.size 5 1 v q (bts (txtS s pre ++ List.replicate j 48)) ∧ Boxed wr wc.heap.size 54 (.slice AP k cP) ∧ KeepsOthers W wr ∧ KpB wo.heap.size wc.heap.size W wr ∧ Below wo.heap.size wo wr) (fun i _ => 9 - (intOf i).toNat)
            case atStart => exact ⟨0, _, _, rfl, Nat.zero_le _, by omega, Lib.hid HN1.out, hv1, by rw [List.replicate_zero, List.append_nil]; exact hrow1, hib1, hKO, hKB, hB1⟩
            case round =>
              obtain ⟨j, v, q, rfl, hj, hq2, hq, hvj, hrowj, hibj, hKOj, hKBj, hBj⟩ := hrel
              have hwj := hBj.size
              have hcj := hvj.cell
              clear hc hv1 hrow1 hib1 hKO hKB hB1
              by_cases hlt : j < 9 - D.size
              · have tj : ((j : Int) < 9 - (D.size : Int)) := by omega
                gi_wp2_with (gi_at_builtin; refine wpListIn_append_own _ rfl _ _ 38 rfl wo.heap.size 5 ie (.int .u8 0) 1 1 Tryd.underlying38 hie hy0 hy1 hy2 rfl (by decide) _ _ _ rfl (hrowj.alloc _) ⟨wr.heap.size, 0, none⟩ 1 1 [.int .u8 48] rfl rfl (cell_one_new _ _ _) (by simp [Value.oneCell']) (by unfold maxLen; omega) (by omega) (by simp; omega) ?_; intro v' w5 hown5 hgrow _; obtain ⟨g', cap', rfl⟩ := ownsRow_succ hown5; obtain ⟨hv5, hv6, hr6, hk6, hb6⟩ := hvj.appended (by decide) hrowj hwj (Nat.le_refl _) hown5 hgrow; have hs6 := Boxed.apart (hibj.alloc (.cells #[.int .u8 48] 5)) (v' := .slice (some ⟨g', 0, none⟩) (q + 1) cap') (by decide) (hrowj.alloc _) hne hgrow; have hc5 := hv5.cell; have hf5 := hv5.frozen)
                go_roundw
                case rel =>
                  have hs7 := hs6.trans (Below.heap_alloc wr (.cells #[.int .u8 48] 5) _ hibj.lt)
                  rw [bts_pad] at hr6
                  exact ⟨j + 1, _, q + 1, by go_num, by omega, by have := hq.out; omega, Lib.hid (by rw [hq.out]; omega), hv6, hr6, hs7.trans hibj, hKOj.trans hk6, hKBj.t ⟨hb6, hs7⟩, hBj.trans hb6⟩
                case measure => simp [intOf]; omega
              · have tj : ¬ ((j : Int) < 9 - (D.size : Int)) := by omega
                obtain ⟨Av, cv, rfl, -⟩ := own_val hrowj
                gi_wp2_with (gi_at_builtin; refine wpListIn_append_str _ rfl _ _ 38 9 rfl wo.heap.size 5 ie Tryd.underlying38 Tryd.underlying9 hie hy0 hy1 hy2 _ _ _ rfl hrowj D rfl (by unfold maxLen; omega) (by omega) hwj ?_; intro v' w5 hown5 hgrow; obtain ⟨A5, c5, rfl, -⟩ := own_val hown5; obtain ⟨hv5, hv6, hr6, hk6, hb6⟩ := Boxed.appended0 hvj (by decide) hrowj hwj (Nat.le_refl _) hown5 hgrow; have hs6 := Boxed.apart hibj (v' := .slice A5 (q + D.size) c5) (by decide) hrowj hne hgrow; have hc5 := hv5.cell; have hf5 := hv5.frozen)
                exact ⟨(hKOj.trans hk6).from _, hKBj.t ⟨hb6, hs6⟩, ⟨_, hv6, fin_row (T' := txtS s (pre ++ [y])) (T := txtS s pre ++ List.replicate j 48) (by rw [HFIN.out, HD.out, ← HDS.out, show j = 9 - D.size by omega]) (by rw [List.length_append, List.length_replicate]; exact hq.out) hr6⟩, hs6.trans hibj, hBj.trans hb6⟩
          · have HFIN := Lib.hid (txtS_more (s := s) y ht)
            have HN0 : 1 = (txtS s pre).length + 0 := hn.symm
            obtain ⟨c1, hx0, hc48⟩ := txtS_one ht hn
            have t3 : ((c1 : Int) != 45) = true := bne_iff_ne.2 (by omega)
            rw [hn] at hc hrow1 hv1 hvc
            obtain ⟨g, rfl, hg, hgc⟩ := hvc (by decide)
            have c45 := hgc 0 _ hx0
            have HN1 := Lib.hid HN0
            clear hgc hvc ht hn hx0 HN0 hll
            gi_wp2_with fail
            gi_loopw [62] (fun i wr => ∃ j v q, i = .int .i64 ((j : Nat) : Int) ∧ j ≤ 9 - D.size ∧ q ≤ 20000 ∧ Hid (q = (txtS s pre).length + j) ∧ Boxed wr wo.heap.size 38 v ∧ wr.ownsRow wo.heap.size 5 1 v q (bts (txtS s pre ++ List.replicate j 48)) ∧ Boxed wr wc.heap.size 54 (.slice AP k cP) ∧ KeepsOthers W wr ∧ KpB wo.heap.size wc.heap.size W wr ∧ Below wo.heap.size wo wr) (fun i _ => 9 - (intOf i).toNat)
            case atStart => exact ⟨0, _, _, rfl, Nat.zero_le _, by omega, Lib.hid HN1.out, hv1, by rw [List.replicate_zero, List.append_nil]; exact hrow1, hib1, hKO, hKB, hB1⟩
            case round =>
              obtain ⟨j, v, q, rfl, hj, hq2, hq, hvj, hrowj, hibj, hKOj, hKBj, hBj⟩ := hrel
              have hwj := hBj.size
              have hcj := hvj.cell
              clear hc hv1 hrow1 hib1 hKO hKB hB1
              by_cases hlt : j < 9 - D.size
              · have tj : ((j : Int) < 9 - (D.size : Int)) := by omega
                gi_wp2_with (gi_at_builtin; refine wpListIn_append_own _ rfl _ _ 38 rfl wo.heap.size 5 ie (.int .u8 0) 1 1 Tryd.underlying38 hie hy0 hy1 hy2 rfl (by decide) _ _ _ rfl (hrowj.alloc _) ⟨wr.heap.size, 0, none⟩ 1 1 [.int .u8 48] rfl rfl (cell_one_new _ _ _) (by simp [Value.oneCell']) (by unfold maxLen; omega) (by omega) (by simp; omega) ?_; intro v' w5 hown5 hgrow _; obtain ⟨g', cap', rfl⟩ := ownsRow_succ hown5; obtain ⟨hv5, hv6, hr6, hk6, hb6⟩ := hvj.appended (by decide) hrowj hwj (Nat.le_refl _) hown5 hgrow; have hs6 := Boxed.apart (hibj.alloc (.cells #[.int .u8 48] 5)) (v' := .slice (some ⟨g', 0, none⟩) (q + 1) cap') (by decide) (hrowj.alloc _) hne hgrow; have hc5 := hv5.cell; have hf5 := hv5.frozen)
                go_roundw
                case rel =>
                  have hs7 := hs6.trans (Below.heap_alloc wr (.cells #[.int .u8 48] 5) _ hibj.lt)
                  rw [bts_pad] at hr6
                  exact ⟨j + 1, _, q + 1, by go_num, by omega, by have := hq.out; omega, Lib.hid (by rw [hq.out]; omega), hv6, hr6, hs7.trans hibj, hKOj.trans hk6, hKBj.t ⟨hb6, hs7⟩, hBj.trans hb6⟩
                case measure => simp [intOf]; omega
              · have tj : ¬ ((j : Int) < 9 - (D.size : Int)) := by omega
                obtain ⟨Av, cv, rfl, -⟩ := own_val hrowj
                gi_wp2_with (gi_at_builtin; refine wpListIn_append_str _ rfl _ _ 38 9 rfl wo.heap.size 5 ie Tryd.underlying38 Tryd.underlying9 hie hy0 hy1 hy2 _ _ _ rfl hrowj D rfl (by unfold maxLen; omega) (by omega) hwj ?_; intro v' w5 hown5 hgrow; obtain ⟨A5, c5, rfl, -⟩ := own_val hown5; obtain ⟨hv5, hv6, hr6, hk6, hb6⟩ := Boxed.appended0 hvj (by decide) hrowj hwj (Nat.le_refl _) hown5 hgrow; have hs6 := Boxed.apart hibj (v' := .slice A5 (q + D.size) c5) (by decide) hrowj hne hgrow; have hc5 := hv5.cell; have hf5 := hv5.frozen)
                exact ⟨(hKOj.trans hk6).from _, hKBj.t ⟨hb6, hs6⟩, ⟨_, hv6, fin_row (T' := txtS s (pre ++ [y])) (T := txtS s pre ++ List.replicate j 48) (by rw [HFIN.out, HD.out, ← HDS.out, show j = 9 - D.size by omega]) (by rw [List.length_append, List.length_replicate]; exact hq.out) hr6⟩, hs6.trans hibj, hBj.trans hb6⟩
        case done =>
          rintro D ys W hD rfl ⟨⟨v, hv, hrow, -⟩, -, hB⟩ hK
          have hc := hv.cell
          have hT : txtS s (dn 4294967296 (dgt9 x) (dgt9_lt x) k k) = numeral s x := by
            unfold txtS numeral
            rw [HKK.out, txt_all hx]
          rw [hT] at hrow
          have hTl : 0 < (numeral s x).length := by unfold numeral; rw [List.length_append]; have := dec_len_pos x; omega
          obtain ⟨T, hT2⟩ : ∃ T, T = numeral s x := ⟨_, rfl⟩
          rw [← hT2] at hrow hTl
          have HT2 := Lib.hid hT2
          clear hT hT2
          obtain ⟨Av, cv, rfl, hvc⟩ := own_val hrow
          obtain ⟨g, rfl, hg, hgc⟩ := hvc hTl
          have hcv : (convert 38 9 (.slice (some ⟨g, 0, none⟩) T.length cv)).run Tryd.prog W = .ok (.string ⟨T.toArray⟩) W :=
            run_convert_bytes_back (P := Tryd.prog) W 38 9 5 ⟨g, 0, none⟩ cv T Tryd.underlying38 Tryd.underlying5 Tryd.underlying9 (fun j hj => by
              rw [Lib.add_plain, Nat.zero_add]
              exact hgc j _ (by simp [bts, hj]))
          clear hgc hvc
          go_wp2
          refine ⟨by simp, .inl ⟨_, _, rfl, run_takeDeferred hK, ?_⟩⟩
          have hbW := hbl3.trans (hB.mono hbl3.size)
          have hDw : w.heap.size ≤ D := by have := hbl4.size; simp at hD; omega
          exact ⟨_, results_tmp2 rfl _ _ _, by rw [HT2.out]; rfl, hbW.trans (belowK_b (w := w) (Nat.le_refl _) W D _ _ hDw hK rfl rfl)⟩
        case stop =>
          rintro D c pre W _ _ h _
          exact h.elim
end Go.Proofs.YtafglggjncnkkaaDoor
