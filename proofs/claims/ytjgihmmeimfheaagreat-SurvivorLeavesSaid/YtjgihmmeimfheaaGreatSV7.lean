/-
  slices.Clone of indexed claims; survivor.units as an iterator.
-/
import Derived.RangeFuncCalls
import Derived.RangeFuncLeaves
import Derived.RangeFuncBox
import Derived.Shelf.Abstract
import Derived.Shelf.RegionOpen
import Derived.OwnWalkIn
import Derived.TacticsInMore
import Derived.LoopNIn
import Derived.LoopIn
import Derived.Test.YtjgihmmeimfheaaGreatK2
import Derived.Test.YtjgihmmeimfheaaGreatSV6
namespace Go.Proofs.YtjgihmmeimfheaaGreat
open Go.RowKit
open Go.Shelf
attribute [local go_sem] Oper.semAt_some

theorem row_copy {g n cap : Nat} {E : Nat → List Value} {W : World} (hR : Rw 76 11 g n cap E W) (h0 : 0 < n) (hn : n ≤ 1000) :
  ∃ cap' W', (Builtin.append_ #[71, 71] 71 #[.slice (some ⟨W.heap.size, 0, none⟩) 0 0, .slice (some ⟨g, 0, none⟩) n cap]).run Tryz.prog (W.alloc (.cells #[] 76)) = .ok (.slice (some ⟨W.heap.size + 1, 0, none⟩) n cap') W' ∧ Rw 76 11 (W.heap.size + 1) n cap' E W' ∧ Below W.heap.size W W' := by
 obtain ⟨i, hi, hz, hs, hby⟩ := info_parts ixElem.info
 have hbA := belAlloc W (.cells #[] 76)
 have hR2 := hR.below hbA
 obtain ⟨h1, h2, cs, h3, h4, h5, h6⟩ := hR2
 obtain ⟨V, hV⟩ : ∃ V, V = W.alloc (.cells #[] 76) := ⟨_, rfl⟩
 have hVs : V.heap.size = W.heap.size + 1 := by rw [hV, World.size_alloc]
 rw [← hV] at h3 hbA ⊢
 have hnm : n * 11 ≤ cap * 11 := Nat.mul_le_mul_right 11 h1
 have hlt : (cs.toList.take (n * 11)).length = n * 11 := by rw [List.length_take, Array.length_toList, h4]; omega
 have hr := run_append_grow (P := Tryz.prog) V 71 71 76 i ixElem.z ixElem.und hi hz ⟨W.heap.size, 0, none⟩ 0 0 [] (by simp) (fun j u hu => by simp at hu) ⟨g, 0, none⟩ n cap (cs.toList.take (n * 11)) (by rw [hlt, hs]) (fun j u hu => by
   have hj : j < n * 11 := by
    have := (List.getElem?_eq_some_iff.1 hu).1
    omega
   rw [Addr.add_mid, Nat.zero_add, h3.cell]
   rw [List.getElem?_take_of_lt hj, Array.getElem?_toList] at hu
   exact hu) (by omega) (by omega) (growslice_fits (by omega) (by rw [hby]; show (0 + n) * 152 ≤ _; omega))
 rw [Nat.zero_add] at hr
 have hge := grownCap_ge V n 0 76
 have hcm := grownCap_le_maxLen V n 0 76 (show n ≤ maxLen by unfold maxLen; omega)
 rw [← hVs]
 refine ⟨_, _, hr, ⟨hge, hcm, _, heap_alloc_new V.drew _, ?_, ?_, ?_⟩, ?_⟩
 ·
  simp only [Array.size_append, List.size_toArray, size_zeroCells, ixElem.size, hlt, List.length_nil]
  omega
 ·
  refine no_limbs (olds := cs.toList.take (n * 11)) (x := []) (fun v hv => ?_) (fun v hv => absurd hv (by simp)) (zeros_noL (z := ixElem.z.cells) ixElem.noL (by decide) (k := grownCap V n 0 76 - n)) (by simp)
  obtain ⟨j, hj⟩ := List.getElem?_of_mem (List.mem_of_mem_take hv)
  exact h5 j v (by simpa using hj)
 ·
  intro k hk j hj
  have hkj := mul_in (m := 11) hk hj
  have h7 := h6 k hk j hj
  rw [← h7, ← Array.getElem?_toList]
  simp only [Array.toList_append, List.nil_append]
  rw [List.getElem?_append_left (by rw [hlt]; exact hkj), List.getElem?_take_of_lt hkj, Array.getElem?_toList]
 · exact hbA.trans (((Below.refl _ V).drew.alloc (by simp) _).mono hbA.size)
set_option maxRecDepth 100000 in
set_option maxHeartbeats 1000000 in
theorem clone_ix {g n cap : Nat} {E : Nat → List Value} {W : World} (hR : Rw 76 11 g n cap E W) (h0 : 0 < n) (hn : n ≤ 1000) :
  Calls Tryz.prog 80 #[.slice (some ⟨g, 0, none⟩) n cap] W fun e W' => ∃ g' cap', e = .returned (.slice (some ⟨g', 0, none⟩) n cap') ∧ W.heap.size ≤ g' ∧ Rw 76 11 g' n cap' E W' ∧ Below W.heap.size W W' := by
 have qT : ∀ (w : World) (a : Option Addr) (n c n' c' : Nat), (binOp .eql 71 (.slice a n c) (.slice none n' c')).run Tryz.prog w = .ok (.bool a.isNone) w := fun w a n c n' c' => Lib.run_eql_slice_nil w _ _ a n c n' c' Tryz.underlying71
 obtain ⟨cap', W', hr, h1, h2⟩ := row_copy hR h0 hn
 have H1 := Lib.hid (And.intro h1 h2)
 clear h1 h2 hR
 go_enter Tryz.func80, Tryz.ntmps80
 go_wp2_with (first | refine wpList_appP hr rfl rfl rfl rfl ?_)
 go_ret
 exact ⟨_, cap', rfl, Nat.le_succ _, H1.out.1, H1.out.2⟩
set_option maxRecDepth 100000 in
set_option maxHeartbeats 1000000 in
theorem clone_ix0 (a : Addr) (c : Nat) (W : World) : Calls Tryz.prog 80 #[.slice (some a) 0 c] W fun e W' => ∃ A' c', e = .returned (.slice A' 0 c') ∧ Below W.heap.size W W' := by
 have qT : ∀ (w : World) (a : Option Addr) (n c n' c' : Nat), (binOp .eql 71 (.slice a n c) (.slice none n' c')).run Tryz.prog w = .ok (.bool a.isNone) w := fun w a n c n' c' => Lib.run_eql_slice_nil w _ _ a n c n' c' Tryz.underlying71
 obtain ⟨i, hi, hz, hs, hby⟩ := info_parts ixElem.info
 obtain ⟨v', w', hr, ho, hg, -⟩ := run_append_own (P := Tryz.prog) (W.alloc (.cells #[] 76)) W.heap.size 71 71 76 i ixElem.z 11 152 ixElem.und hi hz hs hby ixElem.size (by decide) (.slice (some ⟨W.heap.size, 0, none⟩) 0 0) 0 [] (World.ownsRow_made W #[] 0 (Nat.le_refl _) (by decide) rfl) a 0 c [] (by simp) (fun j u hu => by simp at hu) (fun u hu => absurd hu (by simp)) (by decide) (by decide) (by simp)
 have hv : ∃ A' c', v' = .slice A' 0 c' := by
  rcases ho.2 with ⟨e, -⟩ | ⟨g, cap, cur, e, -⟩
  · exact ⟨_, _, e⟩
  · exact ⟨_, _, e⟩
 obtain ⟨A', c', rfl⟩ := hv
 have HB := Lib.hid (((Below.refl _ W).alloc (Nat.le_refl _) (.cells #[] 76)).grown hg (by simp) (fun k e => by cases e; exact Nat.le_refl _))
 clear ho hg
 go_enter Tryz.func80, Tryz.ntmps80
 go_wp2_with (first | refine wpList_appP hr rfl rfl rfl rfl ?_)
 go_ret
 exact ⟨A', c', rfl, HB.out⟩
theorem sunits_v (s : Value) (L : Int) (h1 : ∃ A n c, s = .slice A n c) (w : World) : Calls Tryz.prog 45 #[s, .int .i64 L] w fun e w' => e = .returned (.func (.func 79) #[] #[.pointer (some ⟨w.heap.size, 0, none⟩), .pointer (some ⟨w.heap.size + 1, 0, none⟩)]) ∧ w' = (w.alloc (.cells #[s] 71)).alloc (.cells #[.int .i64 L] 3) := by
 obtain ⟨A, n, c, rfl⟩ := h1
 go_enter Tryz.func45, Tryz.ntmps45
 go_wp2_with fail
 go_ret
 exact ⟨by simp, rfl⟩
/-- What a round of a range over units keeps: all cells but those of the block gP. -/
def KpC (gP : Nat) (W W' : World) : Prop := ∀ (k : Nat) (o : Obj), k ≠ gP → W.heap[k]? = some o → o.isCells = true → W'.heap[k]? = some o
theorem KpC.t {gP : Nat} {A B C : World} (h : KpC gP A B) (k : KpC gP B C) : KpC gP A C := fun i o hi ho hc => k i o hi (h i o hi ho hc) hc
theorem KpC.b {gP : Nat} (W : World) (l : Nat) (o o' : Obj) (h : W.heap[l]? = some o) (h1 : o.isCells = false) : KpC gP W (W.putObj l o') := fun i o2 _ ho hc => by
 rw [World.putObj_heap_other (fun e => by subst e; rw [h] at ho; cases ho; rw [h1] at hc; cases hc)]
 exact ho
theorem KpC.blk {gP : Nat} {W W' : World} (h : KpC gP W W') {t : TypeId} {g : Nat} {cs : Array Value} (hB : Blk t g cs W) (hg : g ≠ gP) : Blk t g cs W' := h g _ hg hB rfl
theorem KpC.rw_ {gP : Nat} {W W' : World} (h : KpC gP W W') {T : TypeId} {m g n cap : Nat} {e : Nat → List Value} (hR : Rw T m g n cap e W) (hg : g ≠ gP) : Rw T m g n cap e W' := by
 obtain ⟨h1, h2, cs, h3, h4⟩ := hR
 exact ⟨h1, h2, cs, h.blk h3 hg, h4⟩
/-- The order of those who lost: who lost more is first. -/
def lkey (q : Nat → Rat) (j : Nat) : Rat := -q j
def ixL (r : Nat → Cl) (lo : Nat → FH) (j : Nat) : List Value := ixC (r j) ((j : Nat) : Int) (lo j)
theorem cmp_lost {r : Nat → Cl} {lo : Nat → FH} {n : Nat} {q : Nat → Rat} {V : World} (hq : FqS lo n q V) (hl : ∀ j, j < n → fl (q j) ≤ 256) : CmpK 82 n (ixL r lo) (lkey q) V := fun a b ha hb => by
 refine (slost_v (x := r a) (y := r b) (i := (a : Int)) (j := (b : Int)) (hq a ha) (hq b hb) (hl a ha) (hl b hb)).mono ?_
 rintro e V' ⟨rfl, hb2⟩
 refine ⟨_, rfl, ?_, hb2⟩
 rw [cmpQ_val]
 unfold lkey
 split
 · rename_i h; exact ⟨fun _ => by grind, fun _ => by decide⟩
 · rename_i h; exact ⟨fun h2 => absurd h2 (by split <;> decide), fun h2 => absurd (by grind) h⟩
set_option linter.unusedSimpArgs false in
set_option maxRecDepth 100000 in
set_option maxHeartbeats 4000000 in
theorem units1_in {m : Nat} (hm : 2 ≤ m) {gX n capX L gP Bs Bl : Nat} {r : Nat → Cl} {lo : Nat → FH} {q : Nat → Rat} {w0 : World} (hBs : Blk 71 Bs #[.slice (some ⟨gX, 0, none⟩) n capX] w0) (hBl : Blk 3 Bl #[.int .i64 (L : Int)] w0) (hR : Rw 76 11 gX n capX (ixL r lo) w0) (hq : FqS lo n q w0) (hl : ∀ j, j < n → fl (q j) ≤ 256) (hLn : L ≤ n) (hn : n ≤ 10) (hgP : gP < w0.heap.size) (hBP : Bl ≠ gP)
  (l : Nat) (J Jx : List Nat → World → Prop) (W : World) (hW : Below w0.heap.size w0 W) (hA : AbidesFrom W.heap.size J)
  (hY : ∀ pre x W1, J pre W1 → x < n → pre.length < L → YieldAt Fence.wide (m - 1) Tryz.prog l #[.int .i64 (x : Int)] W1 fun e W' => (e = .returned (.bool true) ∧ J (pre ++ [x]) W' ∧ KpC gP W1 W') ∨ (e = .returned (.bool false) ∧ Jx (pre ++ [x]) W'))
  (h0 : J [] W) :
  CallsIn Fence.wide m Tryz.prog 79 #[.func (.yield l) #[] #[], .pointer (some ⟨Bs, 0, none⟩), .pointer (some ⟨Bl, 0, none⟩)] W fun e W' => (∃ v, e = .returned v) ∧ ((∃ xs, (fun xs => ∃ p, Srd n (lkey q) n p ∧ xs = ((List.range n).map p).take L) xs ∧ J xs W') ∨ (∃ pre, (fun _ => True) pre ∧ Jx pre W')) := by
 have hro : Fence.wide.round = none := rfl
 have hBsW := hBs.below hW hBs.lt
 have hBlW := hBl.below hW hBl.lt
 have hRW := hR.below hW
 have hqW := FqS.stable _ _ _ _ _ hW hq
 have hgW : gP < W.heap.size := Nat.lt_of_lt_of_le hgP hW.size
 have kS := hBsW.c1
 have HhY := Lib.hid hY
 clear hY
 have HhA := Lib.hid hA
 clear hA
 have HhRW := Lib.hid hRW
 clear hRW
 have HhqW := Lib.hid hqW
 clear hqW
 have HhBsW := Lib.hid hBsW
 clear hBsW
 have HhBlW := Lib.hid hBlW
 clear hBlW
 have Hhl := Lib.hid hl
 clear hl
 clear hBs hBl hR hq
 refine callsIn_of_wp Tryz.func79 rfl trivial ?_ hro
 simp only [Tryz.ntmps79, List.size_toArray, List.length_cons, List.length_nil, Nat.reduceAdd, Nat.reduceSub, Array.replicate_succ, Array.replicate_zero, List.push_toArray, List.append_toArray, List.nil_append, List.cons_append]
 refine wpIn_wide.2 ?_
 go_wp2_with fail
 by_cases h0n : n = 0
 ·
  subst h0n
  obtain rfl : L = 0 := by omega
  refine (clone_ix0 _ _ _).mono ?_
  rintro e W1 ⟨A', c', rfl, hb1⟩
  have hB1 := Blk.below HhBlW.out hb1 HhBlW.out.lt
  have HJ := Lib.hid (HhA.out [] W W1 none h0 (grown_of_below hb1) (fun _ e => by cases e))
  clear kS hb1
  have kL := hB1.c1
  go_wp2_with fail
  refine (ssort_nil _ _ _ _).mono ?_
  rintro e W2 ⟨⟨v, rfl⟩, rfl⟩
  go_wp2_with fail
  go_loopw [5] (fun x wr => x = .int .i64 0 ∧ wr = W2) (fun _ _ => 0)
  case atStart => exact ⟨rfl, rfl⟩
  case round =>
   obtain ⟨rfl, rfl⟩ := hrel
   go_wp2_with fail
   go_end0
   exact ⟨⟨_, rfl⟩, .inl ⟨[], ⟨fun j => j, (Srd.start 0 _).full (Nat.zero_le 1), rfl⟩, HJ.out⟩⟩
 refine (clone_ix HhRW.out (by omega) (by omega)).mono ?_
 rintro e W1 ⟨gS, capS, rfl, hgS, hRS, hb1⟩
 have hC := ssort_v (w := W) (cap := capS) (gf := 82) hb1 hgS hRS (fun j _ => ⟨rfl, ixC_ok _ _ _⟩) (by omega) (enters_of Tryz.func82 (by kernel_rfl) rfl) (fun V hV => cmp_lost (r := r) ((FqS.stable _ _ _ _ _ hb1 HhqW.out).row hRS hV) Hhl.out) (by omega)
 have HC := Lib.hid hC
 have H1 := Lib.hid (And.intro hRS hb1)
 clear hC hRS hb1 kS
 go_wp2_with fail
 refine HC.out.mono ?_
 clear HC
 rintro e W2 ⟨⟨v, rfl⟩, p, hp, hR2, hK⟩
 obtain ⟨-, hb1⟩ := H1.out
 clear H1
 have hg2 : W.grownBy W2 none := ⟨hK.os.trans hb1.os, hK.tape.trans hb1.tape, hK.output.trans hb1.output, Nat.le_trans hb1.size hK.size, fun k hk _ => (hK.block k (Nat.lt_of_lt_of_le hk hb1.size) (fun e => by cases e; omega)).trans (hb1.block k hk)⟩
 have hJ0 := HhA.out [] W W2 none h0 hg2 (fun _ e => by cases e)
 have hL2 : Blk 3 Bl #[.int .i64 (L : Int)] W2 := (hg2.block Bl HhBlW.out.lt (fun e => by cases e)).trans HhBlW.out
 have hne : gS ≠ gP := by omega
 have hlen : ((List.range n).map p).length = n := by simp
 have hget : ∀ k, k < n → ((List.range n).map p)[k]? = some (p k) := fun k hk => by rw [List.getElem?_map, List.getElem?_range hk]; rfl
 obtain ⟨Sl, hSl⟩ : ∃ l, l = (List.range n).map p := ⟨_, rfl⟩
 rw [← hSl] at hlen hget
 have hpn := hp.1.1
 have Hhget := Lib.hid hget
 clear hget
 have HhSl := Lib.hid hSl
 clear hSl
 have Hhp := Lib.hid hp
 clear hp
 have Hhpn := Lib.hid hpn
 clear hpn
 clear hg2 hK hb1
 go_wp2_with fail
 go_loopw [5] (fun x wr => ∃ k : Nat, k ≤ L ∧ x = .int .i64 (k : Int) ∧ J (Sl.take k) wr ∧ Rw 76 11 gS n capS (fun j => ixL r lo (p j)) wr ∧ Blk 3 Bl #[.int .i64 (L : Int)] wr) (fun x _ => L - (intOf x).toNat)
 case atStart => exact ⟨0, Nat.zero_le _, rfl, hJ0, hR2, hL2⟩
 case round =>
  clear hJ0 hR2 hL2
  obtain ⟨k, hk, rfl, hJ, hR, hB⟩ := hrel
  have kL := hB.c1
  by_cases hlt : k < L
  ·
   have hkn : k < n := by omega
   have c6 := hR.cell (k := k) (i := 6) (o := k * 11 + 6) (v := .int .i64 ((p k : Nat) : Int)) hkn (by decide) rfl rfl
   have t1 : decide ((k : Int) < (L : Int)) = true := decide_eq_true (by omega)
   have t2 : decide ((k : Int) < (n : Int)) = true := decide_eq_true (by omega)
   have t3 : (k : Int) < (n : Int) := by omega
   go_upto_region 5 with (fail)
   clear t1 t2
   obtain ⟨fn, tmps, assign, body, hy, hRr⟩ := HhY.out (Sl.take k) (p k) wr hJ (Hhpn.out k hkn) (by rw [List.length_take]; omega)
   refine (wpIn_wide (n := m)).1 ?_
   gi_wp2
   refine ⟨fun _ => by omega, hRr.mono ?_⟩
   rintro e W3 (⟨rfl, hJ3, hk3⟩ | ⟨rfl, hJx3⟩)
   ·
    have hR3 := hk3.rw_ hR hne
    have hB3 := hk3.blk hB hBP
    have htk : Sl.take (k + 1) = Sl.take k ++ [p k] := by rw [List.take_add_one, Hhget.out k hkn]; rfl
    rw [← htk] at hJ3
    have HF := Lib.hid (And.intro hJ3 (And.intro hR3 hB3))
    clear hR3 hB3 hJ3 c6 kL htk hy hRr
    gi_wp2
    go_wp2_with fail
    go_roundw
    case rel => exact ⟨k + 1, by omega, by (try simp) <;> norm_cast, HF.out.1, HF.out.2.1, HF.out.2.2⟩
    case measure => simp [intOf]; omega
   ·
    gi_wp2
    go_wp2_with fail
    refine bodyPost_ret (results_none rfl _ _ _) rfl ?_
    exact ⟨⟨_, rfl⟩, .inr ⟨_, trivial, hJx3⟩⟩
  ·
   obtain rfl : k = L := by omega
   have t1 : decide ((k : Int) < (k : Int)) = false := decide_eq_false (by omega)
   go_wp2_with fail
   go_end0
   exact ⟨⟨_, rfl⟩, .inl ⟨_, ⟨p, Hhp.out, by rw [HhSl.out]⟩, hJ⟩⟩
theorem units_seq {m : Nat} (hm : 2 ≤ m) {gX n capX L gP Bs Bl : Nat} {r : Nat → Cl} {lo : Nat → FH} {q : Nat → Rat} {w0 : World} (hBs : Blk 71 Bs #[.slice (some ⟨gX, 0, none⟩) n capX] w0) (hBl : Blk 3 Bl #[.int .i64 (L : Int)] w0) (hR : Rw 76 11 gX n capX (ixL r lo) w0) (hq : FqS lo n q w0) (hl : ∀ j, j < n → fl (q j) ≤ 256) (hLn : L ≤ n) (hn : n ≤ 10) (hgP : gP < w0.heap.size) (hBP : Bl ≠ gP) :
  SeqV Fence.wide m Tryz.prog 79 #[.pointer (some ⟨Bs, 0, none⟩), .pointer (some ⟨Bl, 0, none⟩)] (fun x : Nat => #[.int .i64 (x : Int)]) (KpC gP) (fun _ x _ => x < n) (fun xs => ∃ p, Srd n (lkey q) n p ∧ xs = ((List.range n).map p).take L) (fun _ => True) L w0 := fun l J Jx W hW hA _ hY h0 =>
 units1_in hm hBs hBl hR hq hl hLn hn hgP hBP l J Jx W hW hA hY h0
end Go.Proofs.YtjgihmmeimfheaaGreat
