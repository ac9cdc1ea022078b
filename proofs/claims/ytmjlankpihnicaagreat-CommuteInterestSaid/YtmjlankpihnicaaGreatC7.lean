/-
  The walks of present, by the three functions that it is called with.
-/
import Derived.Test.YtmjlankpihnicaaGreatK1
import Derived.Test.YtmjlankpihnicaaGreatHk
import Derived.Test.YtmjlankpihnicaaGreatC6
namespace Go.Proofs.YtmjlankpihnicaaGreat
open Go.RowKit Go.Shelf
attribute [local go_sem] Oper.semAt_some

/-- The books of present's loop: the boxes of from, to, of and of the result; the number q in block Pp. -/
def PrI (w : World) (g1 g2 g3 g4 Pp : Nat) (a b : Int) (of : Value) (q : Rat) (W : World) : Prop :=
 ∃ s A n c t C m d, Env w (fun V => ((((((True ∧ Blk 3 g1 #[.int .i64 a] V) ∧ Blk 3 g2 #[.int .i64 b] V) ∧ Blk 92 g3 #[of] V) ∧ Blk 29 g4 #[.bool false, .slice none 0 0, .bool false, .slice none 0 0] V) ∧ FV V q s A n t C m) ∧ Blk 29 Pp #[.bool s, .slice A n c, .bool t, .slice C m d] V)) W
theorem PrI.grown {w : World} {B : Nat} (hB : w.heap.size ≤ B) (g1 g2 g3 g4 Pp : Nat) (a b : Int) (of : Value) (q : Rat) : Grown B (PrI w g1 g2 g3 g4 Pp a b of q) := fun W W' row ⟨s, A, n, c, t, C, m, d, h⟩ hg hr =>
 ⟨s, A, n, c, t, C, m, d, Grown.env hB ((((((Grown.tt B).and (Grown.blk _ _ _ _)).and (Grown.blk _ _ _ _)).and (Grown.blk _ _ _ _)).and (Grown.blk _ _ _ _)).and (Grown.fv _ _ _ _ _ _ _ _) |>.and (Grown.blk _ _ _ _)) W W' row h hg hr⟩
theorem PrI.step {w W W' : World} {g1 g2 g3 g4 Pp : Nat} {a b : Int} {of : Value} {q : Rat} (h : PrI w g1 g2 g3 g4 Pp a b of q W) (hb : Below W.heap.size W W') : PrI w g1 g2 g3 g4 Pp a b of q W' := by
 obtain ⟨s, A, n, c, t, C, m, d, h⟩ := h
 exact ⟨s, A, n, c, t, C, m, d, h.step hb⟩
/-- A round's own variables: the year, and the column in a block of its own. -/
def CAx (q : Nat → Nat → Rat) (Pp : Nat) (mk : Nat → Value → Value → Act) (pre : List Cl) (x : Cl) (a : Act) (W : World) : Prop :=
 x.k = pre.length ∧ ∃ g, a = mk g (.int .i64 (x.k : Int)) (.agg (cols1 x.x).toArray) ∧ Pp < g ∧ g < W.heap.size ∧ ((x.x 0).fv W (q x.k 0) ∧ (x.x 3).fv W (q x.k 3)) ∧ Blk 53 g (cols1 x.x).toArray W
theorem CAx.grown {B Pp : Nat} {q : Nat → Nat → Rat} {mk : Nat → Value → Value → Act} {pre : List Cl} {x : Cl} {a : Act} : Grown B (fun W => CAx q Pp mk pre x a W) :=
 (Grown.pure B _).and (Grown.ex fun g => (Grown.pure B _).and ((Grown.pure B _).and ((Grown.size B g).and (((Grown.fv B _ _ _ _ _ _ _).and (Grown.fv B _ _ _ _ _ _ _)).and (Grown.blk B _ _ _)))))
theorem col_ldB {g : Nat} {x : Nat → Q8} {W : World} (hB : Blk 53 g (cols1 x).toArray W) : (Instr.loadAt 53 (.pointer (some ⟨g, 0, none⟩))).run Tryz.prog W = .ok (.agg (cols1 x).toArray) W := by
 obtain ⟨d, h1, h2⟩ := col_desc
 refine run_loadAt_mid W g 0 53 (cols1 x) d (fun j v hv => ?_) h1 h2 (col_size _)
 rw [Nat.zero_add, hB.cell, List.getElem?_toArray]
 exact hv
theorem wpAnyIn_relist {F : Fence} {m fuel : Nat} {P : Program} {md : Region.Mode} {ops : Array Oper} {Q : Exit → Act → World → Prop} {l l' : Array Bool} {a : Act} {w : World} (e : l = l') (h : wpAnyIn F m P md ops Q fuel l' a w) : wpAnyIn F m P md ops Q fuel l a w := e ▸ h
theorem ld_stepIn {F : Fence} {m : Nat} {P : Program} {w : World} {o : Oper} {a : Act} {K : Act → World → Prop} {Q : Exit → Act → World → Prop} {ty : TypeId} {x : Operand} {p v : Value} (hr : (Instr.loadAt ty p).run P w = .ok v w) (ho : o.op = .load ty x) (hx : a.eval x = p) (h : K (a.put o.dst v) w) : o.wpIn F m P a w K Q := by
 unfold Oper.wpIn
 refine ⟨?_, ?_⟩
 · simp [Oper.about, ho]
 ·
  rw [Oper.semAt_plain F _ _ (by rw [ho]; intro c hc'; cases hc')]
  simp [execOp, ho, hx, hr, Result.andThen]
  exact h
section
variable {v : Rat} {f : Nat → Rat} {N : Nat} (hv : Dis v) (hf : Rts f N) (h80 : N ≤ 80)
include hv hf h80
theorem ps_len {g : Nat → Rat} {M : Nat} (hM : M ≤ 80) (a b : Int) (h : ∀ j, j < N → a ≤ (j : Int) → 0 ≤ g j ∧ g j ≤ (M : Rat) ∧ Dv (g j) (dE v f N)) : ∀ k, k ≤ N → Ql 6400 (3 * N) (ps g a b k) := fun k hk => by
 obtain ⟨h1, h2, h3⟩ := ps_bound2 a b h k hk
 refine Ql.of h1 (Rat.le_trans h2 ?_) (dE_pos v f N) h3 (dE_le hv hf N (Nat.le_refl _))
 exact_mod_cast Nat.mul_le_mul (show k ≤ 80 by omega) hM
omit h80 in
theorem ddA {j : Nat} (hj : j < N) (a : Int) (_ : a ≤ (j : Int)) : 0 ≤ dd v f j ∧ dd v f j ≤ ((1 : Nat) : Rat) ∧ Dv (dd v f j) (dE v f N) := dd_ok hv hf j hj
omit h80 in
theorem ccA {j : Nat} (hj : j < N) (a : Int) (_ : a ≤ (j : Int)) : 0 ≤ cc v f j ∧ cc v f j ≤ ((1 : Nat) : Rat) ∧ Dv (cc v f j) (dE v f N) := cc_ok hv hf j hj
theorem rsA {j : Nat} (hj : j < N) (a : Nat) (h : (a : Int) ≤ (j : Int)) : 0 ≤ rs (dd v f) (a : Int) j ∧ rs (dd v f) (a : Int) j ≤ ((80 : Nat) : Rat) ∧ Dv (rs (dd v f) (a : Int) j) (dE v f N) := by
 obtain ⟨h1, h2, h3⟩ := dd_ok hv hf j hj
 obtain ⟨z, hz⟩ : ∃ z : Nat, ((j : Int) - (a : Int) + 1) = (z : Int) := ⟨j - a + 1, by omega⟩
 have hz8 : z ≤ 80 := by omega
 unfold rs
 rw [hz]
 have e : (((z : Int)) : Rat) = (z : Rat) := rfl
 rw [e]
 have z0 : (0 : Rat) ≤ (z : Rat) := Rat.natCast_nonneg
 have z8 : (z : Rat) ≤ ((80 : Nat) : Rat) := by exact_mod_cast hz8
 refine ⟨Rat.mul_nonneg z0 h1, ?_, ?_⟩
 ·
  have e1 := Rat.mul_nonneg z0 (show 0 ≤ 1 - dd v f j by simp at h2; grind)
  grind
 ·
  have := (Dv.int (z : Int)).mul h3
  rw [Nat.one_mul] at this
  exact this
end
set_option linter.unusedSimpArgs false in
set_option maxRecDepth 100000 in
set_option maxHeartbeats 8000000 in
theorem cpresA_v {F S E Y : Int} {A : Option Addr} {n c : Nat} {r : Nat → RH} {si ti : Bool} {Ai Bi : Option Addr} {ni ci mi di : Nat} {fi gi : Nat → Nat} {w : World} (hT : TabM w A n r) (hB : TabB n r) (hr : FRd w Ai ni fi Bi mi gi) (hn : ni ≤ 1000000) (hm : mi ≤ 1000000) (hbk : BOK F S n r si ni fi ti mi gi) (hR : RightP F S n r E Y) (N : Nat) (hN : Cnt (1 / (1 + qOf si ni fi mi gi)) (fr F S n r E Y) N) (h80 : N ≤ 80) (a b : Nat) (ha : a ≤ 9223372036854775807) (hb : b ≤ 9223372036854775807) :
  Calls Tryz.prog 60 #[.agg #[.int .i64 F, .int .i64 S, .slice A n c, .bool si, .slice Ai ni ci, .bool ti, .slice Bi mi di], .agg #[.int .i64 E, .int .i64 Y], .int .i64 (a : Int), .int .i64 (b : Int), .func (.func 61) #[] #[]] w (FOK (ps (dd (1 / (1 + qOf si ni fi mi gi)) (fr F S n r E Y)) (a : Int) (b : Int) N) w) := by
 obtain ⟨hqv, hi⟩ := intB_rti hr hbk.2
 have hN0 : 0 < N := hN.pos
 have hdis := hi.dis
 have hrts := rt_rates hT hR N
 have hcols := fun (W : World) (hW : Below w.heap.size w W) => ccols1_v (c := c) (ci := ci) (di := di) (hT.below hW) hB (hr.below hW) hn hm hbk hR N hN h80
 obtain ⟨v, hv⟩ : ∃ v, v = 1 / (1 + qOf si ni fi mi gi) := ⟨_, rfl⟩
 obtain ⟨f, hf⟩ : ∃ f, f = fr F S n r E Y := ⟨_, rfl⟩
 rw [← hv] at hdis hN hcols ⊢
 rw [← hf] at hN hcols ⊢
 have hrf : Rts f N := by rw [hf]; exact hrts
 clear hrts
 have t1 : decide ((a : Int) < 0) = false := decide_eq_false (by omega)
 have t2 : decide ((b : Int) < 0) = false := decide_eq_false (by omega)
 have HhT := Lib.hid hT
 clear hT
 have HhB := Lib.hid hB
 clear hB
 have Hhr := Lib.hid hr
 clear hr
 have Hhbk := Lib.hid hbk
 clear hbk
 have HhR := Lib.hid hR
 clear hR
 have HhN := Lib.hid hN
 clear hN
 have Hhqv := Lib.hid hqv
 clear hqv
 have Hhi := Lib.hid hi
 clear hi
 have Hhdis := Lib.hid hdis
 clear hdis
 have Hhrf := Lib.hid hrf
 clear hrf
 have Hhv := Lib.hid hv
 clear hv
 have Hhf := Lib.hid hf
 clear hf
 have Hhcols := Lib.hid hcols
 clear hcols
 refine (callsIn_wide (n := 5)).1 ?_
 have hro : Fence.wide.round = none := rfl
 refine callsIn_of_wp_marks Tryz.func60 rfl trivial ?_ hro
 simp only [Tryz.ntmps60, List.size_toArray, List.length_cons, List.length_nil, Nat.reduceAdd, Nat.reduceSub, Array.replicate_succ, Array.replicate_zero, List.push_toArray, List.append_toArray, List.nil_append, List.cons_append]
 have hE := (((((((Env.start w).blk 31 #[.int .i64 F, .int .i64 S, .slice A n c, .bool si, .slice Ai ni ci, .bool ti, .slice Bi mi di] (g := w.heap.size) rfl).blk 33 #[.int .i64 E, .int .i64 Y] (g := w.heap.size + 1) (by simp)).blk 3 #[.int .i64 (a : Int)] (g := w.heap.size + 1 + 1) (by simp)).blk 3 #[.int .i64 (b : Int)] (g := w.heap.size + 1 + 1 + 1) (by simp)).blk 92 #[.func (.func 61) #[] #[]] (g := w.heap.size + 1 + 1 + 1 + 1) (by simp)).blk 29 #[.bool false, .slice none 0 0, .bool false, .slice none 0 0] (g := w.heap.size + 1 + 1 + 1 + 1 + 1) (by simp))
 obtain ⟨W0, hW0⟩ : ∃ W0, W0 = ((((((w.alloc (.cells #[.int .i64 F, .int .i64 S, .slice A n c, .bool si, .slice Ai ni ci, .bool ti, .slice Bi mi di] 31)).alloc (.cells #[.int .i64 E, .int .i64 Y] 33)).alloc (.cells #[.int .i64 (a : Int)] 3)).alloc (.cells #[.int .i64 (b : Int)] 3)).alloc (.cells #[.func (.func 61) #[] #[]] 92)).alloc (.cells #[.bool false, .slice none 0 0, .bool false, .slice none 0 0] 29)) := ⟨_, rfl⟩
 rw [← hW0] at hE
 have HW0 := Lib.hid hW0
 clear hW0
 gi_wp2
 clear t1 t2
 rw [← HW0.out]
 refine ⟨trivial, (callsIn_wide.2 (Hhcols.out _ hE.bel)).mono ?_⟩
 rintro e wc ⟨cv, h, rfl, hcv, hcq, hb1⟩
 replace hE := hE.step hb1
 have hlc : w.heap.size + 1 + 1 + 1 + 1 + 1 < wc.heap.size := (hE.here.2).lt
 rcases hcv with ⟨-, h0⟩ | ⟨g, cap, rfl, -, hCB⟩
 · omega
 clear hb1
 gi_wp2
 refine ⟨trivial, (callsIn_wide.2 (ffromInt_v 0 _ (by decide) (by decide))).mono ?_⟩
 rintro e w1 ⟨sp, Ap, np, cp, tp, Bp, mp, dp, rfl, hp, hb1⟩
 have hcw : Below wc.heap.size wc w1 := hb1
 replace hE := (hE.step hb1).fv hp
 clear hp
 gi_wp2
 refine ⟨trivial, (call_in 4 _ N cap _).mono ?_⟩
 rintro e w2 ⟨rfl, rfl⟩
 gi_wp2
 have hE := (hE.blk 29 #[.bool sp, .slice Ap np cp, .bool tp, .slice Bp mp dp] (g := w1.heap.size) rfl).blk 43 #[.slice (some ⟨g, 0, none⟩) N cap] (g := w1.heap.size + 1) (by simp)
 have hcP : wc.heap.size ≤ w1.heap.size := hcw.size
 have hcw2 : Below wc.heap.size wc ((w1.alloc (.cells #[.bool sp, .slice Ap np cp, .bool tp, .slice Bp mp dp] 29)).alloc (.cells #[.slice (some ⟨g, 0, none⟩) N cap] 43)) := (hcw.alloc hcP _).alloc (by simp; omega) _
 have hPl : w.heap.size + 1 + 1 + 1 + 1 + 1 < wc.heap.size := hlc
 generalize hPp : w1.heap.size = Pp at hE hcP ⊢
 have hsz : ((w1.alloc (.cells #[.bool sp, .slice Ap np cp, .bool tp, .slice Bp mp dp] 29)).alloc (.cells #[.slice (some ⟨g, 0, none⟩) N cap] 43)).heap.size = Pp + 2 := by simp [hPp]
 generalize (w1.alloc (.cells #[.bool sp, .slice Ap np cp, .bool tp, .slice Bp mp dp] 29)).alloc (.cells #[.slice (some ⟨g, 0, none⟩) N cap] 43) = Wr at hE hsz hcw2 ⊢
 clear hPp hcw hlc
 have hsw : w.heap.size ≤ Wr.heap.size := by omega
 have hcs : wc.heap.size ≤ Wr.heap.size := by omega
 have hL1 : ∀ k, k ≤ N → fl (ps (dd v f) (a : Int) (b : Int) k) ≤ 256 := fun k hk => (ps_len Hhdis.out Hhrf.out h80 (M := 1) (by decide) (a : Int) (b : Int) (fun j hj h => ddA Hhdis.out Hhrf.out hj (a : Int) h) k hk).l (by decide) (by decide) (by omega)
 have hL2 : ∀ k, k < N → (a : Int) ≤ (k : Int) → fl ((dd v f) k) ≤ 256 := fun k hk h => by
  obtain ⟨h1, h2, h3⟩ := (fun j hj h => ddA Hhdis.out Hhrf.out hj (a : Int) h : ∀ j, j < N → (a : Int) ≤ (j : Int) → 0 ≤ (dd v f) j ∧ (dd v f) j ≤ ((1 : Nat) : Rat) ∧ Dv ((dd v f) j) (dE v f N)) k hk h
  exact (Ql.of h1 h2 (dE_pos v f N) h3 (dE_le Hhdis.out Hhrf.out N (Nat.le_refl _))).l (by decide) (by decide) (by omega)
 have HhL1 := Lib.hid hL1
 clear hL1
 have HhL2 := Lib.hid hL2
 clear hL2
 refine rangeV hro (by decide) (gf := 137) (lb := #[.pointer (some ⟨Pp + 1, 0, none⟩)]) rfl trivial (enters_of Tryz.func137 (by kernel_rfl) rfl)
  (call_seq (5 - 1) (by decide) (Pp + 1) wc.heap.size (Nat.le_refl _) hCB hcq h80 Wr hcw2 hE.here.2) KpB.t (KpB.b hcs (by omega)) (Below.refl _ _) (fun _ => rfl)
  (fun pre W => (PrI w (w.heap.size + 1 + 1) (w.heap.size + 1 + 1 + 1) (w.heap.size + 1 + 1 + 1 + 1) (w.heap.size + 1 + 1 + 1 + 1 + 1) Pp (a : Int) (b : Int) (.func (.func 61) #[] #[]) (ps (dd v f) (a : Int) (b : Int) pre.length) W ∧ Pp + 1 < W.heap.size) ∧ wc.heap.size ≤ W.heap.size) (fun _ _ _ => False)
  (fun s W W' row h hg hr => ⟨⟨PrI.grown hsw _ _ _ _ _ _ _ _ _ W W' row h.1.1 hg hr, Nat.lt_of_lt_of_le h.1.2 hg.size⟩, Nat.le_trans h.2 hg.size⟩) (fun _ _ _ _ _ h _ _ => h)
  ⟨⟨⟨_, _, _, _, _, _, _, _, (((((((Env.again hE.bel).blkI (hE.h6)).blkI (hE.h5)).blkI (hE.h4)).blkI (hE.h3)).fv (hE.h2)).blkI (hE.here.1.2))⟩, by omega⟩, hcs⟩
  (CAx (colq v f N) Pp (fun gc yv rv => { tmps := #[.agg #[.int .i64 F, .int .i64 S, .slice A n c, .bool si, .slice Ai ni ci, .bool ti, .slice Bi mi di], .agg #[.int .i64 E, .int .i64 Y], .int .i64 (a : Int), .int .i64 (b : Int), .func (.func 61) #[] #[], .pointer (some ⟨w.heap.size, 0, none⟩), .pointer (some ⟨w.heap.size + 1, 0, none⟩), .pointer (some ⟨w.heap.size + 1 + 1, 0, none⟩), .pointer (some ⟨w.heap.size + 1 + 1 + 1, 0, none⟩), .pointer (some ⟨w.heap.size + 1 + 1 + 1 + 1, 0, none⟩), .pointer (some ⟨w.heap.size + 1 + 1 + 1 + 1 + 1, 0, none⟩), .int .i64 0, .slice (some ⟨g, 0, none⟩) N cap, .int .i64 0, .pointer (some ⟨Pp, 0, none⟩), yv, .pointer (some ⟨gc, 0, none⟩), .int .i64 (a : Int), .bool false, .bool false, .int .i64 (b : Int), .bool false, .bool false, undef, .tuple #[.slice (some ⟨g, 0, none⟩) N cap, .int .i64 0], .agg #[.int .i64 F, .int .i64 S, .slice A n c, .bool si, .slice Ai ni ci, .bool ti, .slice Bi mi di], .agg #[.int .i64 E, .int .i64 Y], .tuple #[.slice (some ⟨g, 0, none⟩) N cap, .int .i64 0], .slice (some ⟨g, 0, none⟩) N cap, .int .i64 0, .int .i64 0, .bool false, undef, undef, .agg #[.bool sp, .slice Ap np cp, .bool tp, .slice Bp mp dp], .slice (some ⟨g, 0, none⟩) N cap, .func (.func 137) #[] #[.pointer (some ⟨Pp + 1, 0, none⟩)], yv, rv, undef, undef, undef, undef, undef, undef, undef, undef, undef, undef, undef, undef, undef, undef, undef], defers := [] })) (fun pre x a' => fun _ W W' row h hg hr => CAx.grown W W' row h hg hr) ?assign ?body ?done ?stop
 case assign =>
  rintro l pre ⟨xk, xx⟩ W K ⟨⟨hI, hBs⟩, hcW⟩ ⟨hxk, hxf⟩ hK
  dsimp only at hxk hxf
  subst hxk
  obtain ⟨V, hst, hld2, hba, -, hbk⟩ := col_store W xx
  have hTr := (Trail.refl (B := Wr.heap.size) (n₀ := wc.heap.size) (Bs := Pp + 1) W hBs hcW).step hba
  have hfin := fun a hax => hK a V hTr.keeps hTr.kp ⟨⟨PrI.step hI hba, Nat.lt_of_lt_of_le hBs hba.size⟩, Nat.le_trans hcW hba.size⟩ ⟨rfl, W.heap.size, hax, by omega, hbk.lt, ⟨(hxf 0 (by decide) (.inl rfl)).below hba, (hxf 3 (by decide) (.inr rfl)).below hba⟩, hbk⟩
  have HF := Lib.hid hfin
  clear hfin hK hI hxf hbk hTr hba hld2
  dsimp only [Cl.vals]
  gi_wp2_with (refine wpListIn_st hst rfl rfl rfl rfl ?_)
  exact HF.out _ rfl
 case body =>
  rintro l pre ⟨xk, xx⟩ a' W ⟨⟨⟨sq, Aq, nq, cq, tq, Bq, mq, dq, hE⟩, hBs⟩, hcW⟩ ⟨hxk, gx, rfl, hg1, hg2, ⟨hx0, hx3⟩, hxb⟩ hlen
  dsimp only at hxk hx0 hx3 hxb hg1 hg2
  subst hxk
  have hE := (((hE.fv hx0).fv hx3).blkI hxb).trail (Trail.refl (B := Wr.heap.size) (n₀ := wc.heap.size) (Bs := Pp + 1) W hBs hcW)
  clear hx0 hx3 hxb
  have hmx : Tryz.prog.follows .mixedOrders = true := by kernel_rfl
  have hlen2 : (pre ++ [Cl.mk pre.length xx]).length = pre.length + 1 := by simp
  have Hlen2 := Lib.hid hlen2
  clear hlen2
  by_cases h1 : a ≤ pre.length
  ·
   have t1 : decide ((a : Int) ≤ (pre.length : Int)) = true := decide_eq_true (by omega)
   by_cases h2 : pre.length < b
   ·
    have t2 : decide ((pre.length : Int) < (b : Int)) = true := decide_eq_true (by omega)
    have HPS : Hid (ps (dd v f) (a : Int) (b : Int) (pre.length + 1) = ps (dd v f) (a : Int) (b : Int) pre.length + (dd v f) pre.length) := Lib.hid (by simp only [ps]; rw [if_pos ⟨by omega, by omega⟩])
    have ha1 : (a : Int) ≤ (pre.length : Int) := by omega
    have lsum := HhL1.out (pre.length + 1) hlen
    rw [HPS.out] at lsum
    have Hlsum := Lib.hid lsum
    clear lsum
    have k0 := (hE.h9).c1
    have k1 := (hE.h8).c1
    gi_wp2
    clear k0 k1 t1 t2
    refine wpIn_region_any (by assumption) ?_
    replace hE := hE.drew
    change wpAnyIn _ _ _ _ _ _ _ _ _ (W.drew)
    generalize W.drew = wd at hE ⊢
    refine wpAnyIn_ready (rs := [0, 1, 2, 3]) (by kernel_rfl) (by simp) ?rr1
    refine AllReadyIn.cons rfl (fun K hK => ?_) ?_
    ·
     obtain ⟨k2, k3, k4, k5⟩ := (hE.h4).c4
     have k6 := (hE.h7).c1
     go_simp
     refine hK _ _ ?_
     clear hK K
     try simp only [PL]
     clear k2 k3 k4 k5 k6
     refine wpAnyIn_relist (l' := #[true, false, false, false, false, false, false]) (by kernel_rfl) ?_
     refine ?c1_0
     refine wpAnyIn_ready (rs := [1, 2, 3]) (by kernel_rfl) (by simp) ?rr7
     refine AllReadyIn.cons rfl (fun K hK => ?_) ?_
     ·
      obtain ⟨k8, k9, k10, k11⟩ := (hE.h4).c4
      have k12 := (hE.h7).c1
      go_simp
      refine hK _ _ ?_
      clear hK K
      try simp only [PL]
      clear k8 k9 k10 k11 k12
      refine wpAnyIn_relist (l' := #[true, true, false, false, false, false, false]) (by kernel_rfl) ?_
      refine ?c1_01
      refine wpAnyIn_ready (rs := [2, 3]) (by kernel_rfl) (by simp) ?rr13
      refine AllReadyIn.cons rfl (fun K hK => ?_) ?_
      ·
       obtain ⟨k14, k15, k16, k17⟩ := (hE.h4).c4
       have k18 := (hE.h7).c1
       go_simp
       refine hK _ _ ?_
       clear hK K
       try simp only [PL]
       clear k14 k15 k16 k17 k18
       refine wpAnyIn_relist (l' := #[true, true, true, false, false, false, false]) (by kernel_rfl) ?_
       refine ?c1_012
       refine wpAnyIn_ready (rs := [3]) (by kernel_rfl) (by simp) ?rr19
       refine AllReadyIn.cons rfl (fun K hK => ?_) ?_
       ·
        refine Eq.mpr (if_pos (by rfl)) ?_
        refine ld_stepIn (x := .tmp 16) (col_ldB (hE.here.1.2)) rfl rfl ?_
        refine hK _ _ ?_
        clear hK K
        try simp only [PL]
        refine wpAnyIn_relist (l' := #[true, true, true, true, false, false, false]) (by kernel_rfl) ?_
        refine ?c1_0123
        refine wpAnyIn_ready (rs := [4]) (by kernel_rfl) (by simp) ?rr20
        refine AllReadyIn.cons rfl (fun K hK => ?_) ?_
        ·
         go_simp
         skip
         first | refine ⟨trivial, fun _ => by omega, (CallsIn.inRound l (callsIn_wide.2 (cofA_v (pre.length : Int) (x := xx) (q := dd v f pre.length) (hE.h3)))).mono ?_⟩ | refine ⟨trivial, (CallsIn.inRound l (callsIn_wide.2 (cofA_v (pre.length : Int) (x := xx) (q := dd v f pre.length) (hE.h3)))).mono ?_⟩ | refine ⟨trivial, trivial, (CallsIn.inRound l (callsIn_wide.2 (cofA_v (pre.length : Int) (x := xx) (q := dd v f pre.length) (hE.h3)))).mono ?_⟩ | refine ⟨trivial, trivial, fun _ => by omega, (CallsIn.inRound l (callsIn_wide.2 (cofA_v (pre.length : Int) (x := xx) (q := dd v f pre.length) (hE.h3)))).mono ?_⟩
         rintro e w21 ⟨so, Ao, no, co, ti, Bo, mo, dob, rfl, ho, hb⟩
         replace hE := hE.step hb
         clear hb
         replace hE := hE.fv ho
         clear ho
         refine hK _ _ ?_
         clear hK K
         try simp only [PL]
         refine wpAnyIn_ready (rs := [5]) (by kernel_rfl) (by simp) ?rr22
         refine AllReadyIn.cons rfl (fun K hK => ?_) ?_
         ·
          go_simp
          skip
          first | refine ⟨trivial, fun _ => by omega, (CallsIn.inRound l (callsIn_wide.2 (cplus_v (ca := cq) (da := dq) (cb := co) (db := dob) hE.h6 hE.here.2 (HhL1.out pre.length (by omega)) (HhL2.out pre.length hlen ha1) Hlsum.out))).mono ?_⟩ | refine ⟨trivial, (CallsIn.inRound l (callsIn_wide.2 (cplus_v (ca := cq) (da := dq) (cb := co) (db := dob) hE.h6 hE.here.2 (HhL1.out pre.length (by omega)) (HhL2.out pre.length hlen ha1) Hlsum.out))).mono ?_⟩ | refine ⟨trivial, trivial, (CallsIn.inRound l (callsIn_wide.2 (cplus_v (ca := cq) (da := dq) (cb := co) (db := dob) hE.h6 hE.here.2 (HhL1.out pre.length (by omega)) (HhL2.out pre.length hlen ha1) Hlsum.out))).mono ?_⟩ | refine ⟨trivial, trivial, fun _ => by omega, (CallsIn.inRound l (callsIn_wide.2 (cplus_v (ca := cq) (da := dq) (cb := co) (db := dob) hE.h6 hE.here.2 (HhL1.out pre.length (by omega)) (HhL2.out pre.length hlen ha1) Hlsum.out))).mono ?_⟩
          rintro e w23 ⟨sz, Az, nz, cz, tz, Bz, mz, dz, rfl, hz, hb⟩
          replace hE := hE.step hb
          clear hb
          replace hE := hE.fv hz
          clear hz
          refine hK _ _ ?_
          clear hK K
          try simp only [PL]
          refine wpAnyIn_ready (rs := [6]) (by kernel_rfl) (by simp) ?rr24
          refine AllReadyIn.cons rfl (fun K hK => ?_) ?_
          ·
           have hgl25 : w.heap.size ≤ Pp := by omega
           obtain ⟨x25_0, x25_1, x25_2, x25_3⟩ := (hE.h6).c4
           obtain ⟨f25_0, f25_1, f25_2, f25_3⟩ := hE.h6.f4
           replace hE := (((((((((((((Env.again (bel4 hE.bel hgl25 (.bool sz) (.slice Az nz cz) (.bool tz) (.slice Bz mz dz))).blkI ((hE.h11).far4 (R := Pp) (by omega) (.bool sz) (.slice Az nz cz) (.bool tz) (.slice Bz mz dz))).blkI ((hE.h10).far4 (R := Pp) (by omega) (.bool sz) (.slice Az nz cz) (.bool tz) (.slice Bz mz dz))).blkI ((hE.h9).far4 (R := Pp) (by omega) (.bool sz) (.slice Az nz cz) (.bool tz) (.slice Bz mz dz))).blkI ((hE.h8).far4 (R := Pp) (by omega) (.bool sz) (.slice Az nz cz) (.bool tz) (.slice Bz mz dz))).fv ((hE.h7).sep4 hE.h6 rfl (.bool sz) (.slice Az nz cz) (.bool tz) (.slice Bz mz dz) rfl rfl rfl)).blkI ((hE.h6).s4 (.bool sz) (.slice Az nz cz) (.bool tz) (.slice Bz mz dz))).fv ((hE.h5).sep4 hE.h6 rfl (.bool sz) (.slice Az nz cz) (.bool tz) (.slice Bz mz dz) rfl rfl rfl)).fv ((hE.h4).sep4 hE.h6 rfl (.bool sz) (.slice Az nz cz) (.bool tz) (.slice Bz mz dz) rfl rfl rfl)).blkI ((hE.h3).far4 (R := Pp) (by omega) (.bool sz) (.slice Az nz cz) (.bool tz) (.slice Bz mz dz))).trail ((hE.h2).set4 ⟨by omega, by omega, by omega⟩ (.bool sz) (.slice Az nz cz) (.bool tz) (.slice Bz mz dz))).fv ((hE.here.1.2).sep4 hE.h6 rfl (.bool sz) (.slice Az nz cz) (.bool tz) (.slice Bz mz dz) rfl rfl rfl)).fv ((hE.here.2).sep4 hE.h6 rfl (.bool sz) (.slice Az nz cz) (.bool tz) (.slice Bz mz dz) rfl rfl rfl))
           go_simp
           clear x25_0 x25_1 x25_2 x25_3 f25_0 f25_1 f25_2 f25_3 hgl25
           generalize ((((w23.setCell ⟨Pp, 0, none⟩ (.bool sz)).setCell ⟨Pp, 1, none⟩ (.slice Az nz cz)).setCell ⟨Pp, 2, none⟩ (.bool tz)).setCell ⟨Pp, 3, none⟩ (.slice Bz mz dz)) = W25 at hE ⊢
           refine hK _ _ ?_
           clear hK K
           try simp only [PL]
           refine wpAnyIn_done (by kernel_rfl) ?_ _
           refine ⟨(hE.h2).keeps, (hE.h2).kp, ⟨⟨?_, (hE.h2).hs⟩, ?_⟩⟩
           ·
            show PrI w (w.heap.size + 1 + 1) (w.heap.size + 1 + 1 + 1) (w.heap.size + 1 + 1 + 1 + 1) (w.heap.size + 1 + 1 + 1 + 1 + 1) Pp (a : Int) (b : Int) (.func (.func 61) #[] #[]) (ps (dd v f) (a : Int) (b : Int) (pre ++ [Cl.mk pre.length xx]).length) _
            rw [Hlen2.out, HPS.out]
            exact ⟨_, _, _, _, _, _, _, _, (((((((Env.again hE.bel).blkI (hE.h11)).blkI (hE.h10)).blkI (hE.h9)).blkI (hE.h8)).fv (hE.here.2)).blkI (hE.h6))⟩
           ·
            show wc.heap.size ≤ _
            exact Nat.le_trans hcW (hE.h2).keeps.size
          exact AllReadyIn.nil
         exact AllReadyIn.nil
        exact AllReadyIn.nil
       exact AllReadyIn.nil
      refine AllReadyIn.cons rfl (fun K hK => ?_) ?_
      ·
       refine Eq.mpr (if_pos (by rfl)) ?_
       refine ld_stepIn (x := .tmp 16) (col_ldB (hE.here.1.2)) rfl rfl ?_
       refine hK _ _ ?_
       clear hK K
       try simp only [PL]
       refine wpAnyIn_relist (l' := #[true, true, false, true, false, false, false]) (by kernel_rfl) ?_
       refine ?c1_013
       refine wpAnyIn_ready (rs := [2]) (by kernel_rfl) (by simp) ?rr26
       refine AllReadyIn.cons rfl (fun K hK => ?_) ?_
       ·
        obtain ⟨k27, k28, k29, k30⟩ := (hE.h4).c4
        have k31 := (hE.h7).c1
        go_simp
        refine hK _ _ ?_
        clear hK K
        try simp only [PL]
        clear k27 k28 k29 k30 k31
        refine wpAnyIn_relist (l' := #[true, true, true, true, false, false, false]) (by kernel_rfl) ?_
        exact ?c1_0123
       exact AllReadyIn.nil
      exact AllReadyIn.nil
     refine AllReadyIn.cons rfl (fun K hK => ?_) ?_
     ·
      obtain ⟨k32, k33, k34, k35⟩ := (hE.h4).c4
      have k36 := (hE.h7).c1
      go_simp
      refine hK _ _ ?_
      clear hK K
      try simp only [PL]
      clear k32 k33 k34 k35 k36
      refine wpAnyIn_relist (l' := #[true, false, true, false, false, false, false]) (by kernel_rfl) ?_
      refine ?c1_02
      refine wpAnyIn_ready (rs := [1, 3]) (by kernel_rfl) (by simp) ?rr37
      refine AllReadyIn.cons rfl (fun K hK => ?_) ?_
      ·
       obtain ⟨k38, k39, k40, k41⟩ := (hE.h4).c4
       have k42 := (hE.h7).c1
       go_simp
       refine hK _ _ ?_
       clear hK K
       try simp only [PL]
       clear k38 k39 k40 k41 k42
       refine wpAnyIn_relist (l' := #[true, true, true, false, false, false, false]) (by kernel_rfl) ?_
       exact ?c1_012
      refine AllReadyIn.cons rfl (fun K hK => ?_) ?_
      ·
       refine Eq.mpr (if_pos (by rfl)) ?_
       refine ld_stepIn (x := .tmp 16) (col_ldB (hE.here.1.2)) rfl rfl ?_
       refine hK _ _ ?_
       clear hK K
       try simp only [PL]
       refine wpAnyIn_relist (l' := #[true, false, true, true, false, false, false]) (by kernel_rfl) ?_
       refine ?c1_023
       refine wpAnyIn_ready (rs := [1]) (by kernel_rfl) (by simp) ?rr43
       refine AllReadyIn.cons rfl (fun K hK => ?_) ?_
       ·
        obtain ⟨k44, k45, k46, k47⟩ := (hE.h4).c4
        have k48 := (hE.h7).c1
        go_simp
        refine hK _ _ ?_
        clear hK K
        try simp only [PL]
        clear k44 k45 k46 k47 k48
        refine wpAnyIn_relist (l' := #[true, true, true, true, false, false, false]) (by kernel_rfl) ?_
        exact ?c1_0123
       exact AllReadyIn.nil
      exact AllReadyIn.nil
     refine AllReadyIn.cons rfl (fun K hK => ?_) ?_
     ·
      refine Eq.mpr (if_pos (by rfl)) ?_
      refine ld_stepIn (x := .tmp 16) (col_ldB (hE.here.1.2)) rfl rfl ?_
      refine hK _ _ ?_
      clear hK K
      try simp only [PL]
      refine wpAnyIn_relist (l' := #[true, false, false, true, false, false, false]) (by kernel_rfl) ?_
      refine ?c1_03
      refine wpAnyIn_ready (rs := [1, 2]) (by kernel_rfl) (by simp) ?rr49
      refine AllReadyIn.cons rfl (fun K hK => ?_) ?_
      ·
       obtain ⟨k50, k51, k52, k53⟩ := (hE.h4).c4
       have k54 := (hE.h7).c1
       go_simp
       refine hK _ _ ?_
       clear hK K
       try simp only [PL]
       clear k50 k51 k52 k53 k54
       refine wpAnyIn_relist (l' := #[true, true, false, true, false, false, false]) (by kernel_rfl) ?_
       exact ?c1_013
      refine AllReadyIn.cons rfl (fun K hK => ?_) ?_
      ·
       obtain ⟨k55, k56, k57, k58⟩ := (hE.h4).c4
       have k59 := (hE.h7).c1
       go_simp
       refine hK _ _ ?_
       clear hK K
       try simp only [PL]
       clear k55 k56 k57 k58 k59
       refine wpAnyIn_relist (l' := #[true, false, true, true, false, false, false]) (by kernel_rfl) ?_
       exact ?c1_023
      exact AllReadyIn.nil
     exact AllReadyIn.nil
    refine AllReadyIn.cons rfl (fun K hK => ?_) ?_
    ·
     obtain ⟨k60, k61, k62, k63⟩ := (hE.h4).c4
     have k64 := (hE.h7).c1
     go_simp
     refine hK _ _ ?_
     clear hK K
     try simp only [PL]
     clear k60 k61 k62 k63 k64
     refine wpAnyIn_relist (l' := #[false, true, false, false, false, false, false]) (by kernel_rfl) ?_
     refine ?c1_1
     refine wpAnyIn_ready (rs := [0, 2, 3]) (by kernel_rfl) (by simp) ?rr65
     refine AllReadyIn.cons rfl (fun K hK => ?_) ?_
     ·
      obtain ⟨k66, k67, k68, k69⟩ := (hE.h4).c4
      have k70 := (hE.h7).c1
      go_simp
      refine hK _ _ ?_
      clear hK K
      try simp only [PL]
      clear k66 k67 k68 k69 k70
      refine wpAnyIn_relist (l' := #[true, true, false, false, false, false, false]) (by kernel_rfl) ?_
      exact ?c1_01
     refine AllReadyIn.cons rfl (fun K hK => ?_) ?_
     ·
      obtain ⟨k71, k72, k73, k74⟩ := (hE.h4).c4
      have k75 := (hE.h7).c1
      go_simp
      refine hK _ _ ?_
      clear hK K
      try simp only [PL]
      clear k71 k72 k73 k74 k75
      refine wpAnyIn_relist (l' := #[false, true, true, false, false, false, false]) (by kernel_rfl) ?_
      refine ?c1_12
      refine wpAnyIn_ready (rs := [0, 3]) (by kernel_rfl) (by simp) ?rr76
      refine AllReadyIn.cons rfl (fun K hK => ?_) ?_
      ·
       obtain ⟨k77, k78, k79, k80⟩ := (hE.h4).c4
       have k81 := (hE.h7).c1
       go_simp
       refine hK _ _ ?_
       clear hK K
       try simp only [PL]
       clear k77 k78 k79 k80 k81
       refine wpAnyIn_relist (l' := #[true, true, true, false, false, false, false]) (by kernel_rfl) ?_
       exact ?c1_012
      refine AllReadyIn.cons rfl (fun K hK => ?_) ?_
      ·
       refine Eq.mpr (if_pos (by rfl)) ?_
       refine ld_stepIn (x := .tmp 16) (col_ldB (hE.here.1.2)) rfl rfl ?_
       refine hK _ _ ?_
       clear hK K
       try simp only [PL]
       refine wpAnyIn_relist (l' := #[false, true, true, true, false, false, false]) (by kernel_rfl) ?_
       refine ?c1_123
       refine wpAnyIn_ready (rs := [0, 4]) (by kernel_rfl) (by simp) ?rr82
       refine AllReadyIn.cons rfl (fun K hK => ?_) ?_
       ·
        obtain ⟨k83, k84, k85, k86⟩ := (hE.h4).c4
        have k87 := (hE.h7).c1
        go_simp
        refine hK _ _ ?_
        clear hK K
        try simp only [PL]
        clear k83 k84 k85 k86 k87
        refine wpAnyIn_relist (l' := #[true, true, true, true, false, false, false]) (by kernel_rfl) ?_
        exact ?c1_0123
       refine AllReadyIn.cons rfl (fun K hK => ?_) ?_
       ·
        go_simp
        skip
        first | refine ⟨trivial, fun _ => by omega, (CallsIn.inRound l (callsIn_wide.2 (cofA_v (pre.length : Int) (x := xx) (q := dd v f pre.length) (hE.h3)))).mono ?_⟩ | refine ⟨trivial, (CallsIn.inRound l (callsIn_wide.2 (cofA_v (pre.length : Int) (x := xx) (q := dd v f pre.length) (hE.h3)))).mono ?_⟩ | refine ⟨trivial, trivial, (CallsIn.inRound l (callsIn_wide.2 (cofA_v (pre.length : Int) (x := xx) (q := dd v f pre.length) (hE.h3)))).mono ?_⟩ | refine ⟨trivial, trivial, fun _ => by omega, (CallsIn.inRound l (callsIn_wide.2 (cofA_v (pre.length : Int) (x := xx) (q := dd v f pre.length) (hE.h3)))).mono ?_⟩
        rintro e w88 ⟨so, Ao, no, co, ti, Bo, mo, dob, rfl, ho, hb⟩
        replace hE := hE.step hb
        clear hb
        replace hE := hE.fv ho
        clear ho
        refine hK _ _ ?_
        clear hK K
        try simp only [PL]
        refine wpAnyIn_ready (rs := [0]) (by kernel_rfl) (by simp) ?rr89
        refine AllReadyIn.cons rfl (fun K hK => ?_) ?_
        ·
         obtain ⟨k90, k91, k92, k93⟩ := (hE.h5).c4
         have k94 := (hE.h8).c1
         go_simp
         refine hK _ _ ?_
         clear hK K
         try simp only [PL]
         clear k90 k91 k92 k93 k94
         refine wpAnyIn_ready (rs := [5]) (by kernel_rfl) (by simp) ?rr95
         refine AllReadyIn.cons rfl (fun K hK => ?_) ?_
         ·
          go_simp
          skip
          first | refine ⟨trivial, fun _ => by omega, (CallsIn.inRound l (callsIn_wide.2 (cplus_v (ca := cq) (da := dq) (cb := co) (db := dob) hE.h6 hE.here.2 (HhL1.out pre.length (by omega)) (HhL2.out pre.length hlen ha1) Hlsum.out))).mono ?_⟩ | refine ⟨trivial, (CallsIn.inRound l (callsIn_wide.2 (cplus_v (ca := cq) (da := dq) (cb := co) (db := dob) hE.h6 hE.here.2 (HhL1.out pre.length (by omega)) (HhL2.out pre.length hlen ha1) Hlsum.out))).mono ?_⟩ | refine ⟨trivial, trivial, (CallsIn.inRound l (callsIn_wide.2 (cplus_v (ca := cq) (da := dq) (cb := co) (db := dob) hE.h6 hE.here.2 (HhL1.out pre.length (by omega)) (HhL2.out pre.length hlen ha1) Hlsum.out))).mono ?_⟩ | refine ⟨trivial, trivial, fun _ => by omega, (CallsIn.inRound l (callsIn_wide.2 (cplus_v (ca := cq) (da := dq) (cb := co) (db := dob) hE.h6 hE.here.2 (HhL1.out pre.length (by omega)) (HhL2.out pre.length hlen ha1) Hlsum.out))).mono ?_⟩
          rintro e w96 ⟨sz, Az, nz, cz, tz, Bz, mz, dz, rfl, hz, hb⟩
          replace hE := hE.step hb
          clear hb
          replace hE := hE.fv hz
          clear hz
          refine hK _ _ ?_
          clear hK K
          try simp only [PL]
          refine wpAnyIn_ready (rs := [6]) (by kernel_rfl) (by simp) ?rr97
          refine AllReadyIn.cons rfl (fun K hK => ?_) ?_
          ·
           have hgl98 : w.heap.size ≤ Pp := by omega
           obtain ⟨x98_0, x98_1, x98_2, x98_3⟩ := (hE.h6).c4
           obtain ⟨f98_0, f98_1, f98_2, f98_3⟩ := hE.h6.f4
           replace hE := (((((((((((((Env.again (bel4 hE.bel hgl98 (.bool sz) (.slice Az nz cz) (.bool tz) (.slice Bz mz dz))).blkI ((hE.h11).far4 (R := Pp) (by omega) (.bool sz) (.slice Az nz cz) (.bool tz) (.slice Bz mz dz))).blkI ((hE.h10).far4 (R := Pp) (by omega) (.bool sz) (.slice Az nz cz) (.bool tz) (.slice Bz mz dz))).blkI ((hE.h9).far4 (R := Pp) (by omega) (.bool sz) (.slice Az nz cz) (.bool tz) (.slice Bz mz dz))).blkI ((hE.h8).far4 (R := Pp) (by omega) (.bool sz) (.slice Az nz cz) (.bool tz) (.slice Bz mz dz))).fv ((hE.h7).sep4 hE.h6 rfl (.bool sz) (.slice Az nz cz) (.bool tz) (.slice Bz mz dz) rfl rfl rfl)).blkI ((hE.h6).s4 (.bool sz) (.slice Az nz cz) (.bool tz) (.slice Bz mz dz))).fv ((hE.h5).sep4 hE.h6 rfl (.bool sz) (.slice Az nz cz) (.bool tz) (.slice Bz mz dz) rfl rfl rfl)).fv ((hE.h4).sep4 hE.h6 rfl (.bool sz) (.slice Az nz cz) (.bool tz) (.slice Bz mz dz) rfl rfl rfl)).blkI ((hE.h3).far4 (R := Pp) (by omega) (.bool sz) (.slice Az nz cz) (.bool tz) (.slice Bz mz dz))).trail ((hE.h2).set4 ⟨by omega, by omega, by omega⟩ (.bool sz) (.slice Az nz cz) (.bool tz) (.slice Bz mz dz))).fv ((hE.here.1.2).sep4 hE.h6 rfl (.bool sz) (.slice Az nz cz) (.bool tz) (.slice Bz mz dz) rfl rfl rfl)).fv ((hE.here.2).sep4 hE.h6 rfl (.bool sz) (.slice Az nz cz) (.bool tz) (.slice Bz mz dz) rfl rfl rfl))
           go_simp
           clear x98_0 x98_1 x98_2 x98_3 f98_0 f98_1 f98_2 f98_3 hgl98
           generalize ((((w96.setCell ⟨Pp, 0, none⟩ (.bool sz)).setCell ⟨Pp, 1, none⟩ (.slice Az nz cz)).setCell ⟨Pp, 2, none⟩ (.bool tz)).setCell ⟨Pp, 3, none⟩ (.slice Bz mz dz)) = W98 at hE ⊢
           refine hK _ _ ?_
           clear hK K
           try simp only [PL]
           refine wpAnyIn_done (by kernel_rfl) ?_ _
           refine ⟨(hE.h2).keeps, (hE.h2).kp, ⟨⟨?_, (hE.h2).hs⟩, ?_⟩⟩
           ·
            show PrI w (w.heap.size + 1 + 1) (w.heap.size + 1 + 1 + 1) (w.heap.size + 1 + 1 + 1 + 1) (w.heap.size + 1 + 1 + 1 + 1 + 1) Pp (a : Int) (b : Int) (.func (.func 61) #[] #[]) (ps (dd v f) (a : Int) (b : Int) (pre ++ [Cl.mk pre.length xx]).length) _
            rw [Hlen2.out, HPS.out]
            exact ⟨_, _, _, _, _, _, _, _, (((((((Env.again hE.bel).blkI (hE.h11)).blkI (hE.h10)).blkI (hE.h9)).blkI (hE.h8)).fv (hE.here.2)).blkI (hE.h6))⟩
           ·
            show wc.heap.size ≤ _
            exact Nat.le_trans hcW (hE.h2).keeps.size
          exact AllReadyIn.nil
         exact AllReadyIn.nil
        exact AllReadyIn.nil
       exact AllReadyIn.nil
      exact AllReadyIn.nil
     refine AllReadyIn.cons rfl (fun K hK => ?_) ?_
     ·
      refine Eq.mpr (if_pos (by rfl)) ?_
      refine ld_stepIn (x := .tmp 16) (col_ldB (hE.here.1.2)) rfl rfl ?_
      refine hK _ _ ?_
      clear hK K
      try simp only [PL]
      refine wpAnyIn_relist (l' := #[false, true, false, true, false, false, false]) (by kernel_rfl) ?_
      refine ?c1_13
      refine wpAnyIn_ready (rs := [0, 2]) (by kernel_rfl) (by simp) ?rr99
      refine AllReadyIn.cons rfl (fun K hK => ?_) ?_
      ·
       obtain ⟨k100, k101, k102, k103⟩ := (hE.h4).c4
       have k104 := (hE.h7).c1
       go_simp
       refine hK _ _ ?_
       clear hK K
       try simp only [PL]
       clear k100 k101 k102 k103 k104
       refine wpAnyIn_relist (l' := #[true, true, false, true, false, false, false]) (by kernel_rfl) ?_
       exact ?c1_013
      refine AllReadyIn.cons rfl (fun K hK => ?_) ?_
      ·
       obtain ⟨k105, k106, k107, k108⟩ := (hE.h4).c4
       have k109 := (hE.h7).c1
       go_simp
       refine hK _ _ ?_
       clear hK K
       try simp only [PL]
       clear k105 k106 k107 k108 k109
       refine wpAnyIn_relist (l' := #[false, true, true, true, false, false, false]) (by kernel_rfl) ?_
       exact ?c1_123
      exact AllReadyIn.nil
     exact AllReadyIn.nil
    refine AllReadyIn.cons rfl (fun K hK => ?_) ?_
    ·
     obtain ⟨k110, k111, k112, k113⟩ := (hE.h4).c4
     have k114 := (hE.h7).c1
     go_simp
     refine hK _ _ ?_
     clear hK K
     try simp only [PL]
     clear k110 k111 k112 k113 k114
     refine wpAnyIn_relist (l' := #[false, false, true, false, false, false, false]) (by kernel_rfl) ?_
     refine ?c1_2
     refine wpAnyIn_ready (rs := [0, 1, 3]) (by kernel_rfl) (by simp) ?rr115
     refine AllReadyIn.cons rfl (fun K hK => ?_) ?_
     ·
      obtain ⟨k116, k117, k118, k119⟩ := (hE.h4).c4
      have k120 := (hE.h7).c1
      go_simp
      refine hK _ _ ?_
      clear hK K
      try simp only [PL]
      clear k116 k117 k118 k119 k120
      refine wpAnyIn_relist (l' := #[true, false, true, false, false, false, false]) (by kernel_rfl) ?_
      exact ?c1_02
     refine AllReadyIn.cons rfl (fun K hK => ?_) ?_
     ·
      obtain ⟨k121, k122, k123, k124⟩ := (hE.h4).c4
      have k125 := (hE.h7).c1
      go_simp
      refine hK _ _ ?_
      clear hK K
      try simp only [PL]
      clear k121 k122 k123 k124 k125
      refine wpAnyIn_relist (l' := #[false, true, true, false, false, false, false]) (by kernel_rfl) ?_
      exact ?c1_12
     refine AllReadyIn.cons rfl (fun K hK => ?_) ?_
     ·
      refine Eq.mpr (if_pos (by rfl)) ?_
      refine ld_stepIn (x := .tmp 16) (col_ldB (hE.here.1.2)) rfl rfl ?_
      refine hK _ _ ?_
      clear hK K
      try simp only [PL]
      refine wpAnyIn_relist (l' := #[false, false, true, true, false, false, false]) (by kernel_rfl) ?_
      refine ?c1_23
      refine wpAnyIn_ready (rs := [0, 1]) (by kernel_rfl) (by simp) ?rr126
      refine AllReadyIn.cons rfl (fun K hK => ?_) ?_
      ·
       obtain ⟨k127, k128, k129, k130⟩ := (hE.h4).c4
       have k131 := (hE.h7).c1
       go_simp
       refine hK _ _ ?_
       clear hK K
       try simp only [PL]
       clear k127 k128 k129 k130 k131
       refine wpAnyIn_relist (l' := #[true, false, true, true, false, false, false]) (by kernel_rfl) ?_
       exact ?c1_023
      refine AllReadyIn.cons rfl (fun K hK => ?_) ?_
      ·
       obtain ⟨k132, k133, k134, k135⟩ := (hE.h4).c4
       have k136 := (hE.h7).c1
       go_simp
       refine hK _ _ ?_
       clear hK K
       try simp only [PL]
       clear k132 k133 k134 k135 k136
       refine wpAnyIn_relist (l' := #[false, true, true, true, false, false, false]) (by kernel_rfl) ?_
       exact ?c1_123
      exact AllReadyIn.nil
     exact AllReadyIn.nil
    refine AllReadyIn.cons rfl (fun K hK => ?_) ?_
    ·
     refine Eq.mpr (if_pos (by rfl)) ?_
     refine ld_stepIn (x := .tmp 16) (col_ldB (hE.here.1.2)) rfl rfl ?_
     refine hK _ _ ?_
     clear hK K
     try simp only [PL]
     refine wpAnyIn_relist (l' := #[false, false, false, true, false, false, false]) (by kernel_rfl) ?_
     refine ?c1_3
     refine wpAnyIn_ready (rs := [0, 1, 2]) (by kernel_rfl) (by simp) ?rr137
     refine AllReadyIn.cons rfl (fun K hK => ?_) ?_
     ·
      obtain ⟨k138, k139, k140, k141⟩ := (hE.h4).c4
      have k142 := (hE.h7).c1
      go_simp
      refine hK _ _ ?_
      clear hK K
      try simp only [PL]
      clear k138 k139 k140 k141 k142
      refine wpAnyIn_relist (l' := #[true, false, false, true, false, false, false]) (by kernel_rfl) ?_
      exact ?c1_03
     refine AllReadyIn.cons rfl (fun K hK => ?_) ?_
     ·
      obtain ⟨k143, k144, k145, k146⟩ := (hE.h4).c4
      have k147 := (hE.h7).c1
      go_simp
      refine hK _ _ ?_
      clear hK K
      try simp only [PL]
      clear k143 k144 k145 k146 k147
      refine wpAnyIn_relist (l' := #[false, true, false, true, false, false, false]) (by kernel_rfl) ?_
      exact ?c1_13
     refine AllReadyIn.cons rfl (fun K hK => ?_) ?_
     ·
      obtain ⟨k148, k149, k150, k151⟩ := (hE.h4).c4
      have k152 := (hE.h7).c1
      go_simp
      refine hK _ _ ?_
      clear hK K
      try simp only [PL]
      clear k148 k149 k150 k151 k152
      refine wpAnyIn_relist (l' := #[false, false, true, true, false, false, false]) (by kernel_rfl) ?_
      exact ?c1_23
     exact AllReadyIn.nil
    exact AllReadyIn.nil
   ·
    have t2 : decide ((pre.length : Int) < (b : Int)) = false := decide_eq_false (by omega)
    have HPS : Hid (ps (dd v f) (a : Int) (b : Int) (pre.length + 1) = ps (dd v f) (a : Int) (b : Int) pre.length) := Lib.hid (by simp only [ps]; rw [if_neg (by omega)])
    have k0 := (hE.h9).c1
    have k1 := (hE.h8).c1
    gi_wp2
    refine ⟨(hE.here.2).keeps, (hE.here.2).kp, ⟨⟨?_, (hE.here.2).hs⟩, ?_⟩⟩
    ·
     show PrI w (w.heap.size + 1 + 1) (w.heap.size + 1 + 1 + 1) (w.heap.size + 1 + 1 + 1 + 1) (w.heap.size + 1 + 1 + 1 + 1 + 1) Pp (a : Int) (b : Int) (.func (.func 61) #[] #[]) (ps (dd v f) (a : Int) (b : Int) (pre ++ [Cl.mk pre.length xx]).length) _
     rw [Hlen2.out, HPS.out]
     exact ⟨_, _, _, _, _, _, _, _, (((((((Env.again hE.bel).blkI (hE.h9)).blkI (hE.h8)).blkI (hE.h7)).blkI (hE.h6)).fv (hE.h5)).blkI (hE.h4))⟩
    ·
     show wc.heap.size ≤ _
     exact Nat.le_trans hcW (hE.here.2).keeps.size
  ·
   have t1 : decide ((a : Int) ≤ (pre.length : Int)) = false := decide_eq_false (by omega)
   have HPS : Hid (ps (dd v f) (a : Int) (b : Int) (pre.length + 1) = ps (dd v f) (a : Int) (b : Int) pre.length) := Lib.hid (by simp only [ps]; rw [if_neg (by omega)])
   have k0 := (hE.h9).c1
   have k1 := (hE.h8).c1
   gi_wp2
   refine ⟨(hE.here.2).keeps, (hE.here.2).kp, ⟨⟨?_, (hE.here.2).hs⟩, ?_⟩⟩
   ·
    show PrI w (w.heap.size + 1 + 1) (w.heap.size + 1 + 1 + 1) (w.heap.size + 1 + 1 + 1 + 1) (w.heap.size + 1 + 1 + 1 + 1 + 1) Pp (a : Int) (b : Int) (.func (.func 61) #[] #[]) (ps (dd v f) (a : Int) (b : Int) (pre ++ [Cl.mk pre.length xx]).length) _
    rw [Hlen2.out, HPS.out]
    exact ⟨_, _, _, _, _, _, _, _, (((((((Env.again hE.bel).blkI (hE.h9)).blkI (hE.h8)).blkI (hE.h7)).blkI (hE.h6)).fv (hE.h5)).blkI (hE.h4))⟩
   ·
    show wc.heap.size ≤ _
    exact Nat.le_trans hcW (hE.here.2).keeps.size
 case done =>
  rintro D ys W hD hS ⟨⟨hI, hBs⟩, hcW⟩ hK
  rw [hS.length] at hI
  obtain ⟨sq, Aq, nq, cq, tq, Bq, mq, dq, hE⟩ := hI
  have hE := hE.def_ hK
  clear hK
  obtain ⟨k1, k2, k3, k4⟩ := (hE.here.1.2).c4
  have hgl153 : w.heap.size ≤ w.heap.size + 1 + 1 + 1 + 1 + 1 := by omega
  obtain ⟨x153_0, x153_1, x153_2, x153_3⟩ := (hE.h3).c4
  obtain ⟨f153_0, f153_1, f153_2, f153_3⟩ := hE.h3.f4
  replace hE := ((((((((Env.again (bel4 hE.bel hgl153 (.bool sq) (.slice Aq nq cq) (.bool tq) (.slice Bq mq dq))).blkI ((hE.h6).far4 (R := w.heap.size + 1 + 1 + 1 + 1 + 1) (by omega) (.bool sq) (.slice Aq nq cq) (.bool tq) (.slice Bq mq dq))).blkI ((hE.h5).far4 (R := w.heap.size + 1 + 1 + 1 + 1 + 1) (by omega) (.bool sq) (.slice Aq nq cq) (.bool tq) (.slice Bq mq dq))).blkI ((hE.h4).far4 (R := w.heap.size + 1 + 1 + 1 + 1 + 1) (by omega) (.bool sq) (.slice Aq nq cq) (.bool tq) (.slice Bq mq dq))).blkI ((hE.h3).s4 (.bool sq) (.slice Aq nq cq) (.bool tq) (.slice Bq mq dq))).fv ((hE.h2).sep4 hE.h3 rfl (.bool sq) (.slice Aq nq cq) (.bool tq) (.slice Bq mq dq) rfl rfl rfl)).blkI ((hE.here.1.2).far4 (R := w.heap.size + 1 + 1 + 1 + 1 + 1) (by omega) (.bool sq) (.slice Aq nq cq) (.bool tq) (.slice Bq mq dq))).def_ ((heap_set4 (by omega) (.bool sq) (.slice Aq nq cq) (.bool tq) (.slice Bq mq dq)).trans (hE.here.2)))
  gi_wp2
  clear x153_0 x153_1 x153_2 x153_3 f153_0 f153_1 f153_2 f153_3 hgl153
  generalize ((((W.setCell ⟨w.heap.size + 1 + 1 + 1 + 1 + 1, 0, none⟩ (.bool sq)).setCell ⟨w.heap.size + 1 + 1 + 1 + 1 + 1, 1, none⟩ (.slice Aq nq cq)).setCell ⟨w.heap.size + 1 + 1 + 1 + 1 + 1, 2, none⟩ (.bool tq)).setCell ⟨w.heap.size + 1 + 1 + 1 + 1 + 1, 3, none⟩ (.slice Bq mq dq)) = W153 at hE ⊢
  clear k1 k2 k3 k4
  obtain ⟨hB2, hV2, hb2⟩ := leave_frac (hE.h3) (hE.h2) hE.bel (show w.heap.size ≤ D by omega) (show D ≠ w.heap.size + 1 + 1 + 1 + 1 + 1 by omega) (hE.here.2) (.deferred none)
  refine ⟨by simp, .inl ⟨_, _, rfl, run_takeDeferred (hE.here.2), ?_⟩⟩
  obtain ⟨y0, y1, y2, y3⟩ := hB2.c4
  exact ⟨.tuple #[.agg #[.bool sq, .slice Aq nq cq, .bool tq, .slice Bq mq dq], .int .i64 0], by simp [results, Tryz.results60, go_sem, y0, y1, y2, y3], sq, Aq, nq, cq, tq, Bq, mq, dq, rfl, hV2, hb2⟩
 case stop => exact fun D c pre W hD _ h hK => h.elim
set_option linter.unusedSimpArgs false in
set_option maxRecDepth 100000 in
set_option maxHeartbeats 8000000 in
theorem cpresC_v {F S E Y : Int} {A : Option Addr} {n c : Nat} {r : Nat → RH} {si ti : Bool} {Ai Bi : Option Addr} {ni ci mi di : Nat} {fi gi : Nat → Nat} {w : World} (hT : TabM w A n r) (hB : TabB n r) (hr : FRd w Ai ni fi Bi mi gi) (hn : ni ≤ 1000000) (hm : mi ≤ 1000000) (hbk : BOK F S n r si ni fi ti mi gi) (hR : RightP F S n r E Y) (N : Nat) (hN : Cnt (1 / (1 + qOf si ni fi mi gi)) (fr F S n r E Y) N) (h80 : N ≤ 80) (a b : Nat) (ha : a ≤ 9223372036854775807) (hb : b ≤ 9223372036854775807) :
  Calls Tryz.prog 60 #[.agg #[.int .i64 F, .int .i64 S, .slice A n c, .bool si, .slice Ai ni ci, .bool ti, .slice Bi mi di], .agg #[.int .i64 E, .int .i64 Y], .int .i64 (a : Int), .int .i64 (b : Int), .func (.func 62) #[] #[]] w (FOK (ps (cc (1 / (1 + qOf si ni fi mi gi)) (fr F S n r E Y)) (a : Int) (b : Int) N) w) := by
 obtain ⟨hqv, hi⟩ := intB_rti hr hbk.2
 have hN0 : 0 < N := hN.pos
 have hdis := hi.dis
 have hrts := rt_rates hT hR N
 have hcols := fun (W : World) (hW : Below w.heap.size w W) => ccols1_v (c := c) (ci := ci) (di := di) (hT.below hW) hB (hr.below hW) hn hm hbk hR N hN h80
 obtain ⟨v, hv⟩ : ∃ v, v = 1 / (1 + qOf si ni fi mi gi) := ⟨_, rfl⟩
 obtain ⟨f, hf⟩ : ∃ f, f = fr F S n r E Y := ⟨_, rfl⟩
 rw [← hv] at hdis hN hcols ⊢
 rw [← hf] at hN hcols ⊢
 have hrf : Rts f N := by rw [hf]; exact hrts
 clear hrts
 have t1 : decide ((a : Int) < 0) = false := decide_eq_false (by omega)
 have t2 : decide ((b : Int) < 0) = false := decide_eq_false (by omega)
 have HhT := Lib.hid hT
 clear hT
 have HhB := Lib.hid hB
 clear hB
 have Hhr := Lib.hid hr
 clear hr
 have Hhbk := Lib.hid hbk
 clear hbk
 have HhR := Lib.hid hR
 clear hR
 have HhN := Lib.hid hN
 clear hN
 have Hhqv := Lib.hid hqv
 clear hqv
 have Hhi := Lib.hid hi
 clear hi
 have Hhdis := Lib.hid hdis
 clear hdis
 have Hhrf := Lib.hid hrf
 clear hrf
 have Hhv := Lib.hid hv
 clear hv
 have Hhf := Lib.hid hf
 clear hf
 have Hhcols := Lib.hid hcols
 clear hcols
 refine (callsIn_wide (n := 5)).1 ?_
 have hro : Fence.wide.round = none := rfl
 refine callsIn_of_wp_marks Tryz.func60 rfl trivial ?_ hro
 simp only [Tryz.ntmps60, List.size_toArray, List.length_cons, List.length_nil, Nat.reduceAdd, Nat.reduceSub, Array.replicate_succ, Array.replicate_zero, List.push_toArray, List.append_toArray, List.nil_append, List.cons_append]
 have hE := (((((((Env.start w).blk 31 #[.int .i64 F, .int .i64 S, .slice A n c, .bool si, .slice Ai ni ci, .bool ti, .slice Bi mi di] (g := w.heap.size) rfl).blk 33 #[.int .i64 E, .int .i64 Y] (g := w.heap.size + 1) (by simp)).blk 3 #[.int .i64 (a : Int)] (g := w.heap.size + 1 + 1) (by simp)).blk 3 #[.int .i64 (b : Int)] (g := w.heap.size + 1 + 1 + 1) (by simp)).blk 92 #[.func (.func 62) #[] #[]] (g := w.heap.size + 1 + 1 + 1 + 1) (by simp)).blk 29 #[.bool false, .slice none 0 0, .bool false, .slice none 0 0] (g := w.heap.size + 1 + 1 + 1 + 1 + 1) (by simp))
 obtain ⟨W0, hW0⟩ : ∃ W0, W0 = ((((((w.alloc (.cells #[.int .i64 F, .int .i64 S, .slice A n c, .bool si, .slice Ai ni ci, .bool ti, .slice Bi mi di] 31)).alloc (.cells #[.int .i64 E, .int .i64 Y] 33)).alloc (.cells #[.int .i64 (a : Int)] 3)).alloc (.cells #[.int .i64 (b : Int)] 3)).alloc (.cells #[.func (.func 62) #[] #[]] 92)).alloc (.cells #[.bool false, .slice none 0 0, .bool false, .slice none 0 0] 29)) := ⟨_, rfl⟩
 rw [← hW0] at hE
 have HW0 := Lib.hid hW0
 clear hW0
 gi_wp2
 clear t1 t2
 rw [← HW0.out]
 refine ⟨trivial, (callsIn_wide.2 (Hhcols.out _ hE.bel)).mono ?_⟩
 rintro e wc ⟨cv, h, rfl, hcv, hcq, hb1⟩
 replace hE := hE.step hb1
 have hlc : w.heap.size + 1 + 1 + 1 + 1 + 1 < wc.heap.size := (hE.here.2).lt
 rcases hcv with ⟨-, h0⟩ | ⟨g, cap, rfl, -, hCB⟩
 · omega
 clear hb1
 gi_wp2
 refine ⟨trivial, (callsIn_wide.2 (ffromInt_v 0 _ (by decide) (by decide))).mono ?_⟩
 rintro e w1 ⟨sp, Ap, np, cp, tp, Bp, mp, dp, rfl, hp, hb1⟩
 have hcw : Below wc.heap.size wc w1 := hb1
 replace hE := (hE.step hb1).fv hp
 clear hp
 gi_wp2
 refine ⟨trivial, (call_in 4 _ N cap _).mono ?_⟩
 rintro e w2 ⟨rfl, rfl⟩
 gi_wp2
 have hE := (hE.blk 29 #[.bool sp, .slice Ap np cp, .bool tp, .slice Bp mp dp] (g := w1.heap.size) rfl).blk 43 #[.slice (some ⟨g, 0, none⟩) N cap] (g := w1.heap.size + 1) (by simp)
 have hcP : wc.heap.size ≤ w1.heap.size := hcw.size
 have hcw2 : Below wc.heap.size wc ((w1.alloc (.cells #[.bool sp, .slice Ap np cp, .bool tp, .slice Bp mp dp] 29)).alloc (.cells #[.slice (some ⟨g, 0, none⟩) N cap] 43)) := (hcw.alloc hcP _).alloc (by simp; omega) _
 have hPl : w.heap.size + 1 + 1 + 1 + 1 + 1 < wc.heap.size := hlc
 generalize hPp : w1.heap.size = Pp at hE hcP ⊢
 have hsz : ((w1.alloc (.cells #[.bool sp, .slice Ap np cp, .bool tp, .slice Bp mp dp] 29)).alloc (.cells #[.slice (some ⟨g, 0, none⟩) N cap] 43)).heap.size = Pp + 2 := by simp [hPp]
 generalize (w1.alloc (.cells #[.bool sp, .slice Ap np cp, .bool tp, .slice Bp mp dp] 29)).alloc (.cells #[.slice (some ⟨g, 0, none⟩) N cap] 43) = Wr at hE hsz hcw2 ⊢
 clear hPp hcw hlc
 have hsw : w.heap.size ≤ Wr.heap.size := by omega
 have hcs : wc.heap.size ≤ Wr.heap.size := by omega
 have hL1 : ∀ k, k ≤ N → fl (ps (cc v f) (a : Int) (b : Int) k) ≤ 256 := fun k hk => (ps_len Hhdis.out Hhrf.out h80 (M := 1) (by decide) (a : Int) (b : Int) (fun j hj h => ccA Hhdis.out Hhrf.out hj (a : Int) h) k hk).l (by decide) (by decide) (by omega)
 have hL2 : ∀ k, k < N → (a : Int) ≤ (k : Int) → fl ((cc v f) k) ≤ 256 := fun k hk h => by
  obtain ⟨h1, h2, h3⟩ := (fun j hj h => ccA Hhdis.out Hhrf.out hj (a : Int) h : ∀ j, j < N → (a : Int) ≤ (j : Int) → 0 ≤ (cc v f) j ∧ (cc v f) j ≤ ((1 : Nat) : Rat) ∧ Dv ((cc v f) j) (dE v f N)) k hk h
  exact (Ql.of h1 h2 (dE_pos v f N) h3 (dE_le Hhdis.out Hhrf.out N (Nat.le_refl _))).l (by decide) (by decide) (by omega)
 have HhL1 := Lib.hid hL1
 clear hL1
 have HhL2 := Lib.hid hL2
 clear hL2
 refine rangeV hro (by decide) (gf := 137) (lb := #[.pointer (some ⟨Pp + 1, 0, none⟩)]) rfl trivial (enters_of Tryz.func137 (by kernel_rfl) rfl)
  (call_seq (5 - 1) (by decide) (Pp + 1) wc.heap.size (Nat.le_refl _) hCB hcq h80 Wr hcw2 hE.here.2) KpB.t (KpB.b hcs (by omega)) (Below.refl _ _) (fun _ => rfl)
  (fun pre W => (PrI w (w.heap.size + 1 + 1) (w.heap.size + 1 + 1 + 1) (w.heap.size + 1 + 1 + 1 + 1) (w.heap.size + 1 + 1 + 1 + 1 + 1) Pp (a : Int) (b : Int) (.func (.func 62) #[] #[]) (ps (cc v f) (a : Int) (b : Int) pre.length) W ∧ Pp + 1 < W.heap.size) ∧ wc.heap.size ≤ W.heap.size) (fun _ _ _ => False)
  (fun s W W' row h hg hr => ⟨⟨PrI.grown hsw _ _ _ _ _ _ _ _ _ W W' row h.1.1 hg hr, Nat.lt_of_lt_of_le h.1.2 hg.size⟩, Nat.le_trans h.2 hg.size⟩) (fun _ _ _ _ _ h _ _ => h)
  ⟨⟨⟨_, _, _, _, _, _, _, _, (((((((Env.again hE.bel).blkI (hE.h6)).blkI (hE.h5)).blkI (hE.h4)).blkI (hE.h3)).fv (hE.h2)).blkI (hE.here.1.2))⟩, by omega⟩, hcs⟩
  (CAx (colq v f N) Pp (fun gc yv rv => { tmps := #[.agg #[.int .i64 F, .int .i64 S, .slice A n c, .bool si, .slice Ai ni ci, .bool ti, .slice Bi mi di], .agg #[.int .i64 E, .int .i64 Y], .int .i64 (a : Int), .int .i64 (b : Int), .func (.func 62) #[] #[], .pointer (some ⟨w.heap.size, 0, none⟩), .pointer (some ⟨w.heap.size + 1, 0, none⟩), .pointer (some ⟨w.heap.size + 1 + 1, 0, none⟩), .pointer (some ⟨w.heap.size + 1 + 1 + 1, 0, none⟩), .pointer (some ⟨w.heap.size + 1 + 1 + 1 + 1, 0, none⟩), .pointer (some ⟨w.heap.size + 1 + 1 + 1 + 1 + 1, 0, none⟩), .int .i64 0, .slice (some ⟨g, 0, none⟩) N cap, .int .i64 0, .pointer (some ⟨Pp, 0, none⟩), yv, .pointer (some ⟨gc, 0, none⟩), .int .i64 (a : Int), .bool false, .bool false, .int .i64 (b : Int), .bool false, .bool false, undef, .tuple #[.slice (some ⟨g, 0, none⟩) N cap, .int .i64 0], .agg #[.int .i64 F, .int .i64 S, .slice A n c, .bool si, .slice Ai ni ci, .bool ti, .slice Bi mi di], .agg #[.int .i64 E, .int .i64 Y], .tuple #[.slice (some ⟨g, 0, none⟩) N cap, .int .i64 0], .slice (some ⟨g, 0, none⟩) N cap, .int .i64 0, .int .i64 0, .bool false, undef, undef, .agg #[.bool sp, .slice Ap np cp, .bool tp, .slice Bp mp dp], .slice (some ⟨g, 0, none⟩) N cap, .func (.func 137) #[] #[.pointer (some ⟨Pp + 1, 0, none⟩)], yv, rv, undef, undef, undef, undef, undef, undef, undef, undef, undef, undef, undef, undef, undef, undef, undef], defers := [] })) (fun pre x a' => fun _ W W' row h hg hr => CAx.grown W W' row h hg hr) ?assign ?body ?done ?stop
 case assign =>
  rintro l pre ⟨xk, xx⟩ W K ⟨⟨hI, hBs⟩, hcW⟩ ⟨hxk, hxf⟩ hK
  dsimp only at hxk hxf
  subst hxk
  obtain ⟨V, hst, hld2, hba, -, hbk⟩ := col_store W xx
  have hTr := (Trail.refl (B := Wr.heap.size) (n₀ := wc.heap.size) (Bs := Pp + 1) W hBs hcW).step hba
  have hfin := fun a hax => hK a V hTr.keeps hTr.kp ⟨⟨PrI.step hI hba, Nat.lt_of_lt_of_le hBs hba.size⟩, Nat.le_trans hcW hba.size⟩ ⟨rfl, W.heap.size, hax, by omega, hbk.lt, ⟨(hxf 0 (by decide) (.inl rfl)).below hba, (hxf 3 (by decide) (.inr rfl)).below hba⟩, hbk⟩
  have HF := Lib.hid hfin
  clear hfin hK hI hxf hbk hTr hba hld2
  dsimp only [Cl.vals]
  gi_wp2_with (refine wpListIn_st hst rfl rfl rfl rfl ?_)
  exact HF.out _ rfl
 case body =>
  rintro l pre ⟨xk, xx⟩ a' W ⟨⟨⟨sq, Aq, nq, cq, tq, Bq, mq, dq, hE⟩, hBs⟩, hcW⟩ ⟨hxk, gx, rfl, hg1, hg2, ⟨hx0, hx3⟩, hxb⟩ hlen
  dsimp only at hxk hx0 hx3 hxb hg1 hg2
  subst hxk
  have hE := (((hE.fv hx0).fv hx3).blkI hxb).trail (Trail.refl (B := Wr.heap.size) (n₀ := wc.heap.size) (Bs := Pp + 1) W hBs hcW)
  clear hx0 hx3 hxb
  have hmx : Tryz.prog.follows .mixedOrders = true := by kernel_rfl
  have hlen2 : (pre ++ [Cl.mk pre.length xx]).length = pre.length + 1 := by simp
  have Hlen2 := Lib.hid hlen2
  clear hlen2
  by_cases h1 : a ≤ pre.length
  ·
   have t1 : decide ((a : Int) ≤ (pre.length : Int)) = true := decide_eq_true (by omega)
   by_cases h2 : pre.length < b
   ·
    have t2 : decide ((pre.length : Int) < (b : Int)) = true := decide_eq_true (by omega)
    have HPS : Hid (ps (cc v f) (a : Int) (b : Int) (pre.length + 1) = ps (cc v f) (a : Int) (b : Int) pre.length + (cc v f) pre.length) := Lib.hid (by simp only [ps]; rw [if_pos ⟨by omega, by omega⟩])
    have ha1 : (a : Int) ≤ (pre.length : Int) := by omega
    have lsum := HhL1.out (pre.length + 1) hlen
    rw [HPS.out] at lsum
    have Hlsum := Lib.hid lsum
    clear lsum
    have k0 := (hE.h9).c1
    have k1 := (hE.h8).c1
    gi_wp2
    clear k0 k1 t1 t2
    refine wpIn_region_any (by assumption) ?_
    replace hE := hE.drew
    change wpAnyIn _ _ _ _ _ _ _ _ _ (W.drew)
    generalize W.drew = wd at hE ⊢
    refine wpAnyIn_ready (rs := [0, 1, 2, 3]) (by kernel_rfl) (by simp) ?rr1
    refine AllReadyIn.cons rfl (fun K hK => ?_) ?_
    ·
     obtain ⟨k2, k3, k4, k5⟩ := (hE.h4).c4
     have k6 := (hE.h7).c1
     go_simp
     refine hK _ _ ?_
     clear hK K
     try simp only [PL]
     clear k2 k3 k4 k5 k6
     refine wpAnyIn_relist (l' := #[true, false, false, false, false, false, false]) (by kernel_rfl) ?_
     refine ?c2_0
     refine wpAnyIn_ready (rs := [1, 2, 3]) (by kernel_rfl) (by simp) ?rr7
     refine AllReadyIn.cons rfl (fun K hK => ?_) ?_
     ·
      obtain ⟨k8, k9, k10, k11⟩ := (hE.h4).c4
      have k12 := (hE.h7).c1
      go_simp
      refine hK _ _ ?_
      clear hK K
      try simp only [PL]
      clear k8 k9 k10 k11 k12
      refine wpAnyIn_relist (l' := #[true, true, false, false, false, false, false]) (by kernel_rfl) ?_
      refine ?c2_01
      refine wpAnyIn_ready (rs := [2, 3]) (by kernel_rfl) (by simp) ?rr13
      refine AllReadyIn.cons rfl (fun K hK => ?_) ?_
      ·
       obtain ⟨k14, k15, k16, k17⟩ := (hE.h4).c4
       have k18 := (hE.h7).c1
       go_simp
       refine hK _ _ ?_
       clear hK K
       try simp only [PL]
       clear k14 k15 k16 k17 k18
       refine wpAnyIn_relist (l' := #[true, true, true, false, false, false, false]) (by kernel_rfl) ?_
       refine ?c2_012
       refine wpAnyIn_ready (rs := [3]) (by kernel_rfl) (by simp) ?rr19
       refine AllReadyIn.cons rfl (fun K hK => ?_) ?_
       ·
        refine Eq.mpr (if_pos (by rfl)) ?_
        refine ld_stepIn (x := .tmp 16) (col_ldB (hE.here.1.2)) rfl rfl ?_
        refine hK _ _ ?_
        clear hK K
        try simp only [PL]
        refine wpAnyIn_relist (l' := #[true, true, true, true, false, false, false]) (by kernel_rfl) ?_
        refine ?c2_0123
        refine wpAnyIn_ready (rs := [4]) (by kernel_rfl) (by simp) ?rr20
        refine AllReadyIn.cons rfl (fun K hK => ?_) ?_
        ·
         go_simp
         skip
         first | refine ⟨trivial, fun _ => by omega, (CallsIn.inRound l (callsIn_wide.2 (cofC_v (pre.length : Int) (x := xx) (q := cc v f pre.length) (hE.h2)))).mono ?_⟩ | refine ⟨trivial, (CallsIn.inRound l (callsIn_wide.2 (cofC_v (pre.length : Int) (x := xx) (q := cc v f pre.length) (hE.h2)))).mono ?_⟩ | refine ⟨trivial, trivial, (CallsIn.inRound l (callsIn_wide.2 (cofC_v (pre.length : Int) (x := xx) (q := cc v f pre.length) (hE.h2)))).mono ?_⟩ | refine ⟨trivial, trivial, fun _ => by omega, (CallsIn.inRound l (callsIn_wide.2 (cofC_v (pre.length : Int) (x := xx) (q := cc v f pre.length) (hE.h2)))).mono ?_⟩
         rintro e w21 ⟨so, Ao, no, co, ti, Bo, mo, dob, rfl, ho, hb⟩
         replace hE := hE.step hb
         clear hb
         replace hE := hE.fv ho
         clear ho
         refine hK _ _ ?_
         clear hK K
         try simp only [PL]
         refine wpAnyIn_ready (rs := [5]) (by kernel_rfl) (by simp) ?rr22
         refine AllReadyIn.cons rfl (fun K hK => ?_) ?_
         ·
          go_simp
          skip
          first | refine ⟨trivial, fun _ => by omega, (CallsIn.inRound l (callsIn_wide.2 (cplus_v (ca := cq) (da := dq) (cb := co) (db := dob) hE.h6 hE.here.2 (HhL1.out pre.length (by omega)) (HhL2.out pre.length hlen ha1) Hlsum.out))).mono ?_⟩ | refine ⟨trivial, (CallsIn.inRound l (callsIn_wide.2 (cplus_v (ca := cq) (da := dq) (cb := co) (db := dob) hE.h6 hE.here.2 (HhL1.out pre.length (by omega)) (HhL2.out pre.length hlen ha1) Hlsum.out))).mono ?_⟩ | refine ⟨trivial, trivial, (CallsIn.inRound l (callsIn_wide.2 (cplus_v (ca := cq) (da := dq) (cb := co) (db := dob) hE.h6 hE.here.2 (HhL1.out pre.length (by omega)) (HhL2.out pre.length hlen ha1) Hlsum.out))).mono ?_⟩ | refine ⟨trivial, trivial, fun _ => by omega, (CallsIn.inRound l (callsIn_wide.2 (cplus_v (ca := cq) (da := dq) (cb := co) (db := dob) hE.h6 hE.here.2 (HhL1.out pre.length (by omega)) (HhL2.out pre.length hlen ha1) Hlsum.out))).mono ?_⟩
          rintro e w23 ⟨sz, Az, nz, cz, tz, Bz, mz, dz, rfl, hz, hb⟩
          replace hE := hE.step hb
          clear hb
          replace hE := hE.fv hz
          clear hz
          refine hK _ _ ?_
          clear hK K
          try simp only [PL]
          refine wpAnyIn_ready (rs := [6]) (by kernel_rfl) (by simp) ?rr24
          refine AllReadyIn.cons rfl (fun K hK => ?_) ?_
          ·
           have hgl25 : w.heap.size ≤ Pp := by omega
           obtain ⟨x25_0, x25_1, x25_2, x25_3⟩ := (hE.h6).c4
           obtain ⟨f25_0, f25_1, f25_2, f25_3⟩ := hE.h6.f4
           replace hE := (((((((((((((Env.again (bel4 hE.bel hgl25 (.bool sz) (.slice Az nz cz) (.bool tz) (.slice Bz mz dz))).blkI ((hE.h11).far4 (R := Pp) (by omega) (.bool sz) (.slice Az nz cz) (.bool tz) (.slice Bz mz dz))).blkI ((hE.h10).far4 (R := Pp) (by omega) (.bool sz) (.slice Az nz cz) (.bool tz) (.slice Bz mz dz))).blkI ((hE.h9).far4 (R := Pp) (by omega) (.bool sz) (.slice Az nz cz) (.bool tz) (.slice Bz mz dz))).blkI ((hE.h8).far4 (R := Pp) (by omega) (.bool sz) (.slice Az nz cz) (.bool tz) (.slice Bz mz dz))).fv ((hE.h7).sep4 hE.h6 rfl (.bool sz) (.slice Az nz cz) (.bool tz) (.slice Bz mz dz) rfl rfl rfl)).blkI ((hE.h6).s4 (.bool sz) (.slice Az nz cz) (.bool tz) (.slice Bz mz dz))).fv ((hE.h5).sep4 hE.h6 rfl (.bool sz) (.slice Az nz cz) (.bool tz) (.slice Bz mz dz) rfl rfl rfl)).fv ((hE.h4).sep4 hE.h6 rfl (.bool sz) (.slice Az nz cz) (.bool tz) (.slice Bz mz dz) rfl rfl rfl)).blkI ((hE.h3).far4 (R := Pp) (by omega) (.bool sz) (.slice Az nz cz) (.bool tz) (.slice Bz mz dz))).trail ((hE.h2).set4 ⟨by omega, by omega, by omega⟩ (.bool sz) (.slice Az nz cz) (.bool tz) (.slice Bz mz dz))).fv ((hE.here.1.2).sep4 hE.h6 rfl (.bool sz) (.slice Az nz cz) (.bool tz) (.slice Bz mz dz) rfl rfl rfl)).fv ((hE.here.2).sep4 hE.h6 rfl (.bool sz) (.slice Az nz cz) (.bool tz) (.slice Bz mz dz) rfl rfl rfl))
           go_simp
           clear x25_0 x25_1 x25_2 x25_3 f25_0 f25_1 f25_2 f25_3 hgl25
           generalize ((((w23.setCell ⟨Pp, 0, none⟩ (.bool sz)).setCell ⟨Pp, 1, none⟩ (.slice Az nz cz)).setCell ⟨Pp, 2, none⟩ (.bool tz)).setCell ⟨Pp, 3, none⟩ (.slice Bz mz dz)) = W25 at hE ⊢
           refine hK _ _ ?_
           clear hK K
           try simp only [PL]
           refine wpAnyIn_done (by kernel_rfl) ?_ _
           refine ⟨(hE.h2).keeps, (hE.h2).kp, ⟨⟨?_, (hE.h2).hs⟩, ?_⟩⟩
           ·
            show PrI w (w.heap.size + 1 + 1) (w.heap.size + 1 + 1 + 1) (w.heap.size + 1 + 1 + 1 + 1) (w.heap.size + 1 + 1 + 1 + 1 + 1) Pp (a : Int) (b : Int) (.func (.func 62) #[] #[]) (ps (cc v f) (a : Int) (b : Int) (pre ++ [Cl.mk pre.length xx]).length) _
            rw [Hlen2.out, HPS.out]
            exact ⟨_, _, _, _, _, _, _, _, (((((((Env.again hE.bel).blkI (hE.h11)).blkI (hE.h10)).blkI (hE.h9)).blkI (hE.h8)).fv (hE.here.2)).blkI (hE.h6))⟩
           ·
            show wc.heap.size ≤ _
            exact Nat.le_trans hcW (hE.h2).keeps.size
          exact AllReadyIn.nil
         exact AllReadyIn.nil
        exact AllReadyIn.nil
       exact AllReadyIn.nil
      refine AllReadyIn.cons rfl (fun K hK => ?_) ?_
      ·
       refine Eq.mpr (if_pos (by rfl)) ?_
       refine ld_stepIn (x := .tmp 16) (col_ldB (hE.here.1.2)) rfl rfl ?_
       refine hK _ _ ?_
       clear hK K
       try simp only [PL]
       refine wpAnyIn_relist (l' := #[true, true, false, true, false, false, false]) (by kernel_rfl) ?_
       refine ?c2_013
       refine wpAnyIn_ready (rs := [2]) (by kernel_rfl) (by simp) ?rr26
       refine AllReadyIn.cons rfl (fun K hK => ?_) ?_
       ·
        obtain ⟨k27, k28, k29, k30⟩ := (hE.h4).c4
        have k31 := (hE.h7).c1
        go_simp
        refine hK _ _ ?_
        clear hK K
        try simp only [PL]
        clear k27 k28 k29 k30 k31
        refine wpAnyIn_relist (l' := #[true, true, true, true, false, false, false]) (by kernel_rfl) ?_
        exact ?c2_0123
       exact AllReadyIn.nil
      exact AllReadyIn.nil
     refine AllReadyIn.cons rfl (fun K hK => ?_) ?_
     ·
      obtain ⟨k32, k33, k34, k35⟩ := (hE.h4).c4
      have k36 := (hE.h7).c1
      go_simp
      refine hK _ _ ?_
      clear hK K
      try simp only [PL]
      clear k32 k33 k34 k35 k36
      refine wpAnyIn_relist (l' := #[true, false, true, false, false, false, false]) (by kernel_rfl) ?_
      refine ?c2_02
      refine wpAnyIn_ready (rs := [1, 3]) (by kernel_rfl) (by simp) ?rr37
      refine AllReadyIn.cons rfl (fun K hK => ?_) ?_
      ·
       obtain ⟨k38, k39, k40, k41⟩ := (hE.h4).c4
       have k42 := (hE.h7).c1
       go_simp
       refine hK _ _ ?_
       clear hK K
       try simp only [PL]
       clear k38 k39 k40 k41 k42
       refine wpAnyIn_relist (l' := #[true, true, true, false, false, false, false]) (by kernel_rfl) ?_
       exact ?c2_012
      refine AllReadyIn.cons rfl (fun K hK => ?_) ?_
      ·
       refine Eq.mpr (if_pos (by rfl)) ?_
       refine ld_stepIn (x := .tmp 16) (col_ldB (hE.here.1.2)) rfl rfl ?_
       refine hK _ _ ?_
       clear hK K
       try simp only [PL]
       refine wpAnyIn_relist (l' := #[true, false, true, true, false, false, false]) (by kernel_rfl) ?_
       refine ?c2_023
       refine wpAnyIn_ready (rs := [1]) (by kernel_rfl) (by simp) ?rr43
       refine AllReadyIn.cons rfl (fun K hK => ?_) ?_
       ·
        obtain ⟨k44, k45, k46, k47⟩ := (hE.h4).c4
        have k48 := (hE.h7).c1
        go_simp
        refine hK _ _ ?_
        clear hK K
        try simp only [PL]
        clear k44 k45 k46 k47 k48
        refine wpAnyIn_relist (l' := #[true, true, true, true, false, false, false]) (by kernel_rfl) ?_
        exact ?c2_0123
       exact AllReadyIn.nil
      exact AllReadyIn.nil
     refine AllReadyIn.cons rfl (fun K hK => ?_) ?_
     ·
      refine Eq.mpr (if_pos (by rfl)) ?_
      refine ld_stepIn (x := .tmp 16) (col_ldB (hE.here.1.2)) rfl rfl ?_
      refine hK _ _ ?_
      clear hK K
      try simp only [PL]
      refine wpAnyIn_relist (l' := #[true, false, false, true, false, false, false]) (by kernel_rfl) ?_
      refine ?c2_03
      refine wpAnyIn_ready (rs := [1, 2]) (by kernel_rfl) (by simp) ?rr49
      refine AllReadyIn.cons rfl (fun K hK => ?_) ?_
      ·
       obtain ⟨k50, k51, k52, k53⟩ := (hE.h4).c4
       have k54 := (hE.h7).c1
       go_simp
       refine hK _ _ ?_
       clear hK K
       try simp only [PL]
       clear k50 k51 k52 k53 k54
       refine wpAnyIn_relist (l' := #[true, true, false, true, false, false, false]) (by kernel_rfl) ?_
       exact ?c2_013
      refine AllReadyIn.cons rfl (fun K hK => ?_) ?_
      ·
       obtain ⟨k55, k56, k57, k58⟩ := (hE.h4).c4
       have k59 := (hE.h7).c1
       go_simp
       refine hK _ _ ?_
       clear hK K
       try simp only [PL]
       clear k55 k56 k57 k58 k59
       refine wpAnyIn_relist (l' := #[true, false, true, true, false, false, false]) (by kernel_rfl) ?_
       exact ?c2_023
      exact AllReadyIn.nil
     exact AllReadyIn.nil
    refine AllReadyIn.cons rfl (fun K hK => ?_) ?_
    ·
     obtain ⟨k60, k61, k62, k63⟩ := (hE.h4).c4
     have k64 := (hE.h7).c1
     go_simp
     refine hK _ _ ?_
     clear hK K
     try simp only [PL]
     clear k60 k61 k62 k63 k64
     refine wpAnyIn_relist (l' := #[false, true, false, false, false, false, false]) (by kernel_rfl) ?_
     refine ?c2_1
     refine wpAnyIn_ready (rs := [0, 2, 3]) (by kernel_rfl) (by simp) ?rr65
     refine AllReadyIn.cons rfl (fun K hK => ?_) ?_
     ·
      obtain ⟨k66, k67, k68, k69⟩ := (hE.h4).c4
      have k70 := (hE.h7).c1
      go_simp
      refine hK _ _ ?_
      clear hK K
      try simp only [PL]
      clear k66 k67 k68 k69 k70
      refine wpAnyIn_relist (l' := #[true, true, false, false, false, false, false]) (by kernel_rfl) ?_
      exact ?c2_01
     refine AllReadyIn.cons rfl (fun K hK => ?_) ?_
     ·
      obtain ⟨k71, k72, k73, k74⟩ := (hE.h4).c4
      have k75 := (hE.h7).c1
      go_simp
      refine hK _ _ ?_
      clear hK K
      try simp only [PL]
      clear k71 k72 k73 k74 k75
      refine wpAnyIn_relist (l' := #[false, true, true, false, false, false, false]) (by kernel_rfl) ?_
      refine ?c2_12
      refine wpAnyIn_ready (rs := [0, 3]) (by kernel_rfl) (by simp) ?rr76
      refine AllReadyIn.cons rfl (fun K hK => ?_) ?_
      ·
       obtain ⟨k77, k78, k79, k80⟩ := (hE.h4).c4
       have k81 := (hE.h7).c1
       go_simp
       refine hK _ _ ?_
       clear hK K
       try simp only [PL]
       clear k77 k78 k79 k80 k81
       refine wpAnyIn_relist (l' := #[true, true, true, false, false, false, false]) (by kernel_rfl) ?_
       exact ?c2_012
      refine AllReadyIn.cons rfl (fun K hK => ?_) ?_
      ·
       refine Eq.mpr (if_pos (by rfl)) ?_
       refine ld_stepIn (x := .tmp 16) (col_ldB (hE.here.1.2)) rfl rfl ?_
       refine hK _ _ ?_
       clear hK K
       try simp only [PL]
       refine wpAnyIn_relist (l' := #[false, true, true, true, false, false, false]) (by kernel_rfl) ?_
       refine ?c2_123
       refine wpAnyIn_ready (rs := [0, 4]) (by kernel_rfl) (by simp) ?rr82
       refine AllReadyIn.cons rfl (fun K hK => ?_) ?_
       ·
        obtain ⟨k83, k84, k85, k86⟩ := (hE.h4).c4
        have k87 := (hE.h7).c1
        go_simp
        refine hK _ _ ?_
        clear hK K
        try simp only [PL]
        clear k83 k84 k85 k86 k87
        refine wpAnyIn_relist (l' := #[true, true, true, true, false, false, false]) (by kernel_rfl) ?_
        exact ?c2_0123
       refine AllReadyIn.cons rfl (fun K hK => ?_) ?_
       ·
        go_simp
        skip
        first | refine ⟨trivial, fun _ => by omega, (CallsIn.inRound l (callsIn_wide.2 (cofC_v (pre.length : Int) (x := xx) (q := cc v f pre.length) (hE.h2)))).mono ?_⟩ | refine ⟨trivial, (CallsIn.inRound l (callsIn_wide.2 (cofC_v (pre.length : Int) (x := xx) (q := cc v f pre.length) (hE.h2)))).mono ?_⟩ | refine ⟨trivial, trivial, (CallsIn.inRound l (callsIn_wide.2 (cofC_v (pre.length : Int) (x := xx) (q := cc v f pre.length) (hE.h2)))).mono ?_⟩ | refine ⟨trivial, trivial, fun _ => by omega, (CallsIn.inRound l (callsIn_wide.2 (cofC_v (pre.length : Int) (x := xx) (q := cc v f pre.length) (hE.h2)))).mono ?_⟩
        rintro e w88 ⟨so, Ao, no, co, ti, Bo, mo, dob, rfl, ho, hb⟩
        replace hE := hE.step hb
        clear hb
        replace hE := hE.fv ho
        clear ho
        refine hK _ _ ?_
        clear hK K
        try simp only [PL]
        refine wpAnyIn_ready (rs := [0]) (by kernel_rfl) (by simp) ?rr89
        refine AllReadyIn.cons rfl (fun K hK => ?_) ?_
        ·
         obtain ⟨k90, k91, k92, k93⟩ := (hE.h5).c4
         have k94 := (hE.h8).c1
         go_simp
         refine hK _ _ ?_
         clear hK K
         try simp only [PL]
         clear k90 k91 k92 k93 k94
         refine wpAnyIn_ready (rs := [5]) (by kernel_rfl) (by simp) ?rr95
         refine AllReadyIn.cons rfl (fun K hK => ?_) ?_
         ·
          go_simp
          skip
          first | refine ⟨trivial, fun _ => by omega, (CallsIn.inRound l (callsIn_wide.2 (cplus_v (ca := cq) (da := dq) (cb := co) (db := dob) hE.h6 hE.here.2 (HhL1.out pre.length (by omega)) (HhL2.out pre.length hlen ha1) Hlsum.out))).mono ?_⟩ | refine ⟨trivial, (CallsIn.inRound l (callsIn_wide.2 (cplus_v (ca := cq) (da := dq) (cb := co) (db := dob) hE.h6 hE.here.2 (HhL1.out pre.length (by omega)) (HhL2.out pre.length hlen ha1) Hlsum.out))).mono ?_⟩ | refine ⟨trivial, trivial, (CallsIn.inRound l (callsIn_wide.2 (cplus_v (ca := cq) (da := dq) (cb := co) (db := dob) hE.h6 hE.here.2 (HhL1.out pre.length (by omega)) (HhL2.out pre.length hlen ha1) Hlsum.out))).mono ?_⟩ | refine ⟨trivial, trivial, fun _ => by omega, (CallsIn.inRound l (callsIn_wide.2 (cplus_v (ca := cq) (da := dq) (cb := co) (db := dob) hE.h6 hE.here.2 (HhL1.out pre.length (by omega)) (HhL2.out pre.length hlen ha1) Hlsum.out))).mono ?_⟩
          rintro e w96 ⟨sz, Az, nz, cz, tz, Bz, mz, dz, rfl, hz, hb⟩
          replace hE := hE.step hb
          clear hb
          replace hE := hE.fv hz
          clear hz
          refine hK _ _ ?_
          clear hK K
          try simp only [PL]
          refine wpAnyIn_ready (rs := [6]) (by kernel_rfl) (by simp) ?rr97
          refine AllReadyIn.cons rfl (fun K hK => ?_) ?_
          ·
           have hgl98 : w.heap.size ≤ Pp := by omega
           obtain ⟨x98_0, x98_1, x98_2, x98_3⟩ := (hE.h6).c4
           obtain ⟨f98_0, f98_1, f98_2, f98_3⟩ := hE.h6.f4
           replace hE := (((((((((((((Env.again (bel4 hE.bel hgl98 (.bool sz) (.slice Az nz cz) (.bool tz) (.slice Bz mz dz))).blkI ((hE.h11).far4 (R := Pp) (by omega) (.bool sz) (.slice Az nz cz) (.bool tz) (.slice Bz mz dz))).blkI ((hE.h10).far4 (R := Pp) (by omega) (.bool sz) (.slice Az nz cz) (.bool tz) (.slice Bz mz dz))).blkI ((hE.h9).far4 (R := Pp) (by omega) (.bool sz) (.slice Az nz cz) (.bool tz) (.slice Bz mz dz))).blkI ((hE.h8).far4 (R := Pp) (by omega) (.bool sz) (.slice Az nz cz) (.bool tz) (.slice Bz mz dz))).fv ((hE.h7).sep4 hE.h6 rfl (.bool sz) (.slice Az nz cz) (.bool tz) (.slice Bz mz dz) rfl rfl rfl)).blkI ((hE.h6).s4 (.bool sz) (.slice Az nz cz) (.bool tz) (.slice Bz mz dz))).fv ((hE.h5).sep4 hE.h6 rfl (.bool sz) (.slice Az nz cz) (.bool tz) (.slice Bz mz dz) rfl rfl rfl)).fv ((hE.h4).sep4 hE.h6 rfl (.bool sz) (.slice Az nz cz) (.bool tz) (.slice Bz mz dz) rfl rfl rfl)).blkI ((hE.h3).far4 (R := Pp) (by omega) (.bool sz) (.slice Az nz cz) (.bool tz) (.slice Bz mz dz))).trail ((hE.h2).set4 ⟨by omega, by omega, by omega⟩ (.bool sz) (.slice Az nz cz) (.bool tz) (.slice Bz mz dz))).fv ((hE.here.1.2).sep4 hE.h6 rfl (.bool sz) (.slice Az nz cz) (.bool tz) (.slice Bz mz dz) rfl rfl rfl)).fv ((hE.here.2).sep4 hE.h6 rfl (.bool sz) (.slice Az nz cz) (.bool tz) (.slice Bz mz dz) rfl rfl rfl))
           go_simp
           clear x98_0 x98_1 x98_2 x98_3 f98_0 f98_1 f98_2 f98_3 hgl98
           generalize ((((w96.setCell ⟨Pp, 0, none⟩ (.bool sz)).setCell ⟨Pp, 1, none⟩ (.slice Az nz cz)).setCell ⟨Pp, 2, none⟩ (.bool tz)).setCell ⟨Pp, 3, none⟩ (.slice Bz mz dz)) = W98 at hE ⊢
           refine hK _ _ ?_
           clear hK K
           try simp only [PL]
           refine wpAnyIn_done (by kernel_rfl) ?_ _
           refine ⟨(hE.h2).keeps, (hE.h2).kp, ⟨⟨?_, (hE.h2).hs⟩, ?_⟩⟩
           ·
            show PrI w (w.heap.size + 1 + 1) (w.heap.size + 1 + 1 + 1) (w.heap.size + 1 + 1 + 1 + 1) (w.heap.size + 1 + 1 + 1 + 1 + 1) Pp (a : Int) (b : Int) (.func (.func 62) #[] #[]) (ps (cc v f) (a : Int) (b : Int) (pre ++ [Cl.mk pre.length xx]).length) _
            rw [Hlen2.out, HPS.out]
            exact ⟨_, _, _, _, _, _, _, _, (((((((Env.again hE.bel).blkI (hE.h11)).blkI (hE.h10)).blkI (hE.h9)).blkI (hE.h8)).fv (hE.here.2)).blkI (hE.h6))⟩
           ·
            show wc.heap.size ≤ _
            exact Nat.le_trans hcW (hE.h2).keeps.size
          exact AllReadyIn.nil
         exact AllReadyIn.nil
        exact AllReadyIn.nil
       exact AllReadyIn.nil
      exact AllReadyIn.nil
     refine AllReadyIn.cons rfl (fun K hK => ?_) ?_
     ·
      refine Eq.mpr (if_pos (by rfl)) ?_
      refine ld_stepIn (x := .tmp 16) (col_ldB (hE.here.1.2)) rfl rfl ?_
      refine hK _ _ ?_
      clear hK K
      try simp only [PL]
      refine wpAnyIn_relist (l' := #[false, true, false, true, false, false, false]) (by kernel_rfl) ?_
      refine ?c2_13
      refine wpAnyIn_ready (rs := [0, 2]) (by kernel_rfl) (by simp) ?rr99
      refine AllReadyIn.cons rfl (fun K hK => ?_) ?_
      ·
       obtain ⟨k100, k101, k102, k103⟩ := (hE.h4).c4
       have k104 := (hE.h7).c1
       go_simp
       refine hK _ _ ?_
       clear hK K
       try simp only [PL]
       clear k100 k101 k102 k103 k104
       refine wpAnyIn_relist (l' := #[true, true, false, true, false, false, false]) (by kernel_rfl) ?_
       exact ?c2_013
      refine AllReadyIn.cons rfl (fun K hK => ?_) ?_
      ·
       obtain ⟨k105, k106, k107, k108⟩ := (hE.h4).c4
       have k109 := (hE.h7).c1
       go_simp
       refine hK _ _ ?_
       clear hK K
       try simp only [PL]
       clear k105 k106 k107 k108 k109
       refine wpAnyIn_relist (l' := #[false, true, true, true, false, false, false]) (by kernel_rfl) ?_
       exact ?c2_123
      exact AllReadyIn.nil
     exact AllReadyIn.nil
    refine AllReadyIn.cons rfl (fun K hK => ?_) ?_
    ·
     obtain ⟨k110, k111, k112, k113⟩ := (hE.h4).c4
     have k114 := (hE.h7).c1
     go_simp
     refine hK _ _ ?_
     clear hK K
     try simp only [PL]
     clear k110 k111 k112 k113 k114
     refine wpAnyIn_relist (l' := #[false, false, true, false, false, false, false]) (by kernel_rfl) ?_
     refine ?c2_2
     refine wpAnyIn_ready (rs := [0, 1, 3]) (by kernel_rfl) (by simp) ?rr115
     refine AllReadyIn.cons rfl (fun K hK => ?_) ?_
     ·
      obtain ⟨k116, k117, k118, k119⟩ := (hE.h4).c4
      have k120 := (hE.h7).c1
      go_simp
      refine hK _ _ ?_
      clear hK K
      try simp only [PL]
      clear k116 k117 k118 k119 k120
      refine wpAnyIn_relist (l' := #[true, false, true, false, false, false, false]) (by kernel_rfl) ?_
      exact ?c2_02
     refine AllReadyIn.cons rfl (fun K hK => ?_) ?_
     ·
      obtain ⟨k121, k122, k123, k124⟩ := (hE.h4).c4
      have k125 := (hE.h7).c1
      go_simp
      refine hK _ _ ?_
      clear hK K
      try simp only [PL]
      clear k121 k122 k123 k124 k125
      refine wpAnyIn_relist (l' := #[false, true, true, false, false, false, false]) (by kernel_rfl) ?_
      exact ?c2_12
     refine AllReadyIn.cons rfl (fun K hK => ?_) ?_
     ·
      refine Eq.mpr (if_pos (by rfl)) ?_
      refine ld_stepIn (x := .tmp 16) (col_ldB (hE.here.1.2)) rfl rfl ?_
      refine hK _ _ ?_
      clear hK K
      try simp only [PL]
      refine wpAnyIn_relist (l' := #[false, false, true, true, false, false, false]) (by kernel_rfl) ?_
      refine ?c2_23
      refine wpAnyIn_ready (rs := [0, 1]) (by kernel_rfl) (by simp) ?rr126
      refine AllReadyIn.cons rfl (fun K hK => ?_) ?_
      ·
       obtain ⟨k127, k128, k129, k130⟩ := (hE.h4).c4
       have k131 := (hE.h7).c1
       go_simp
       refine hK _ _ ?_
       clear hK K
       try simp only [PL]
       clear k127 k128 k129 k130 k131
       refine wpAnyIn_relist (l' := #[true, false, true, true, false, false, false]) (by kernel_rfl) ?_
       exact ?c2_023
      refine AllReadyIn.cons rfl (fun K hK => ?_) ?_
      ·
       obtain ⟨k132, k133, k134, k135⟩ := (hE.h4).c4
       have k136 := (hE.h7).c1
       go_simp
       refine hK _ _ ?_
       clear hK K
       try simp only [PL]
       clear k132 k133 k134 k135 k136
       refine wpAnyIn_relist (l' := #[false, true, true, true, false, false, false]) (by kernel_rfl) ?_
       exact ?c2_123
      exact AllReadyIn.nil
     exact AllReadyIn.nil
    refine AllReadyIn.cons rfl (fun K hK => ?_) ?_
    ·
     refine Eq.mpr (if_pos (by rfl)) ?_
     refine ld_stepIn (x := .tmp 16) (col_ldB (hE.here.1.2)) rfl rfl ?_
     refine hK _ _ ?_
     clear hK K
     try simp only [PL]
     refine wpAnyIn_relist (l' := #[false, false, false, true, false, false, false]) (by kernel_rfl) ?_
     refine ?c2_3
     refine wpAnyIn_ready (rs := [0, 1, 2]) (by kernel_rfl) (by simp) ?rr137
     refine AllReadyIn.cons rfl (fun K hK => ?_) ?_
     ·
      obtain ⟨k138, k139, k140, k141⟩ := (hE.h4).c4
      have k142 := (hE.h7).c1
      go_simp
      refine hK _ _ ?_
      clear hK K
      try simp only [PL]
      clear k138 k139 k140 k141 k142
      refine wpAnyIn_relist (l' := #[true, false, false, true, false, false, false]) (by kernel_rfl) ?_
      exact ?c2_03
     refine AllReadyIn.cons rfl (fun K hK => ?_) ?_
     ·
      obtain ⟨k143, k144, k145, k146⟩ := (hE.h4).c4
      have k147 := (hE.h7).c1
      go_simp
      refine hK _ _ ?_
      clear hK K
      try simp only [PL]
      clear k143 k144 k145 k146 k147
      refine wpAnyIn_relist (l' := #[false, true, false, true, false, false, false]) (by kernel_rfl) ?_
      exact ?c2_13
     refine AllReadyIn.cons rfl (fun K hK => ?_) ?_
     ·
      obtain ⟨k148, k149, k150, k151⟩ := (hE.h4).c4
      have k152 := (hE.h7).c1
      go_simp
      refine hK _ _ ?_
      clear hK K
      try simp only [PL]
      clear k148 k149 k150 k151 k152
      refine wpAnyIn_relist (l' := #[false, false, true, true, false, false, false]) (by kernel_rfl) ?_
      exact ?c2_23
     exact AllReadyIn.nil
    exact AllReadyIn.nil
   ·
    have t2 : decide ((pre.length : Int) < (b : Int)) = false := decide_eq_false (by omega)
    have HPS : Hid (ps (cc v f) (a : Int) (b : Int) (pre.length + 1) = ps (cc v f) (a : Int) (b : Int) pre.length) := Lib.hid (by simp only [ps]; rw [if_neg (by omega)])
    have k0 := (hE.h9).c1
    have k1 := (hE.h8).c1
    gi_wp2
    refine ⟨(hE.here.2).keeps, (hE.here.2).kp, ⟨⟨?_, (hE.here.2).hs⟩, ?_⟩⟩
    ·
     show PrI w (w.heap.size + 1 + 1) (w.heap.size + 1 + 1 + 1) (w.heap.size + 1 + 1 + 1 + 1) (w.heap.size + 1 + 1 + 1 + 1 + 1) Pp (a : Int) (b : Int) (.func (.func 62) #[] #[]) (ps (cc v f) (a : Int) (b : Int) (pre ++ [Cl.mk pre.length xx]).length) _
     rw [Hlen2.out, HPS.out]
     exact ⟨_, _, _, _, _, _, _, _, (((((((Env.again hE.bel).blkI (hE.h9)).blkI (hE.h8)).blkI (hE.h7)).blkI (hE.h6)).fv (hE.h5)).blkI (hE.h4))⟩
    ·
     show wc.heap.size ≤ _
     exact Nat.le_trans hcW (hE.here.2).keeps.size
  ·
   have t1 : decide ((a : Int) ≤ (pre.length : Int)) = false := decide_eq_false (by omega)
   have HPS : Hid (ps (cc v f) (a : Int) (b : Int) (pre.length + 1) = ps (cc v f) (a : Int) (b : Int) pre.length) := Lib.hid (by simp only [ps]; rw [if_neg (by omega)])
   have k0 := (hE.h9).c1
   have k1 := (hE.h8).c1
   gi_wp2
   refine ⟨(hE.here.2).keeps, (hE.here.2).kp, ⟨⟨?_, (hE.here.2).hs⟩, ?_⟩⟩
   ·
    show PrI w (w.heap.size + 1 + 1) (w.heap.size + 1 + 1 + 1) (w.heap.size + 1 + 1 + 1 + 1) (w.heap.size + 1 + 1 + 1 + 1 + 1) Pp (a : Int) (b : Int) (.func (.func 62) #[] #[]) (ps (cc v f) (a : Int) (b : Int) (pre ++ [Cl.mk pre.length xx]).length) _
    rw [Hlen2.out, HPS.out]
    exact ⟨_, _, _, _, _, _, _, _, (((((((Env.again hE.bel).blkI (hE.h9)).blkI (hE.h8)).blkI (hE.h7)).blkI (hE.h6)).fv (hE.h5)).blkI (hE.h4))⟩
   ·
    show wc.heap.size ≤ _
    exact Nat.le_trans hcW (hE.here.2).keeps.size
 case done =>
  rintro D ys W hD hS ⟨⟨hI, hBs⟩, hcW⟩ hK
  rw [hS.length] at hI
  obtain ⟨sq, Aq, nq, cq, tq, Bq, mq, dq, hE⟩ := hI
  have hE := hE.def_ hK
  clear hK
  obtain ⟨k1, k2, k3, k4⟩ := (hE.here.1.2).c4
  have hgl153 : w.heap.size ≤ w.heap.size + 1 + 1 + 1 + 1 + 1 := by omega
  obtain ⟨x153_0, x153_1, x153_2, x153_3⟩ := (hE.h3).c4
  obtain ⟨f153_0, f153_1, f153_2, f153_3⟩ := hE.h3.f4
  replace hE := ((((((((Env.again (bel4 hE.bel hgl153 (.bool sq) (.slice Aq nq cq) (.bool tq) (.slice Bq mq dq))).blkI ((hE.h6).far4 (R := w.heap.size + 1 + 1 + 1 + 1 + 1) (by omega) (.bool sq) (.slice Aq nq cq) (.bool tq) (.slice Bq mq dq))).blkI ((hE.h5).far4 (R := w.heap.size + 1 + 1 + 1 + 1 + 1) (by omega) (.bool sq) (.slice Aq nq cq) (.bool tq) (.slice Bq mq dq))).blkI ((hE.h4).far4 (R := w.heap.size + 1 + 1 + 1 + 1 + 1) (by omega) (.bool sq) (.slice Aq nq cq) (.bool tq) (.slice Bq mq dq))).blkI ((hE.h3).s4 (.bool sq) (.slice Aq nq cq) (.bool tq) (.slice Bq mq dq))).fv ((hE.h2).sep4 hE.h3 rfl (.bool sq) (.slice Aq nq cq) (.bool tq) (.slice Bq mq dq) rfl rfl rfl)).blkI ((hE.here.1.2).far4 (R := w.heap.size + 1 + 1 + 1 + 1 + 1) (by omega) (.bool sq) (.slice Aq nq cq) (.bool tq) (.slice Bq mq dq))).def_ ((heap_set4 (by omega) (.bool sq) (.slice Aq nq cq) (.bool tq) (.slice Bq mq dq)).trans (hE.here.2)))
  gi_wp2
  clear x153_0 x153_1 x153_2 x153_3 f153_0 f153_1 f153_2 f153_3 hgl153
  generalize ((((W.setCell ⟨w.heap.size + 1 + 1 + 1 + 1 + 1, 0, none⟩ (.bool sq)).setCell ⟨w.heap.size + 1 + 1 + 1 + 1 + 1, 1, none⟩ (.slice Aq nq cq)).setCell ⟨w.heap.size + 1 + 1 + 1 + 1 + 1, 2, none⟩ (.bool tq)).setCell ⟨w.heap.size + 1 + 1 + 1 + 1 + 1, 3, none⟩ (.slice Bq mq dq)) = W153 at hE ⊢
  clear k1 k2 k3 k4
  obtain ⟨hB2, hV2, hb2⟩ := leave_frac (hE.h3) (hE.h2) hE.bel (show w.heap.size ≤ D by omega) (show D ≠ w.heap.size + 1 + 1 + 1 + 1 + 1 by omega) (hE.here.2) (.deferred none)
  refine ⟨by simp, .inl ⟨_, _, rfl, run_takeDeferred (hE.here.2), ?_⟩⟩
  obtain ⟨y0, y1, y2, y3⟩ := hB2.c4
  exact ⟨.tuple #[.agg #[.bool sq, .slice Aq nq cq, .bool tq, .slice Bq mq dq], .int .i64 0], by simp [results, Tryz.results60, go_sem, y0, y1, y2, y3], sq, Aq, nq, cq, tq, Bq, mq, dq, rfl, hV2, hb2⟩
 case stop => exact fun D c pre W hD _ h hK => h.elim
set_option linter.unusedSimpArgs false in
set_option maxRecDepth 100000 in
set_option maxHeartbeats 8000000 in
theorem cpresR_v {F S E Y : Int} {A : Option Addr} {n c : Nat} {r : Nat → RH} {si ti : Bool} {Ai Bi : Option Addr} {ni ci mi di : Nat} {fi gi : Nat → Nat} {w : World} (hT : TabM w A n r) (hB : TabB n r) (hr : FRd w Ai ni fi Bi mi gi) (hn : ni ≤ 1000000) (hm : mi ≤ 1000000) (hbk : BOK F S n r si ni fi ti mi gi) (hR : RightP F S n r E Y) (N : Nat) (hN : Cnt (1 / (1 + qOf si ni fi mi gi)) (fr F S n r E Y) N) (h80 : N ≤ 80) (a b : Nat) (ha : a ≤ 9223372036854775807) (hb : b ≤ 9223372036854775807) (ga : Nat) (hga : ga < w.heap.size) (hca : w.cell? ⟨ga, 0, none⟩ = some (.int .i64 (a : Int))) :
  Calls Tryz.prog 60 #[.agg #[.int .i64 F, .int .i64 S, .slice A n c, .bool si, .slice Ai ni ci, .bool ti, .slice Bi mi di], .agg #[.int .i64 E, .int .i64 Y], .int .i64 (a : Int), .int .i64 (b : Int), .func (.func 63) #[] #[.pointer (some ⟨ga, 0, none⟩)]] w (FOK (ps (rs (dd (1 / (1 + qOf si ni fi mi gi)) (fr F S n r E Y)) (a : Int)) (a : Int) (b : Int) N) w) := by
 obtain ⟨hqv, hi⟩ := intB_rti hr hbk.2
 have hN0 : 0 < N := hN.pos
 have hdis := hi.dis
 have hrts := rt_rates hT hR N
 have hcols := fun (W : World) (hW : Below w.heap.size w W) => ccols1_v (c := c) (ci := ci) (di := di) (hT.below hW) hB (hr.below hW) hn hm hbk hR N hN h80
 obtain ⟨v, hv⟩ : ∃ v, v = 1 / (1 + qOf si ni fi mi gi) := ⟨_, rfl⟩
 obtain ⟨f, hf⟩ : ∃ f, f = fr F S n r E Y := ⟨_, rfl⟩
 rw [← hv] at hdis hN hcols ⊢
 rw [← hf] at hN hcols ⊢
 have hrf : Rts f N := by rw [hf]; exact hrts
 clear hrts
 have t1 : decide ((a : Int) < 0) = false := decide_eq_false (by omega)
 have t2 : decide ((b : Int) < 0) = false := decide_eq_false (by omega)
 have HhT := Lib.hid hT
 clear hT
 have HhB := Lib.hid hB
 clear hB
 have Hhr := Lib.hid hr
 clear hr
 have Hhbk := Lib.hid hbk
 clear hbk
 have HhR := Lib.hid hR
 clear hR
 have HhN := Lib.hid hN
 clear hN
 have Hhqv := Lib.hid hqv
 clear hqv
 have Hhi := Lib.hid hi
 clear hi
 have Hhdis := Lib.hid hdis
 clear hdis
 have Hhrf := Lib.hid hrf
 clear hrf
 have Hhv := Lib.hid hv
 clear hv
 have Hhf := Lib.hid hf
 clear hf
 have Hhcols := Lib.hid hcols
 clear hcols
 refine (callsIn_wide (n := 5)).1 ?_
 have hro : Fence.wide.round = none := rfl
 refine callsIn_of_wp_marks Tryz.func60 rfl trivial ?_ hro
 simp only [Tryz.ntmps60, List.size_toArray, List.length_cons, List.length_nil, Nat.reduceAdd, Nat.reduceSub, Array.replicate_succ, Array.replicate_zero, List.push_toArray, List.append_toArray, List.nil_append, List.cons_append]
 have hE := (((((((Env.start w).blk 31 #[.int .i64 F, .int .i64 S, .slice A n c, .bool si, .slice Ai ni ci, .bool ti, .slice Bi mi di] (g := w.heap.size) rfl).blk 33 #[.int .i64 E, .int .i64 Y] (g := w.heap.size + 1) (by simp)).blk 3 #[.int .i64 (a : Int)] (g := w.heap.size + 1 + 1) (by simp)).blk 3 #[.int .i64 (b : Int)] (g := w.heap.size + 1 + 1 + 1) (by simp)).blk 92 #[.func (.func 63) #[] #[.pointer (some ⟨ga, 0, none⟩)]] (g := w.heap.size + 1 + 1 + 1 + 1) (by simp)).blk 29 #[.bool false, .slice none 0 0, .bool false, .slice none 0 0] (g := w.heap.size + 1 + 1 + 1 + 1 + 1) (by simp))
 obtain ⟨W0, hW0⟩ : ∃ W0, W0 = ((((((w.alloc (.cells #[.int .i64 F, .int .i64 S, .slice A n c, .bool si, .slice Ai ni ci, .bool ti, .slice Bi mi di] 31)).alloc (.cells #[.int .i64 E, .int .i64 Y] 33)).alloc (.cells #[.int .i64 (a : Int)] 3)).alloc (.cells #[.int .i64 (b : Int)] 3)).alloc (.cells #[.func (.func 63) #[] #[.pointer (some ⟨ga, 0, none⟩)]] 92)).alloc (.cells #[.bool false, .slice none 0 0, .bool false, .slice none 0 0] 29)) := ⟨_, rfl⟩
 rw [← hW0] at hE
 have HW0 := Lib.hid hW0
 clear hW0
 gi_wp2
 clear t1 t2
 rw [← HW0.out]
 refine ⟨trivial, (callsIn_wide.2 (Hhcols.out _ hE.bel)).mono ?_⟩
 rintro e wc ⟨cv, h, rfl, hcv, hcq, hb1⟩
 replace hE := hE.step hb1
 have hlc : w.heap.size + 1 + 1 + 1 + 1 + 1 < wc.heap.size := (hE.here.2).lt
 rcases hcv with ⟨-, h0⟩ | ⟨g, cap, rfl, -, hCB⟩
 · omega
 clear hb1
 gi_wp2
 refine ⟨trivial, (callsIn_wide.2 (ffromInt_v 0 _ (by decide) (by decide))).mono ?_⟩
 rintro e w1 ⟨sp, Ap, np, cp, tp, Bp, mp, dp, rfl, hp, hb1⟩
 have hcw : Below wc.heap.size wc w1 := hb1
 replace hE := (hE.step hb1).fv hp
 clear hp
 gi_wp2
 refine ⟨trivial, (call_in 4 _ N cap _).mono ?_⟩
 rintro e w2 ⟨rfl, rfl⟩
 gi_wp2
 have hE := (hE.blk 29 #[.bool sp, .slice Ap np cp, .bool tp, .slice Bp mp dp] (g := w1.heap.size) rfl).blk 43 #[.slice (some ⟨g, 0, none⟩) N cap] (g := w1.heap.size + 1) (by simp)
 have hcP : wc.heap.size ≤ w1.heap.size := hcw.size
 have hcw2 : Below wc.heap.size wc ((w1.alloc (.cells #[.bool sp, .slice Ap np cp, .bool tp, .slice Bp mp dp] 29)).alloc (.cells #[.slice (some ⟨g, 0, none⟩) N cap] 43)) := (hcw.alloc hcP _).alloc (by simp; omega) _
 have hPl : w.heap.size + 1 + 1 + 1 + 1 + 1 < wc.heap.size := hlc
 generalize hPp : w1.heap.size = Pp at hE hcP ⊢
 have hsz : ((w1.alloc (.cells #[.bool sp, .slice Ap np cp, .bool tp, .slice Bp mp dp] 29)).alloc (.cells #[.slice (some ⟨g, 0, none⟩) N cap] 43)).heap.size = Pp + 2 := by simp [hPp]
 generalize (w1.alloc (.cells #[.bool sp, .slice Ap np cp, .bool tp, .slice Bp mp dp] 29)).alloc (.cells #[.slice (some ⟨g, 0, none⟩) N cap] 43) = Wr at hE hsz hcw2 ⊢
 clear hPp hcw hlc
 have hsw : w.heap.size ≤ Wr.heap.size := by omega
 have hcs : wc.heap.size ≤ Wr.heap.size := by omega
 have hL1 : ∀ k, k ≤ N → fl (ps (rs (dd v f) (a : Int)) (a : Int) (b : Int) k) ≤ 256 := fun k hk => (ps_len Hhdis.out Hhrf.out h80 (M := 80) (by decide) (a : Int) (b : Int) (fun j hj h => rsA Hhdis.out Hhrf.out h80 hj a h) k hk).l (by decide) (by decide) (by omega)
 have hL2 : ∀ k, k < N → (a : Int) ≤ (k : Int) → fl ((rs (dd v f) (a : Int)) k) ≤ 256 := fun k hk h => by
  obtain ⟨h1, h2, h3⟩ := (fun j hj h => rsA Hhdis.out Hhrf.out h80 hj a h : ∀ j, j < N → (a : Int) ≤ (j : Int) → 0 ≤ (rs (dd v f) (a : Int)) j ∧ (rs (dd v f) (a : Int)) j ≤ ((80 : Nat) : Rat) ∧ Dv ((rs (dd v f) (a : Int)) j) (dE v f N)) k hk h
  exact (Ql.of h1 h2 (dE_pos v f N) h3 (dE_le Hhdis.out Hhrf.out N (Nat.le_refl _))).l (by decide) (by decide) (by omega)
 have hL3 : ∀ k, k < N → fl (dd v f k) ≤ 256 := fun k hk => (dd_ql Hhdis.out Hhrf.out (Nat.le_of_lt hk)).l (by decide) (by decide) (by omega)
 have hL4 : ∀ k, k < N → (a : Int) ≤ (k : Int) → fl (((k : Int) - (a : Int) + 1 : Int) : Rat) ≤ 256 := fun k hk h => (Ql.int ((k : Int) - (a : Int) + 1) (M := 80) (by omega)).l (by decide) (by decide) (by decide)
 have HhL3 := Lib.hid hL3
 clear hL3
 have HhL4 := Lib.hid hL4
 clear hL4
 have HhL1 := Lib.hid hL1
 clear hL1
 have HhL2 := Lib.hid hL2
 clear hL2
 refine rangeV hro (by decide) (gf := 137) (lb := #[.pointer (some ⟨Pp + 1, 0, none⟩)]) rfl trivial (enters_of Tryz.func137 (by kernel_rfl) rfl)
  (call_seq (5 - 1) (by decide) (Pp + 1) wc.heap.size (Nat.le_refl _) hCB hcq h80 Wr hcw2 hE.here.2) KpB.t (KpB.b hcs (by omega)) (Below.refl _ _) (fun _ => rfl)
  (fun pre W => (PrI w (w.heap.size + 1 + 1) (w.heap.size + 1 + 1 + 1) (w.heap.size + 1 + 1 + 1 + 1) (w.heap.size + 1 + 1 + 1 + 1 + 1) Pp (a : Int) (b : Int) (.func (.func 63) #[] #[.pointer (some ⟨ga, 0, none⟩)]) (ps (rs (dd v f) (a : Int)) (a : Int) (b : Int) pre.length) W ∧ Pp + 1 < W.heap.size) ∧ wc.heap.size ≤ W.heap.size) (fun _ _ _ => False)
  (fun s W W' row h hg hr => ⟨⟨PrI.grown hsw _ _ _ _ _ _ _ _ _ W W' row h.1.1 hg hr, Nat.lt_of_lt_of_le h.1.2 hg.size⟩, Nat.le_trans h.2 hg.size⟩) (fun _ _ _ _ _ h _ _ => h)
  ⟨⟨⟨_, _, _, _, _, _, _, _, (((((((Env.again hE.bel).blkI (hE.h6)).blkI (hE.h5)).blkI (hE.h4)).blkI (hE.h3)).fv (hE.h2)).blkI (hE.here.1.2))⟩, by omega⟩, hcs⟩
  (CAx (colq v f N) Pp (fun gc yv rv => { tmps := #[.agg #[.int .i64 F, .int .i64 S, .slice A n c, .bool si, .slice Ai ni ci, .bool ti, .slice Bi mi di], .agg #[.int .i64 E, .int .i64 Y], .int .i64 (a : Int), .int .i64 (b : Int), .func (.func 63) #[] #[.pointer (some ⟨ga, 0, none⟩)], .pointer (some ⟨w.heap.size, 0, none⟩), .pointer (some ⟨w.heap.size + 1, 0, none⟩), .pointer (some ⟨w.heap.size + 1 + 1, 0, none⟩), .pointer (some ⟨w.heap.size + 1 + 1 + 1, 0, none⟩), .pointer (some ⟨w.heap.size + 1 + 1 + 1 + 1, 0, none⟩), .pointer (some ⟨w.heap.size + 1 + 1 + 1 + 1 + 1, 0, none⟩), .int .i64 0, .slice (some ⟨g, 0, none⟩) N cap, .int .i64 0, .pointer (some ⟨Pp, 0, none⟩), yv, .pointer (some ⟨gc, 0, none⟩), .int .i64 (a : Int), .bool false, .bool false, .int .i64 (b : Int), .bool false, .bool false, undef, .tuple #[.slice (some ⟨g, 0, none⟩) N cap, .int .i64 0], .agg #[.int .i64 F, .int .i64 S, .slice A n c, .bool si, .slice Ai ni ci, .bool ti, .slice Bi mi di], .agg #[.int .i64 E, .int .i64 Y], .tuple #[.slice (some ⟨g, 0, none⟩) N cap, .int .i64 0], .slice (some ⟨g, 0, none⟩) N cap, .int .i64 0, .int .i64 0, .bool false, undef, undef, .agg #[.bool sp, .slice Ap np cp, .bool tp, .slice Bp mp dp], .slice (some ⟨g, 0, none⟩) N cap, .func (.func 137) #[] #[.pointer (some ⟨Pp + 1, 0, none⟩)], yv, rv, undef, undef, undef, undef, undef, undef, undef, undef, undef, undef, undef, undef, undef, undef, undef], defers := [] })) (fun pre x a' => fun _ W W' row h hg hr => CAx.grown W W' row h hg hr) ?assign ?body ?done ?stop
 case assign =>
  rintro l pre ⟨xk, xx⟩ W K ⟨⟨hI, hBs⟩, hcW⟩ ⟨hxk, hxf⟩ hK
  dsimp only at hxk hxf
  subst hxk
  obtain ⟨V, hst, hld2, hba, -, hbk⟩ := col_store W xx
  have hTr := (Trail.refl (B := Wr.heap.size) (n₀ := wc.heap.size) (Bs := Pp + 1) W hBs hcW).step hba
  have hfin := fun a hax => hK a V hTr.keeps hTr.kp ⟨⟨PrI.step hI hba, Nat.lt_of_lt_of_le hBs hba.size⟩, Nat.le_trans hcW hba.size⟩ ⟨rfl, W.heap.size, hax, by omega, hbk.lt, ⟨(hxf 0 (by decide) (.inl rfl)).below hba, (hxf 3 (by decide) (.inr rfl)).below hba⟩, hbk⟩
  have HF := Lib.hid hfin
  clear hfin hK hI hxf hbk hTr hba hld2
  dsimp only [Cl.vals]
  gi_wp2_with (refine wpListIn_st hst rfl rfl rfl rfl ?_)
  exact HF.out _ rfl
 case body =>
  rintro l pre ⟨xk, xx⟩ a' W ⟨⟨⟨sq, Aq, nq, cq, tq, Bq, mq, dq, hE⟩, hBs⟩, hcW⟩ ⟨hxk, gx, rfl, hg1, hg2, ⟨hx0, hx3⟩, hxb⟩ hlen
  dsimp only at hxk hx0 hx3 hxb hg1 hg2
  subst hxk
  have hE := (((hE.fv hx0).fv hx3).blkI hxb).trail (Trail.refl (B := Wr.heap.size) (n₀ := wc.heap.size) (Bs := Pp + 1) W hBs hcW)
  clear hx0 hx3 hxb
  have hmx : Tryz.prog.follows .mixedOrders = true := by kernel_rfl
  have hlen2 : (pre ++ [Cl.mk pre.length xx]).length = pre.length + 1 := by simp
  have Hlen2 := Lib.hid hlen2
  clear hlen2
  by_cases h1 : a ≤ pre.length
  ·
   have t1 : decide ((a : Int) ≤ (pre.length : Int)) = true := decide_eq_true (by omega)
   by_cases h2 : pre.length < b
   ·
    have t2 : decide ((pre.length : Int) < (b : Int)) = true := decide_eq_true (by omega)
    have HPS : Hid (ps (rs (dd v f) (a : Int)) (a : Int) (b : Int) (pre.length + 1) = ps (rs (dd v f) (a : Int)) (a : Int) (b : Int) pre.length + (rs (dd v f) (a : Int)) pre.length) := Lib.hid (by simp only [ps]; rw [if_pos ⟨by omega, by omega⟩])
    have ha1 : (a : Int) ≤ (pre.length : Int) := by omega
    have lsum := HhL1.out (pre.length + 1) hlen
    rw [HPS.out] at lsum
    have Hlsum := Lib.hid lsum
    clear lsum
    have k0 := (hE.h9).c1
    have k1 := (hE.h8).c1
    gi_wp2
    clear k0 k1 t1 t2
    refine wpIn_region_any (by assumption) ?_
    replace hE := hE.drew
    change wpAnyIn _ _ _ _ _ _ _ _ _ (W.drew)
    generalize W.drew = wd at hE ⊢
    refine wpAnyIn_ready (rs := [0, 1, 2, 3]) (by kernel_rfl) (by simp) ?rr1
    refine AllReadyIn.cons rfl (fun K hK => ?_) ?_
    ·
     obtain ⟨k2, k3, k4, k5⟩ := (hE.h4).c4
     have k6 := (hE.h7).c1
     go_simp
     refine hK _ _ ?_
     clear hK K
     try simp only [PL]
     clear k2 k3 k4 k5 k6
     refine wpAnyIn_relist (l' := #[true, false, false, false, false, false, false]) (by kernel_rfl) ?_
     refine ?c3_0
     refine wpAnyIn_ready (rs := [1, 2, 3]) (by kernel_rfl) (by simp) ?rr7
     refine AllReadyIn.cons rfl (fun K hK => ?_) ?_
     ·
      obtain ⟨k8, k9, k10, k11⟩ := (hE.h4).c4
      have k12 := (hE.h7).c1
      go_simp
      refine hK _ _ ?_
      clear hK K
      try simp only [PL]
      clear k8 k9 k10 k11 k12
      refine wpAnyIn_relist (l' := #[true, true, false, false, false, false, false]) (by kernel_rfl) ?_
      refine ?c3_01
      refine wpAnyIn_ready (rs := [2, 3]) (by kernel_rfl) (by simp) ?rr13
      refine AllReadyIn.cons rfl (fun K hK => ?_) ?_
      ·
       obtain ⟨k14, k15, k16, k17⟩ := (hE.h4).c4
       have k18 := (hE.h7).c1
       go_simp
       refine hK _ _ ?_
       clear hK K
       try simp only [PL]
       clear k14 k15 k16 k17 k18
       refine wpAnyIn_relist (l' := #[true, true, true, false, false, false, false]) (by kernel_rfl) ?_
       refine ?c3_012
       refine wpAnyIn_ready (rs := [3]) (by kernel_rfl) (by simp) ?rr19
       refine AllReadyIn.cons rfl (fun K hK => ?_) ?_
       ·
        refine Eq.mpr (if_pos (by rfl)) ?_
        refine ld_stepIn (x := .tmp 16) (col_ldB (hE.here.1.2)) rfl rfl ?_
        refine hK _ _ ?_
        clear hK K
        try simp only [PL]
        refine wpAnyIn_relist (l' := #[true, true, true, true, false, false, false]) (by kernel_rfl) ?_
        refine ?c3_0123
        refine wpAnyIn_ready (rs := [4]) (by kernel_rfl) (by simp) ?rr20
        refine AllReadyIn.cons rfl (fun K hK => ?_) ?_
        ·
         go_simp
         skip
         first | refine ⟨trivial, fun _ => by omega, (CallsIn.inRound l (callsIn_wide.2 (cofR_v (pre.length : Int) (a : Int) ga (x := xx) (q := dd v f pre.length) (hE.h3) (Nat.lt_of_lt_of_le hga hE.bel.size) ((hE.bel.cell (p := ⟨ga, 0, none⟩) hga).trans hca) (by omega) ha1 (by omega) (HhL4.out pre.length hlen ha1) (HhL3.out pre.length hlen) (HhL2.out pre.length hlen ha1)))).mono ?_⟩ | refine ⟨trivial, (CallsIn.inRound l (callsIn_wide.2 (cofR_v (pre.length : Int) (a : Int) ga (x := xx) (q := dd v f pre.length) (hE.h3) (Nat.lt_of_lt_of_le hga hE.bel.size) ((hE.bel.cell (p := ⟨ga, 0, none⟩) hga).trans hca) (by omega) ha1 (by omega) (HhL4.out pre.length hlen ha1) (HhL3.out pre.length hlen) (HhL2.out pre.length hlen ha1)))).mono ?_⟩ | refine ⟨trivial, trivial, (CallsIn.inRound l (callsIn_wide.2 (cofR_v (pre.length : Int) (a : Int) ga (x := xx) (q := dd v f pre.length) (hE.h3) (Nat.lt_of_lt_of_le hga hE.bel.size) ((hE.bel.cell (p := ⟨ga, 0, none⟩) hga).trans hca) (by omega) ha1 (by omega) (HhL4.out pre.length hlen ha1) (HhL3.out pre.length hlen) (HhL2.out pre.length hlen ha1)))).mono ?_⟩ | refine ⟨trivial, trivial, fun _ => by omega, (CallsIn.inRound l (callsIn_wide.2 (cofR_v (pre.length : Int) (a : Int) ga (x := xx) (q := dd v f pre.length) (hE.h3) (Nat.lt_of_lt_of_le hga hE.bel.size) ((hE.bel.cell (p := ⟨ga, 0, none⟩) hga).trans hca) (by omega) ha1 (by omega) (HhL4.out pre.length hlen ha1) (HhL3.out pre.length hlen) (HhL2.out pre.length hlen ha1)))).mono ?_⟩
         rintro e w21 ⟨so, Ao, no, co, ti, Bo, mo, dob, rfl, ho, hb⟩
         replace hE := hE.step hb
         clear hb
         replace hE := hE.fv ho
         clear ho
         refine hK _ _ ?_
         clear hK K
         try simp only [PL]
         refine wpAnyIn_ready (rs := [5]) (by kernel_rfl) (by simp) ?rr22
         refine AllReadyIn.cons rfl (fun K hK => ?_) ?_
         ·
          go_simp
          skip
          first | refine ⟨trivial, fun _ => by omega, (CallsIn.inRound l (callsIn_wide.2 (cplus_v (ca := cq) (da := dq) (cb := co) (db := dob) hE.h6 hE.here.2 (HhL1.out pre.length (by omega)) (HhL2.out pre.length hlen ha1) Hlsum.out))).mono ?_⟩ | refine ⟨trivial, (CallsIn.inRound l (callsIn_wide.2 (cplus_v (ca := cq) (da := dq) (cb := co) (db := dob) hE.h6 hE.here.2 (HhL1.out pre.length (by omega)) (HhL2.out pre.length hlen ha1) Hlsum.out))).mono ?_⟩ | refine ⟨trivial, trivial, (CallsIn.inRound l (callsIn_wide.2 (cplus_v (ca := cq) (da := dq) (cb := co) (db := dob) hE.h6 hE.here.2 (HhL1.out pre.length (by omega)) (HhL2.out pre.length hlen ha1) Hlsum.out))).mono ?_⟩ | refine ⟨trivial, trivial, fun _ => by omega, (CallsIn.inRound l (callsIn_wide.2 (cplus_v (ca := cq) (da := dq) (cb := co) (db := dob) hE.h6 hE.here.2 (HhL1.out pre.length (by omega)) (HhL2.out pre.length hlen ha1) Hlsum.out))).mono ?_⟩
          rintro e w23 ⟨sz, Az, nz, cz, tz, Bz, mz, dz, rfl, hz, hb⟩
          replace hE := hE.step hb
          clear hb
          replace hE := hE.fv hz
          clear hz
          refine hK _ _ ?_
          clear hK K
          try simp only [PL]
          refine wpAnyIn_ready (rs := [6]) (by kernel_rfl) (by simp) ?rr24
          refine AllReadyIn.cons rfl (fun K hK => ?_) ?_
          ·
           have hgl25 : w.heap.size ≤ Pp := by omega
           obtain ⟨x25_0, x25_1, x25_2, x25_3⟩ := (hE.h6).c4
           obtain ⟨f25_0, f25_1, f25_2, f25_3⟩ := hE.h6.f4
           replace hE := (((((((((((((Env.again (bel4 hE.bel hgl25 (.bool sz) (.slice Az nz cz) (.bool tz) (.slice Bz mz dz))).blkI ((hE.h11).far4 (R := Pp) (by omega) (.bool sz) (.slice Az nz cz) (.bool tz) (.slice Bz mz dz))).blkI ((hE.h10).far4 (R := Pp) (by omega) (.bool sz) (.slice Az nz cz) (.bool tz) (.slice Bz mz dz))).blkI ((hE.h9).far4 (R := Pp) (by omega) (.bool sz) (.slice Az nz cz) (.bool tz) (.slice Bz mz dz))).blkI ((hE.h8).far4 (R := Pp) (by omega) (.bool sz) (.slice Az nz cz) (.bool tz) (.slice Bz mz dz))).fv ((hE.h7).sep4 hE.h6 rfl (.bool sz) (.slice Az nz cz) (.bool tz) (.slice Bz mz dz) rfl rfl rfl)).blkI ((hE.h6).s4 (.bool sz) (.slice Az nz cz) (.bool tz) (.slice Bz mz dz))).fv ((hE.h5).sep4 hE.h6 rfl (.bool sz) (.slice Az nz cz) (.bool tz) (.slice Bz mz dz) rfl rfl rfl)).fv ((hE.h4).sep4 hE.h6 rfl (.bool sz) (.slice Az nz cz) (.bool tz) (.slice Bz mz dz) rfl rfl rfl)).blkI ((hE.h3).far4 (R := Pp) (by omega) (.bool sz) (.slice Az nz cz) (.bool tz) (.slice Bz mz dz))).trail ((hE.h2).set4 ⟨by omega, by omega, by omega⟩ (.bool sz) (.slice Az nz cz) (.bool tz) (.slice Bz mz dz))).fv ((hE.here.1.2).sep4 hE.h6 rfl (.bool sz) (.slice Az nz cz) (.bool tz) (.slice Bz mz dz) rfl rfl rfl)).fv ((hE.here.2).sep4 hE.h6 rfl (.bool sz) (.slice Az nz cz) (.bool tz) (.slice Bz mz dz) rfl rfl rfl))
           go_simp
           clear x25_0 x25_1 x25_2 x25_3 f25_0 f25_1 f25_2 f25_3 hgl25
           generalize ((((w23.setCell ⟨Pp, 0, none⟩ (.bool sz)).setCell ⟨Pp, 1, none⟩ (.slice Az nz cz)).setCell ⟨Pp, 2, none⟩ (.bool tz)).setCell ⟨Pp, 3, none⟩ (.slice Bz mz dz)) = W25 at hE ⊢
           refine hK _ _ ?_
           clear hK K
           try simp only [PL]
           refine wpAnyIn_done (by kernel_rfl) ?_ _
           refine ⟨(hE.h2).keeps, (hE.h2).kp, ⟨⟨?_, (hE.h2).hs⟩, ?_⟩⟩
           ·
            show PrI w (w.heap.size + 1 + 1) (w.heap.size + 1 + 1 + 1) (w.heap.size + 1 + 1 + 1 + 1) (w.heap.size + 1 + 1 + 1 + 1 + 1) Pp (a : Int) (b : Int) (.func (.func 63) #[] #[.pointer (some ⟨ga, 0, none⟩)]) (ps (rs (dd v f) (a : Int)) (a : Int) (b : Int) (pre ++ [Cl.mk pre.length xx]).length) _
            rw [Hlen2.out, HPS.out]
            exact ⟨_, _, _, _, _, _, _, _, (((((((Env.again hE.bel).blkI (hE.h11)).blkI (hE.h10)).blkI (hE.h9)).blkI (hE.h8)).fv (hE.here.2)).blkI (hE.h6))⟩
           ·
            show wc.heap.size ≤ _
            exact Nat.le_trans hcW (hE.h2).keeps.size
          exact AllReadyIn.nil
         exact AllReadyIn.nil
        exact AllReadyIn.nil
       exact AllReadyIn.nil
      refine AllReadyIn.cons rfl (fun K hK => ?_) ?_
      ·
       refine Eq.mpr (if_pos (by rfl)) ?_
       refine ld_stepIn (x := .tmp 16) (col_ldB (hE.here.1.2)) rfl rfl ?_
       refine hK _ _ ?_
       clear hK K
       try simp only [PL]
       refine wpAnyIn_relist (l' := #[true, true, false, true, false, false, false]) (by kernel_rfl) ?_
       refine ?c3_013
       refine wpAnyIn_ready (rs := [2]) (by kernel_rfl) (by simp) ?rr26
       refine AllReadyIn.cons rfl (fun K hK => ?_) ?_
       ·
        obtain ⟨k27, k28, k29, k30⟩ := (hE.h4).c4
        have k31 := (hE.h7).c1
        go_simp
        refine hK _ _ ?_
        clear hK K
        try simp only [PL]
        clear k27 k28 k29 k30 k31
        refine wpAnyIn_relist (l' := #[true, true, true, true, false, false, false]) (by kernel_rfl) ?_
        exact ?c3_0123
       exact AllReadyIn.nil
      exact AllReadyIn.nil
     refine AllReadyIn.cons rfl (fun K hK => ?_) ?_
     ·
      obtain ⟨k32, k33, k34, k35⟩ := (hE.h4).c4
      have k36 := (hE.h7).c1
      go_simp
      refine hK _ _ ?_
      clear hK K
      try simp only [PL]
      clear k32 k33 k34 k35 k36
      refine wpAnyIn_relist (l' := #[true, false, true, false, false, false, false]) (by kernel_rfl) ?_
      refine ?c3_02
      refine wpAnyIn_ready (rs := [1, 3]) (by kernel_rfl) (by simp) ?rr37
      refine AllReadyIn.cons rfl (fun K hK => ?_) ?_
      ·
       obtain ⟨k38, k39, k40, k41⟩ := (hE.h4).c4
       have k42 := (hE.h7).c1
       go_simp
       refine hK _ _ ?_
       clear hK K
       try simp only [PL]
       clear k38 k39 k40 k41 k42
       refine wpAnyIn_relist (l' := #[true, true, true, false, false, false, false]) (by kernel_rfl) ?_
       exact ?c3_012
      refine AllReadyIn.cons rfl (fun K hK => ?_) ?_
      ·
       refine Eq.mpr (if_pos (by rfl)) ?_
       refine ld_stepIn (x := .tmp 16) (col_ldB (hE.here.1.2)) rfl rfl ?_
       refine hK _ _ ?_
       clear hK K
       try simp only [PL]
       refine wpAnyIn_relist (l' := #[true, false, true, true, false, false, false]) (by kernel_rfl) ?_
       refine ?c3_023
       refine wpAnyIn_ready (rs := [1]) (by kernel_rfl) (by simp) ?rr43
       refine AllReadyIn.cons rfl (fun K hK => ?_) ?_
       ·
        obtain ⟨k44, k45, k46, k47⟩ := (hE.h4).c4
        have k48 := (hE.h7).c1
        go_simp
        refine hK _ _ ?_
        clear hK K
        try simp only [PL]
        clear k44 k45 k46 k47 k48
        refine wpAnyIn_relist (l' := #[true, true, true, true, false, false, false]) (by kernel_rfl) ?_
        exact ?c3_0123
       exact AllReadyIn.nil
      exact AllReadyIn.nil
     refine AllReadyIn.cons rfl (fun K hK => ?_) ?_
     ·
      refine Eq.mpr (if_pos (by rfl)) ?_
      refine ld_stepIn (x := .tmp 16) (col_ldB (hE.here.1.2)) rfl rfl ?_
      refine hK _ _ ?_
      clear hK K
      try simp only [PL]
      refine wpAnyIn_relist (l' := #[true, false, false, true, false, false, false]) (by kernel_rfl) ?_
      refine ?c3_03
      refine wpAnyIn_ready (rs := [1, 2]) (by kernel_rfl) (by simp) ?rr49
      refine AllReadyIn.cons rfl (fun K hK => ?_) ?_
      ·
       obtain ⟨k50, k51, k52, k53⟩ := (hE.h4).c4
       have k54 := (hE.h7).c1
       go_simp
       refine hK _ _ ?_
       clear hK K
       try simp only [PL]
       clear k50 k51 k52 k53 k54
       refine wpAnyIn_relist (l' := #[true, true, false, true, false, false, false]) (by kernel_rfl) ?_
       exact ?c3_013
      refine AllReadyIn.cons rfl (fun K hK => ?_) ?_
      ·
       obtain ⟨k55, k56, k57, k58⟩ := (hE.h4).c4
       have k59 := (hE.h7).c1
       go_simp
       refine hK _ _ ?_
       clear hK K
       try simp only [PL]
       clear k55 k56 k57 k58 k59
       refine wpAnyIn_relist (l' := #[true, false, true, true, false, false, false]) (by kernel_rfl) ?_
       exact ?c3_023
      exact AllReadyIn.nil
     exact AllReadyIn.nil
    refine AllReadyIn.cons rfl (fun K hK => ?_) ?_
    ·
     obtain ⟨k60, k61, k62, k63⟩ := (hE.h4).c4
     have k64 := (hE.h7).c1
     go_simp
     refine hK _ _ ?_
     clear hK K
     try simp only [PL]
     clear k60 k61 k62 k63 k64
     refine wpAnyIn_relist (l' := #[false, true, false, false, false, false, false]) (by kernel_rfl) ?_
     refine ?c3_1
     refine wpAnyIn_ready (rs := [0, 2, 3]) (by kernel_rfl) (by simp) ?rr65
     refine AllReadyIn.cons rfl (fun K hK => ?_) ?_
     ·
      obtain ⟨k66, k67, k68, k69⟩ := (hE.h4).c4
      have k70 := (hE.h7).c1
      go_simp
      refine hK _ _ ?_
      clear hK K
      try simp only [PL]
      clear k66 k67 k68 k69 k70
      refine wpAnyIn_relist (l' := #[true, true, false, false, false, false, false]) (by kernel_rfl) ?_
      exact ?c3_01
     refine AllReadyIn.cons rfl (fun K hK => ?_) ?_
     ·
      obtain ⟨k71, k72, k73, k74⟩ := (hE.h4).c4
      have k75 := (hE.h7).c1
      go_simp
      refine hK _ _ ?_
      clear hK K
      try simp only [PL]
      clear k71 k72 k73 k74 k75
      refine wpAnyIn_relist (l' := #[false, true, true, false, false, false, false]) (by kernel_rfl) ?_
      refine ?c3_12
      refine wpAnyIn_ready (rs := [0, 3]) (by kernel_rfl) (by simp) ?rr76
      refine AllReadyIn.cons rfl (fun K hK => ?_) ?_
      ·
       obtain ⟨k77, k78, k79, k80⟩ := (hE.h4).c4
       have k81 := (hE.h7).c1
       go_simp
       refine hK _ _ ?_
       clear hK K
       try simp only [PL]
       clear k77 k78 k79 k80 k81
       refine wpAnyIn_relist (l' := #[true, true, true, false, false, false, false]) (by kernel_rfl) ?_
       exact ?c3_012
      refine AllReadyIn.cons rfl (fun K hK => ?_) ?_
      ·
       refine Eq.mpr (if_pos (by rfl)) ?_
       refine ld_stepIn (x := .tmp 16) (col_ldB (hE.here.1.2)) rfl rfl ?_
       refine hK _ _ ?_
       clear hK K
       try simp only [PL]
       refine wpAnyIn_relist (l' := #[false, true, true, true, false, false, false]) (by kernel_rfl) ?_
       refine ?c3_123
       refine wpAnyIn_ready (rs := [0, 4]) (by kernel_rfl) (by simp) ?rr82
       refine AllReadyIn.cons rfl (fun K hK => ?_) ?_
       ·
        obtain ⟨k83, k84, k85, k86⟩ := (hE.h4).c4
        have k87 := (hE.h7).c1
        go_simp
        refine hK _ _ ?_
        clear hK K
        try simp only [PL]
        clear k83 k84 k85 k86 k87
        refine wpAnyIn_relist (l' := #[true, true, true, true, false, false, false]) (by kernel_rfl) ?_
        exact ?c3_0123
       refine AllReadyIn.cons rfl (fun K hK => ?_) ?_
       ·
        go_simp
        skip
        first | refine ⟨trivial, fun _ => by omega, (CallsIn.inRound l (callsIn_wide.2 (cofR_v (pre.length : Int) (a : Int) ga (x := xx) (q := dd v f pre.length) (hE.h3) (Nat.lt_of_lt_of_le hga hE.bel.size) ((hE.bel.cell (p := ⟨ga, 0, none⟩) hga).trans hca) (by omega) ha1 (by omega) (HhL4.out pre.length hlen ha1) (HhL3.out pre.length hlen) (HhL2.out pre.length hlen ha1)))).mono ?_⟩ | refine ⟨trivial, (CallsIn.inRound l (callsIn_wide.2 (cofR_v (pre.length : Int) (a : Int) ga (x := xx) (q := dd v f pre.length) (hE.h3) (Nat.lt_of_lt_of_le hga hE.bel.size) ((hE.bel.cell (p := ⟨ga, 0, none⟩) hga).trans hca) (by omega) ha1 (by omega) (HhL4.out pre.length hlen ha1) (HhL3.out pre.length hlen) (HhL2.out pre.length hlen ha1)))).mono ?_⟩ | refine ⟨trivial, trivial, (CallsIn.inRound l (callsIn_wide.2 (cofR_v (pre.length : Int) (a : Int) ga (x := xx) (q := dd v f pre.length) (hE.h3) (Nat.lt_of_lt_of_le hga hE.bel.size) ((hE.bel.cell (p := ⟨ga, 0, none⟩) hga).trans hca) (by omega) ha1 (by omega) (HhL4.out pre.length hlen ha1) (HhL3.out pre.length hlen) (HhL2.out pre.length hlen ha1)))).mono ?_⟩ | refine ⟨trivial, trivial, fun _ => by omega, (CallsIn.inRound l (callsIn_wide.2 (cofR_v (pre.length : Int) (a : Int) ga (x := xx) (q := dd v f pre.length) (hE.h3) (Nat.lt_of_lt_of_le hga hE.bel.size) ((hE.bel.cell (p := ⟨ga, 0, none⟩) hga).trans hca) (by omega) ha1 (by omega) (HhL4.out pre.length hlen ha1) (HhL3.out pre.length hlen) (HhL2.out pre.length hlen ha1)))).mono ?_⟩
        rintro e w88 ⟨so, Ao, no, co, ti, Bo, mo, dob, rfl, ho, hb⟩
        replace hE := hE.step hb
        clear hb
        replace hE := hE.fv ho
        clear ho
        refine hK _ _ ?_
        clear hK K
        try simp only [PL]
        refine wpAnyIn_ready (rs := [0]) (by kernel_rfl) (by simp) ?rr89
        refine AllReadyIn.cons rfl (fun K hK => ?_) ?_
        ·
         obtain ⟨k90, k91, k92, k93⟩ := (hE.h5).c4
         have k94 := (hE.h8).c1
         go_simp
         refine hK _ _ ?_
         clear hK K
         try simp only [PL]
         clear k90 k91 k92 k93 k94
         refine wpAnyIn_ready (rs := [5]) (by kernel_rfl) (by simp) ?rr95
         refine AllReadyIn.cons rfl (fun K hK => ?_) ?_
         ·
          go_simp
          skip
          first | refine ⟨trivial, fun _ => by omega, (CallsIn.inRound l (callsIn_wide.2 (cplus_v (ca := cq) (da := dq) (cb := co) (db := dob) hE.h6 hE.here.2 (HhL1.out pre.length (by omega)) (HhL2.out pre.length hlen ha1) Hlsum.out))).mono ?_⟩ | refine ⟨trivial, (CallsIn.inRound l (callsIn_wide.2 (cplus_v (ca := cq) (da := dq) (cb := co) (db := dob) hE.h6 hE.here.2 (HhL1.out pre.length (by omega)) (HhL2.out pre.length hlen ha1) Hlsum.out))).mono ?_⟩ | refine ⟨trivial, trivial, (CallsIn.inRound l (callsIn_wide.2 (cplus_v (ca := cq) (da := dq) (cb := co) (db := dob) hE.h6 hE.here.2 (HhL1.out pre.length (by omega)) (HhL2.out pre.length hlen ha1) Hlsum.out))).mono ?_⟩ | refine ⟨trivial, trivial, fun _ => by omega, (CallsIn.inRound l (callsIn_wide.2 (cplus_v (ca := cq) (da := dq) (cb := co) (db := dob) hE.h6 hE.here.2 (HhL1.out pre.length (by omega)) (HhL2.out pre.length hlen ha1) Hlsum.out))).mono ?_⟩
          rintro e w96 ⟨sz, Az, nz, cz, tz, Bz, mz, dz, rfl, hz, hb⟩
          replace hE := hE.step hb
          clear hb
          replace hE := hE.fv hz
          clear hz
          refine hK _ _ ?_
          clear hK K
          try simp only [PL]
          refine wpAnyIn_ready (rs := [6]) (by kernel_rfl) (by simp) ?rr97
          refine AllReadyIn.cons rfl (fun K hK => ?_) ?_
          ·
           have hgl98 : w.heap.size ≤ Pp := by omega
           obtain ⟨x98_0, x98_1, x98_2, x98_3⟩ := (hE.h6).c4
           obtain ⟨f98_0, f98_1, f98_2, f98_3⟩ := hE.h6.f4
           replace hE := (((((((((((((Env.again (bel4 hE.bel hgl98 (.bool sz) (.slice Az nz cz) (.bool tz) (.slice Bz mz dz))).blkI ((hE.h11).far4 (R := Pp) (by omega) (.bool sz) (.slice Az nz cz) (.bool tz) (.slice Bz mz dz))).blkI ((hE.h10).far4 (R := Pp) (by omega) (.bool sz) (.slice Az nz cz) (.bool tz) (.slice Bz mz dz))).blkI ((hE.h9).far4 (R := Pp) (by omega) (.bool sz) (.slice Az nz cz) (.bool tz) (.slice Bz mz dz))).blkI ((hE.h8).far4 (R := Pp) (by omega) (.bool sz) (.slice Az nz cz) (.bool tz) (.slice Bz mz dz))).fv ((hE.h7).sep4 hE.h6 rfl (.bool sz) (.slice Az nz cz) (.bool tz) (.slice Bz mz dz) rfl rfl rfl)).blkI ((hE.h6).s4 (.bool sz) (.slice Az nz cz) (.bool tz) (.slice Bz mz dz))).fv ((hE.h5).sep4 hE.h6 rfl (.bool sz) (.slice Az nz cz) (.bool tz) (.slice Bz mz dz) rfl rfl rfl)).fv ((hE.h4).sep4 hE.h6 rfl (.bool sz) (.slice Az nz cz) (.bool tz) (.slice Bz mz dz) rfl rfl rfl)).blkI ((hE.h3).far4 (R := Pp) (by omega) (.bool sz) (.slice Az nz cz) (.bool tz) (.slice Bz mz dz))).trail ((hE.h2).set4 ⟨by omega, by omega, by omega⟩ (.bool sz) (.slice Az nz cz) (.bool tz) (.slice Bz mz dz))).fv ((hE.here.1.2).sep4 hE.h6 rfl (.bool sz) (.slice Az nz cz) (.bool tz) (.slice Bz mz dz) rfl rfl rfl)).fv ((hE.here.2).sep4 hE.h6 rfl (.bool sz) (.slice Az nz cz) (.bool tz) (.slice Bz mz dz) rfl rfl rfl))
           go_simp
           clear x98_0 x98_1 x98_2 x98_3 f98_0 f98_1 f98_2 f98_3 hgl98
           generalize ((((w96.setCell ⟨Pp, 0, none⟩ (.bool sz)).setCell ⟨Pp, 1, none⟩ (.slice Az nz cz)).setCell ⟨Pp, 2, none⟩ (.bool tz)).setCell ⟨Pp, 3, none⟩ (.slice Bz mz dz)) = W98 at hE ⊢
           refine hK _ _ ?_
           clear hK K
           try simp only [PL]
           refine wpAnyIn_done (by kernel_rfl) ?_ _
           refine ⟨(hE.h2).keeps, (hE.h2).kp, ⟨⟨?_, (hE.h2).hs⟩, ?_⟩⟩
           ·
            show PrI w (w.heap.size + 1 + 1) (w.heap.size + 1 + 1 + 1) (w.heap.size + 1 + 1 + 1 + 1) (w.heap.size + 1 + 1 + 1 + 1 + 1) Pp (a : Int) (b : Int) (.func (.func 63) #[] #[.pointer (some ⟨ga, 0, none⟩)]) (ps (rs (dd v f) (a : Int)) (a : Int) (b : Int) (pre ++ [Cl.mk pre.length xx]).length) _
            rw [Hlen2.out, HPS.out]
            exact ⟨_, _, _, _, _, _, _, _, (((((((Env.again hE.bel).blkI (hE.h11)).blkI (hE.h10)).blkI (hE.h9)).blkI (hE.h8)).fv (hE.here.2)).blkI (hE.h6))⟩
           ·
            show wc.heap.size ≤ _
            exact Nat.le_trans hcW (hE.h2).keeps.size
          exact AllReadyIn.nil
         exact AllReadyIn.nil
        exact AllReadyIn.nil
       exact AllReadyIn.nil
      exact AllReadyIn.nil
     refine AllReadyIn.cons rfl (fun K hK => ?_) ?_
     ·
      refine Eq.mpr (if_pos (by rfl)) ?_
      refine ld_stepIn (x := .tmp 16) (col_ldB (hE.here.1.2)) rfl rfl ?_
      refine hK _ _ ?_
      clear hK K
      try simp only [PL]
      refine wpAnyIn_relist (l' := #[false, true, false, true, false, false, false]) (by kernel_rfl) ?_
      refine ?c3_13
      refine wpAnyIn_ready (rs := [0, 2]) (by kernel_rfl) (by simp) ?rr99
      refine AllReadyIn.cons rfl (fun K hK => ?_) ?_
      ·
       obtain ⟨k100, k101, k102, k103⟩ := (hE.h4).c4
       have k104 := (hE.h7).c1
       go_simp
       refine hK _ _ ?_
       clear hK K
       try simp only [PL]
       clear k100 k101 k102 k103 k104
       refine wpAnyIn_relist (l' := #[true, true, false, true, false, false, false]) (by kernel_rfl) ?_
       exact ?c3_013
      refine AllReadyIn.cons rfl (fun K hK => ?_) ?_
      ·
       obtain ⟨k105, k106, k107, k108⟩ := (hE.h4).c4
       have k109 := (hE.h7).c1
       go_simp
       refine hK _ _ ?_
       clear hK K
       try simp only [PL]
       clear k105 k106 k107 k108 k109
       refine wpAnyIn_relist (l' := #[false, true, true, true, false, false, false]) (by kernel_rfl) ?_
       exact ?c3_123
      exact AllReadyIn.nil
     exact AllReadyIn.nil
    refine AllReadyIn.cons rfl (fun K hK => ?_) ?_
    ·
     obtain ⟨k110, k111, k112, k113⟩ := (hE.h4).c4
     have k114 := (hE.h7).c1
     go_simp
     refine hK _ _ ?_
     clear hK K
     try simp only [PL]
     clear k110 k111 k112 k113 k114
     refine wpAnyIn_relist (l' := #[false, false, true, false, false, false, false]) (by kernel_rfl) ?_
     refine ?c3_2
     refine wpAnyIn_ready (rs := [0, 1, 3]) (by kernel_rfl) (by simp) ?rr115
     refine AllReadyIn.cons rfl (fun K hK => ?_) ?_
     ·
      obtain ⟨k116, k117, k118, k119⟩ := (hE.h4).c4
      have k120 := (hE.h7).c1
      go_simp
      refine hK _ _ ?_
      clear hK K
      try simp only [PL]
      clear k116 k117 k118 k119 k120
      refine wpAnyIn_relist (l' := #[true, false, true, false, false, false, false]) (by kernel_rfl) ?_
      exact ?c3_02
     refine AllReadyIn.cons rfl (fun K hK => ?_) ?_
     ·
      obtain ⟨k121, k122, k123, k124⟩ := (hE.h4).c4
      have k125 := (hE.h7).c1
      go_simp
      refine hK _ _ ?_
      clear hK K
      try simp only [PL]
      clear k121 k122 k123 k124 k125
      refine wpAnyIn_relist (l' := #[false, true, true, false, false, false, false]) (by kernel_rfl) ?_
      exact ?c3_12
     refine AllReadyIn.cons rfl (fun K hK => ?_) ?_
     ·
      refine Eq.mpr (if_pos (by rfl)) ?_
      refine ld_stepIn (x := .tmp 16) (col_ldB (hE.here.1.2)) rfl rfl ?_
      refine hK _ _ ?_
      clear hK K
      try simp only [PL]
      refine wpAnyIn_relist (l' := #[false, false, true, true, false, false, false]) (by kernel_rfl) ?_
      refine ?c3_23
      refine wpAnyIn_ready (rs := [0, 1]) (by kernel_rfl) (by simp) ?rr126
      refine AllReadyIn.cons rfl (fun K hK => ?_) ?_
      ·
       obtain ⟨k127, k128, k129, k130⟩ := (hE.h4).c4
       have k131 := (hE.h7).c1
       go_simp
       refine hK _ _ ?_
       clear hK K
       try simp only [PL]
       clear k127 k128 k129 k130 k131
       refine wpAnyIn_relist (l' := #[true, false, true, true, false, false, false]) (by kernel_rfl) ?_
       exact ?c3_023
      refine AllReadyIn.cons rfl (fun K hK => ?_) ?_
      ·
       obtain ⟨k132, k133, k134, k135⟩ := (hE.h4).c4
       have k136 := (hE.h7).c1
       go_simp
       refine hK _ _ ?_
       clear hK K
       try simp only [PL]
       clear k132 k133 k134 k135 k136
       refine wpAnyIn_relist (l' := #[false, true, true, true, false, false, false]) (by kernel_rfl) ?_
       exact ?c3_123
      exact AllReadyIn.nil
     exact AllReadyIn.nil
    refine AllReadyIn.cons rfl (fun K hK => ?_) ?_
    ·
     refine Eq.mpr (if_pos (by rfl)) ?_
     refine ld_stepIn (x := .tmp 16) (col_ldB (hE.here.1.2)) rfl rfl ?_
     refine hK _ _ ?_
     clear hK K
     try simp only [PL]
     refine wpAnyIn_relist (l' := #[false, false, false, true, false, false, false]) (by kernel_rfl) ?_
     refine ?c3_3
     refine wpAnyIn_ready (rs := [0, 1, 2]) (by kernel_rfl) (by simp) ?rr137
     refine AllReadyIn.cons rfl (fun K hK => ?_) ?_
     ·
      obtain ⟨k138, k139, k140, k141⟩ := (hE.h4).c4
      have k142 := (hE.h7).c1
      go_simp
      refine hK _ _ ?_
      clear hK K
      try simp only [PL]
      clear k138 k139 k140 k141 k142
      refine wpAnyIn_relist (l' := #[true, false, false, true, false, false, false]) (by kernel_rfl) ?_
      exact ?c3_03
     refine AllReadyIn.cons rfl (fun K hK => ?_) ?_
     ·
      obtain ⟨k143, k144, k145, k146⟩ := (hE.h4).c4
      have k147 := (hE.h7).c1
      go_simp
      refine hK _ _ ?_
      clear hK K
      try simp only [PL]
      clear k143 k144 k145 k146 k147
      refine wpAnyIn_relist (l' := #[false, true, false, true, false, false, false]) (by kernel_rfl) ?_
      exact ?c3_13
     refine AllReadyIn.cons rfl (fun K hK => ?_) ?_
     ·
      obtain ⟨k148, k149, k150, k151⟩ := (hE.h4).c4
      have k152 := (hE.h7).c1
      go_simp
      refine hK _ _ ?_
      clear hK K
      try simp only [PL]
      clear k148 k149 k150 k151 k152
      refine wpAnyIn_relist (l' := #[false, false, true, true, false, false, false]) (by kernel_rfl) ?_
      exact ?c3_23
     exact AllReadyIn.nil
    exact AllReadyIn.nil
   ·
    have t2 : decide ((pre.length : Int) < (b : Int)) = false := decide_eq_false (by omega)
    have HPS : Hid (ps (rs (dd v f) (a : Int)) (a : Int) (b : Int) (pre.length + 1) = ps (rs (dd v f) (a : Int)) (a : Int) (b : Int) pre.length) := Lib.hid (by simp only [ps]; rw [if_neg (by omega)])
    have k0 := (hE.h9).c1
    have k1 := (hE.h8).c1
    gi_wp2
    refine ⟨(hE.here.2).keeps, (hE.here.2).kp, ⟨⟨?_, (hE.here.2).hs⟩, ?_⟩⟩
    ·
     show PrI w (w.heap.size + 1 + 1) (w.heap.size + 1 + 1 + 1) (w.heap.size + 1 + 1 + 1 + 1) (w.heap.size + 1 + 1 + 1 + 1 + 1) Pp (a : Int) (b : Int) (.func (.func 63) #[] #[.pointer (some ⟨ga, 0, none⟩)]) (ps (rs (dd v f) (a : Int)) (a : Int) (b : Int) (pre ++ [Cl.mk pre.length xx]).length) _
     rw [Hlen2.out, HPS.out]
     exact ⟨_, _, _, _, _, _, _, _, (((((((Env.again hE.bel).blkI (hE.h9)).blkI (hE.h8)).blkI (hE.h7)).blkI (hE.h6)).fv (hE.h5)).blkI (hE.h4))⟩
    ·
     show wc.heap.size ≤ _
     exact Nat.le_trans hcW (hE.here.2).keeps.size
  ·
   have t1 : decide ((a : Int) ≤ (pre.length : Int)) = false := decide_eq_false (by omega)
   have HPS : Hid (ps (rs (dd v f) (a : Int)) (a : Int) (b : Int) (pre.length + 1) = ps (rs (dd v f) (a : Int)) (a : Int) (b : Int) pre.length) := Lib.hid (by simp only [ps]; rw [if_neg (by omega)])
   have k0 := (hE.h9).c1
   have k1 := (hE.h8).c1
   gi_wp2
   refine ⟨(hE.here.2).keeps, (hE.here.2).kp, ⟨⟨?_, (hE.here.2).hs⟩, ?_⟩⟩
   ·
    show PrI w (w.heap.size + 1 + 1) (w.heap.size + 1 + 1 + 1) (w.heap.size + 1 + 1 + 1 + 1) (w.heap.size + 1 + 1 + 1 + 1 + 1) Pp (a : Int) (b : Int) (.func (.func 63) #[] #[.pointer (some ⟨ga, 0, none⟩)]) (ps (rs (dd v f) (a : Int)) (a : Int) (b : Int) (pre ++ [Cl.mk pre.length xx]).length) _
    rw [Hlen2.out, HPS.out]
    exact ⟨_, _, _, _, _, _, _, _, (((((((Env.again hE.bel).blkI (hE.h9)).blkI (hE.h8)).blkI (hE.h7)).blkI (hE.h6)).fv (hE.h5)).blkI (hE.h4))⟩
   ·
    show wc.heap.size ≤ _
    exact Nat.le_trans hcW (hE.here.2).keeps.size
 case done =>
  rintro D ys W hD hS ⟨⟨hI, hBs⟩, hcW⟩ hK
  rw [hS.length] at hI
  obtain ⟨sq, Aq, nq, cq, tq, Bq, mq, dq, hE⟩ := hI
  have hE := hE.def_ hK
  clear hK
  obtain ⟨k1, k2, k3, k4⟩ := (hE.here.1.2).c4
  have hgl153 : w.heap.size ≤ w.heap.size + 1 + 1 + 1 + 1 + 1 := by omega
  obtain ⟨x153_0, x153_1, x153_2, x153_3⟩ := (hE.h3).c4
  obtain ⟨f153_0, f153_1, f153_2, f153_3⟩ := hE.h3.f4
  replace hE := ((((((((Env.again (bel4 hE.bel hgl153 (.bool sq) (.slice Aq nq cq) (.bool tq) (.slice Bq mq dq))).blkI ((hE.h6).far4 (R := w.heap.size + 1 + 1 + 1 + 1 + 1) (by omega) (.bool sq) (.slice Aq nq cq) (.bool tq) (.slice Bq mq dq))).blkI ((hE.h5).far4 (R := w.heap.size + 1 + 1 + 1 + 1 + 1) (by omega) (.bool sq) (.slice Aq nq cq) (.bool tq) (.slice Bq mq dq))).blkI ((hE.h4).far4 (R := w.heap.size + 1 + 1 + 1 + 1 + 1) (by omega) (.bool sq) (.slice Aq nq cq) (.bool tq) (.slice Bq mq dq))).blkI ((hE.h3).s4 (.bool sq) (.slice Aq nq cq) (.bool tq) (.slice Bq mq dq))).fv ((hE.h2).sep4 hE.h3 rfl (.bool sq) (.slice Aq nq cq) (.bool tq) (.slice Bq mq dq) rfl rfl rfl)).blkI ((hE.here.1.2).far4 (R := w.heap.size + 1 + 1 + 1 + 1 + 1) (by omega) (.bool sq) (.slice Aq nq cq) (.bool tq) (.slice Bq mq dq))).def_ ((heap_set4 (by omega) (.bool sq) (.slice Aq nq cq) (.bool tq) (.slice Bq mq dq)).trans (hE.here.2)))
  gi_wp2
  clear x153_0 x153_1 x153_2 x153_3 f153_0 f153_1 f153_2 f153_3 hgl153
  generalize ((((W.setCell ⟨w.heap.size + 1 + 1 + 1 + 1 + 1, 0, none⟩ (.bool sq)).setCell ⟨w.heap.size + 1 + 1 + 1 + 1 + 1, 1, none⟩ (.slice Aq nq cq)).setCell ⟨w.heap.size + 1 + 1 + 1 + 1 + 1, 2, none⟩ (.bool tq)).setCell ⟨w.heap.size + 1 + 1 + 1 + 1 + 1, 3, none⟩ (.slice Bq mq dq)) = W153 at hE ⊢
  clear k1 k2 k3 k4
  obtain ⟨hB2, hV2, hb2⟩ := leave_frac (hE.h3) (hE.h2) hE.bel (show w.heap.size ≤ D by omega) (show D ≠ w.heap.size + 1 + 1 + 1 + 1 + 1 by omega) (hE.here.2) (.deferred none)
  refine ⟨by simp, .inl ⟨_, _, rfl, run_takeDeferred (hE.here.2), ?_⟩⟩
  obtain ⟨y0, y1, y2, y3⟩ := hB2.c4
  exact ⟨.tuple #[.agg #[.bool sq, .slice Aq nq cq, .bool tq, .slice Bq mq dq], .int .i64 0], by simp [results, Tryz.results60, go_sem, y0, y1, y2, y3], sq, Aq, nq, cq, tq, Bq, mq, dq, rfl, hV2, hb2⟩
 case stop => exact fun D c pre W hD _ h hK => h.elim
end Go.Proofs.YtmjlankpihnicaaGreat
