/-
  slices.All over the columns of a life; the plain bounds of sums of them.
-/
import Derived.RangeFuncCalls
import Derived.RangeFuncLeaves
import Derived.RangeFuncBox
import Derived.Shelf.Abstract
import Derived.Shelf.RegionOpen
import Derived.OwnWalkIn
import Derived.TacticsInMore
import Derived.LoopNIn
import Derived.LoopIn
import Derived.Deep.MidRow
import Derived.Test.YtmjlankpihnicaaGreatK8
import Derived.Test.YtmjlankpihnicaaGreatC3
namespace Go.Proofs.YtmjlankpihnicaaGreat
open Go.RowKit Go.Shelf
attribute [local go_sem] Oper.semAt_some

/-- A column with its year, as it is yielded. -/
structure Cl where
  k : Nat
  x : Nat → Q8
def Cl.vals (e : Cl) : Array Value := #[.int .i64 (e.k : Int), .agg (cols1 e.x).toArray]
def Cl.fit (J : Nat → Nat → Prop) (q : Nat → Nat → Rat) (pre : List Cl) (e : Cl) (W : World) : Prop := e.k = pre.length ∧ ∀ j, j < 6 → J e.k j → (e.x j).fv W (q e.k j)
def Cls (l : List Cl) (j : Nat) : Prop := l.map Cl.k = List.range j
theorem Cls.nil : Cls [] 0 := rfl
theorem Cls.snoc {l : List Cl} {j : Nat} {x : Cl} (h : Cls l j) (hx : x.k = j) : Cls (l ++ [x]) (j + 1) := by
  unfold Cls at *
  rw [List.map_append, h, List.range_succ, ← hx]
  rfl
theorem Cls.length {l : List Cl} {j : Nat} (h : Cls l j) : l.length = j := by
  have := congrArg List.length h
  simpa using this
theorem col_desc : ∃ d, Tryz.prog.underlying 53 = some d ∧ d.isRow = true := ⟨_, Tryz.underlying53, rfl⟩
theorem col_size (x : Nat → Q8) : (Tryz.prog.info? 53).map (·.size) = some (cols1 x).length := by
  obtain ⟨i, hi, -, hs, -⟩ := info_parts info_col
  rw [hi, cols1_len, ← hs]
  rfl
theorem cols1_one (x : Nat → Q8) : ∀ v ∈ cols1 x, v.oneCell' = true := fun v hv => by
  obtain ⟨y, i, rfl⟩ := cols1_in hv
  unfold Q8.cell
  split <;> rfl
/-- A column is read whole. -/
theorem col_load {g N cap k : Nat} {h : Nat → Nat → Q8} {W : World} (hB : ColB g N cap h W) (hk : k < N) : (Instr.loadAt 53 (.pointer (some ⟨g, k * 24, none⟩))).run Tryz.prog W = .ok (.agg (cols1 (h k)).toArray) W := by
  obtain ⟨d, h1, h2⟩ := col_desc
  refine run_loadAt_mid W g (k * 24) 53 (cols1 (h k)) d (fun j v hv => ?_) h1 h2 (col_size _)
  have hj : j < 24 := by have := (List.getElem?_eq_some_iff.1 hv).1; rwa [cols1_len] at this
  rw [cols1_at _ hj] at hv
  exact hB.at2 (j := j / 4) (i := j % 4) hk (by omega) (by omega) (by omega) (Option.some.inj hv)
/-- A column is stored into a new block. -/
theorem col_store (W : World) (x : Nat → Q8) : ∃ V, (Instr.storeAt 53 (.pointer (some ⟨W.heap.size, 0, none⟩)) (.agg (cols1 x).toArray)).run Tryz.prog (W.alloc (.cells #[.bool false, .slice none 0 0, .bool false, .slice none 0 0, .bool false, .slice none 0 0, .bool false, .slice none 0 0, .bool false, .slice none 0 0, .bool false, .slice none 0 0, .bool false, .slice none 0 0, .bool false, .slice none 0 0, .bool false, .slice none 0 0, .bool false, .slice none 0 0, .bool false, .slice none 0 0, .bool false, .slice none 0 0] 53)) = .ok () V ∧ (Instr.loadAt 53 (.pointer (some ⟨W.heap.size, 0, none⟩))).run Tryz.prog V = .ok (.agg (cols1 x).toArray) V ∧
    Below W.heap.size W V ∧ (W.alloc (.cells #[.bool false, .slice none 0 0, .bool false, .slice none 0 0, .bool false, .slice none 0 0, .bool false, .slice none 0 0, .bool false, .slice none 0 0, .bool false, .slice none 0 0, .bool false, .slice none 0 0, .bool false, .slice none 0 0, .bool false, .slice none 0 0, .bool false, .slice none 0 0, .bool false, .slice none 0 0, .bool false, .slice none 0 0] 53)).grownBy V (some W.heap.size) ∧ Blk 53 W.heap.size (cols1 x).toArray V := by
  obtain ⟨d, h1, h2⟩ := col_desc
  have hB := Blk.new W 53 #[.bool false, .slice none 0 0, .bool false, .slice none 0 0, .bool false, .slice none 0 0, .bool false, .slice none 0 0, .bool false, .slice none 0 0, .bool false, .slice none 0 0, .bool false, .slice none 0 0, .bool false, .slice none 0 0, .bool false, .slice none 0 0, .bool false, .slice none 0 0, .bool false, .slice none 0 0, .bool false, .slice none 0 0]
  have ht : (W.alloc (.cells #[.bool false, .slice none 0 0, .bool false, .slice none 0 0, .bool false, .slice none 0 0, .bool false, .slice none 0 0, .bool false, .slice none 0 0, .bool false, .slice none 0 0, .bool false, .slice none 0 0, .bool false, .slice none 0 0, .bool false, .slice none 0 0, .bool false, .slice none 0 0, .bool false, .slice none 0 0, .bool false, .slice none 0 0] 53)).there W.heap.size 0 (cols1 x).toArray.size := fun j hj => by
    rw [List.size_toArray, cols1_len] at hj
    rw [Nat.zero_add]
    refine ⟨?_, hB.frozen j⟩
    rw [hB.cell]
    simp
    omega
  have hst := run_storeAt_mid (P := Tryz.prog) _ W.heap.size 0 53 (cols1 x).toArray ht (by rw [col_size x, List.size_toArray]) (all_oneCell_toArray (cols1_one x))
  have hal : Below W.heap.size W (W.alloc (.cells #[.bool false, .slice none 0 0, .bool false, .slice none 0 0, .bool false, .slice none 0 0, .bool false, .slice none 0 0, .bool false, .slice none 0 0, .bool false, .slice none 0 0, .bool false, .slice none 0 0, .bool false, .slice none 0 0, .bool false, .slice none 0 0, .bool false, .slice none 0 0, .bool false, .slice none 0 0, .bool false, .slice none 0 0] 53)) := (Below.refl _ W).alloc (Nat.le_refl _) _
  generalize W.alloc (.cells #[.bool false, .slice none 0 0, .bool false, .slice none 0 0, .bool false, .slice none 0 0, .bool false, .slice none 0 0, .bool false, .slice none 0 0, .bool false, .slice none 0 0, .bool false, .slice none 0 0, .bool false, .slice none 0 0, .bool false, .slice none 0 0, .bool false, .slice none 0 0, .bool false, .slice none 0 0, .bool false, .slice none 0 0] 53) = W1 at *
  have hset : ∀ (vs : List Value) (o : Nat) (U : World), (∃ cs, Blk 53 W.heap.size cs U ∧ cs.size = 24) → U.grownBy (U.setCells W.heap.size o vs) (some W.heap.size) ∧ ∃ cs, Blk 53 W.heap.size cs (U.setCells W.heap.size o vs) ∧ cs.size = 24 := fun vs => by
    induction vs with
    | nil => exact fun o U hU => ⟨⟨rfl, rfl, rfl, Nat.le_refl _, fun _ _ _ => rfl⟩, hU⟩
    | cons v vs ih =>
      intro o U ⟨cs, h3, h4⟩
      obtain ⟨h5, h6⟩ := ih (o + 1) (U.setCell ⟨W.heap.size, o, none⟩ v) ⟨_, h3.set_ o v, by rw [Array.size_setIfInBounds, h4]⟩
      exact ⟨(Kept.set (Kept.refl U W.heap.size) (.inr rfl) o v).grown h5 (fun q e => by cases e; exact .inr rfl), h6⟩
  obtain ⟨k1, cs, k2, k3⟩ := hset (cols1 x).toArray.toList 0 W1 ⟨_, hB, rfl⟩
  have hr := World.rangeAt_setCells_same W1 W.heap.size 0 (cols1 x) (by rw [List.size_toArray] at ht; exact ht)
  have hcs : cs = (cols1 x).toArray := by
    apply Array.ext_getElem?
    intro i
    have h7 := k2.cell i
    rcases Nat.lt_or_ge i 24 with hi | hi
    · have h8 := hr i _ (cols1_at x hi)
      rw [Nat.zero_add] at h8
      rw [← h7, h8, List.getElem?_toArray, cols1_at x hi]
    · rw [Array.getElem?_eq_none (by omega), Array.getElem?_eq_none (by rw [List.size_toArray, cols1_len]; omega)]
  rw [hcs] at k2
  exact ⟨_, hst, run_loadAt_mid _ W.heap.size 0 53 (cols1 x) d hr h1 h2 (col_size _), hal.grown k1 hal.size (fun q e => by cases e; exact Nat.le_refl _), k1, k2⟩
theorem wpListIn_ld {F : Fence} {m : Nat} {P : Program} {w : World} {ops : Array Oper} {rest : List Oper} {o : Oper} {a : Act} {Q : Exit → Act → World → Prop} {ty : TypeId} {x : Operand} {p v : Value} (hr : (Instr.loadAt ty p).run P w = .ok v w) (hg : o.guard = none) (ho : o.op = .load ty x) (hx : a.eval x = p)
    (h : wpListIn F m P ops Q rest (a.put o.dst v) w) : wpListIn F m P ops Q (o :: rest) a w := by
  refine wpListIn_plain hg fun K hK => ?_
  unfold Oper.wpIn
  refine ⟨?_, ?_⟩
  · simp [Oper.about, ho]
  · rw [Oper.semAt_plain F _ _ (by rw [ho]; intro c hc'; cases hc')]
    simp [execOp, ho, hx, hr, Result.andThen]
    exact hK _ _ h
theorem wpListIn_st {F : Fence} {m : Nat} {P : Program} {w w' : World} {ops : Array Oper} {rest : List Oper} {o : Oper} {a : Act} {Q : Exit → Act → World → Prop} {ty : TypeId} {x y : Operand} {p v : Value} (hr : (Instr.storeAt ty p v).run P w = .ok () w') (hg : o.guard = none) (ho : o.op = .store ty x y) (hx : a.eval x = p) (hy : a.eval y = v)
    (h : wpListIn F m P ops Q rest (a.put o.dst undef) w') : wpListIn F m P ops Q (o :: rest) a w := by
  refine wpListIn_plain hg fun K hK => ?_
  unfold Oper.wpIn
  refine ⟨?_, ?_⟩
  · simp [Oper.about, ho]
  · rw [Oper.semAt_plain F _ _ (by rw [ho]; intro c hc'; cases hc')]
    simp [execOp, ho, hx, hy, hr, Result.andThen]
    exact hK _ _ h
set_option linter.unusedSimpArgs false in
set_option maxRecDepth 100000 in
set_option maxHeartbeats 4000000 in
theorem call1_in (m : Nat) (hm : 2 ≤ m) (l Bs n₀ : Nat) {g N cap : Nat} {h : Nat → Nat → Q8} {K : Nat → Nat → Prop} {q : Nat → Nat → Rat} {w : World} (hn₀ : w.heap.size ≤ n₀) (hC : ColB g N cap h w) (hQ : ColQ h N K q w) (h80 : N ≤ 80)
    (J Jx : List Cl → World → Prop)
    (hJ : ∀ pre (W W' : World), J pre W → Below W.heap.size W W' → J pre W')
    (hY : ∀ pre x W, J pre W → Cl.fit K q pre x W → pre.length < N → YieldAt Fence.wide (m - 1) Tryz.prog l x.vals W fun e W' =>
      (e = .returned (.bool true) ∧ J (pre ++ [x]) W' ∧ KpB n₀ Bs W W') ∨ (e = .returned (.bool false) ∧ Jx (pre ++ [x]) W'))
    (W : World) (hBs : Blk 43 Bs #[.slice (some ⟨g, 0, none⟩) N cap] W) (hW : Below w.heap.size w W) (h0 : J [] W) :
    CallsIn Fence.wide m Tryz.prog 137 #[.func (.yield l) #[] #[], .pointer (some ⟨Bs, 0, none⟩)] W fun e W' => (∃ v, e = .returned v) ∧
      ((∃ ys, Cls ys N ∧ J ys W') ∨ (∃ pre, (∃ j, j ≤ N ∧ Cls pre j) ∧ Jx pre W')) := by
  have hro : Fence.wide.round = none := rfl
  have hk0 := hBs.c1
  refine callsIn_of_wp Tryz.func137 rfl trivial ?_ hro
  simp only [Tryz.ntmps137, List.size_toArray, List.length_cons, List.length_nil, Nat.reduceAdd, Nat.reduceSub, Array.replicate_succ, Array.replicate_zero, List.push_toArray, List.append_toArray, List.nil_append, List.cons_append]
  gi_wp2
  gi_loopw [7] (fun i wr => ∃ (k : Nat) (pre : List Cl), k ≤ N ∧ i = .int .i64 (k : Int) ∧ Cls pre k ∧ J pre wr ∧ Below w.heap.size w wr) (fun i _ => N - (intOf i).toNat)
  case atStart => exact ⟨0, [], Nat.zero_le _, rfl, Cls.nil, h0, hW⟩
  case round =>
    obtain ⟨k, pre, hk, rfl, hys, hJs, hbel⟩ := hrel
    by_cases hlt : k < N
    · have hCw : ColB g N cap h wr := ColP.below hC hbel
      have hQw : ColQ h N K q wr := ColQ.stable _ _ _ _ _ _ hbel hQ
      have hld := col_load hCw hlt
      obtain ⟨V, hst, hld2, hba, -, -⟩ := col_store wr (h k)
      obtain ⟨fn, tmps, assign, body, hy, hR⟩ := hY pre ⟨k, h k⟩ V (hJ _ _ _ hJs hba) ⟨hys.length.symm, fun j hj hK => (hQw k hlt j hj hK).below hba⟩ (by rw [hys.length]; exact hlt)
      have hbel1 := hbel.trans (hba.mono hbel.size)
      dsimp only [Cl.vals] at hy
      have t1 : decide ((k : Int) < (N : Int)) = true := decide_eq_true (by omega)
      have t2 : (k : Int) < (N : Int) := by omega
      gi_wp2_with (first | refine wpListIn_ld hld rfl rfl rfl ?_ | refine wpListIn_st hst rfl rfl rfl rfl ?_ | refine wpListIn_ld hld2 rfl rfl rfl ?_)
      refine ⟨fun _ => by omega, hR.mono ?_⟩
      rintro e W3 (⟨rfl, hJ3, hk3⟩ | ⟨rfl, hJx3⟩)
      · have hbel3 := hbel1.trans (hk3.1.mono hn₀)
        gi_wp2
        go_roundw
        case rel => exact ⟨k + 1, _, by omega, by (try simp) <;> norm_cast, hys.snoc rfl, hJ3, hbel3⟩
        case measure => simp [intOf]; omega
      · gi_wp2
        refine bodyPost_ret (results_none rfl _ _ _) rfl ?_
        exact ⟨⟨_, rfl⟩, .inr ⟨_, ⟨k + 1, by omega, hys.snoc rfl⟩, hJx3⟩⟩
    · obtain rfl : k = N := by omega
      gi_wp2
      go_end0
      exact ⟨⟨_, rfl⟩, .inl ⟨_, hys, hJs⟩⟩
set_option maxHeartbeats 1000000 in
theorem call_in (m : Nat) (A : Option Addr) (n c : Nat) (w : World) :
    CallsIn Fence.wide m Tryz.prog 101 #[.slice A n c] w fun e w' => e = .returned (.func (.func 137) #[] #[.pointer (some ⟨w.heap.size, 0, none⟩)]) ∧ w' = w.alloc (.cells #[.slice A n c] 43) := by
  have hro : Fence.wide.round = none := rfl
  refine callsIn_of_wp Tryz.func101 rfl trivial ?_ hro
  simp only [Tryz.ntmps101, List.size_toArray, List.length_cons, List.length_nil, Nat.reduceAdd, Nat.reduceSub, Array.replicate_succ, Array.replicate_zero, List.push_toArray, List.append_toArray, List.nil_append, List.cons_append]
  gi_wp2
  go_ret
  exact ⟨rfl, rfl⟩
theorem call_seq (m : Nat) (hm : 2 ≤ m) (Bs n₀ : Nat) {g N cap : Nat} {h : Nat → Nat → Q8} {K : Nat → Nat → Prop} {q : Nat → Nat → Rat} {w : World} (hn₀ : w.heap.size ≤ n₀) (hC : ColB g N cap h w) (hQ : ColQ h N K q w) (h80 : N ≤ 80)
    (w0 : World) (hb0 : Below w.heap.size w w0) (hBs : Blk 43 Bs #[.slice (some ⟨g, 0, none⟩) N cap] w0) :
    SeqV Fence.wide m Tryz.prog 137 #[.pointer (some ⟨Bs, 0, none⟩)] Cl.vals (KpB n₀ Bs) (Cl.fit K q) (fun ys => Cls ys N) (fun pre => ∃ j, j ≤ N ∧ Cls pre j) N w0 := fun l J Jx W hW hJ _ hY h0 =>
  call1_in m hm l Bs n₀ hn₀ hC hQ h80 J Jx (fun _ _ _ hs hb => AbidesFrom_below hJ hs hb) hY W (hBs.below hW hBs.lt) (hb0.trans (hW.mono hb0.size)) h0
theorem ps_bound2 {g : Nat → Rat} {N E M : Nat} (a b : Int) (h : ∀ j, j < N → a ≤ (j : Int) → 0 ≤ g j ∧ g j ≤ (M : Rat) ∧ Dv (g j) E) : ∀ k, k ≤ N → 0 ≤ ps g a b k ∧ ps g a b k ≤ ((k * M : Nat) : Rat) ∧ Dv (ps g a b k) E
  | 0, _ => by simp only [ps]; exact ⟨by decide, by simp, ⟨0, by simp⟩⟩
  | k + 1, hk => by
    obtain ⟨h1, h2, h3⟩ := ps_bound2 a b h k (by omega)
    have e : (((k + 1) * M : Nat) : Rat) = ((k * M : Nat) : Rat) + (M : Rat) := by rw [Nat.succ_mul, Rat.natCast_add]
    have m0 : (0 : Rat) ≤ (M : Rat) := Rat.natCast_nonneg
    simp only [ps]
    rw [e]
    split
    · rename_i hc
      obtain ⟨g1, g2, g3⟩ := h k (by omega) hc.1
      exact ⟨by grind, by grind, h3.add g3⟩
    · exact ⟨h1, by grind, h3⟩
end Go.Proofs.YtmjlankpihnicaaGreat
