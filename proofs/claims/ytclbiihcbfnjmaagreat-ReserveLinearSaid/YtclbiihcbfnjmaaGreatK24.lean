/-
  Parts.
-/
import Derived.Laws.MakeOwn
import Derived.Test.YtclbiihcbfnjmaaGreatK21
import Derived.Test.YtclbiihcbfnjmaaGreatPN
import Derived.Test.YtclbiihcbfnjmaaGreatK20
set_option linter.unusedSimpArgs false
set_option maxRecDepth 100000
set_option maxHeartbeats 4000000
namespace Go.Proofs.YtclbiihcbfnjmaaGreat
section
open Go.RowKit

def FrB (g n k0 : Nat) (h : Nat → Q8) (W : World) : Prop :=
 ∃ cs : Array Value, Blk 29 g cs W ∧ cs.size = n * 4 ∧ (∀ (i : Nat) (v : Value), cs[i]? = some v → noLimb v = true) ∧ ∀ k, k0 ≤ k → k < n → ∀ i, i < 4 → cs[k * 4 + i]? = some ((h k).cell i)
def upd1 (h : Nat → Q8) (k : Nat) (x : Q8) : Nat → Q8 := fun j => if j = k then x else h j
section
variable {w w' W : World} {g n k0 : Nat} {h : Nat → Q8}
theorem FrB.lt (hf : FrB g n k0 h W) : g < W.heap.size := by obtain ⟨cs, hb, _⟩ := hf; exact hb.lt
theorem FrB.any (hf : FrB g n k0 h W) {k i o : Nat} (hk : k < n) (hi : i < 4) (ho : o = k * 4 + i) : ∃ v, W.cell? ⟨g, o, none⟩ = some v := by
 obtain ⟨cs, hb, hs, _, _⟩ := hf;subst ho;rw [hb.cell];exact ⟨_, Array.getElem?_eq_getElem (by omega)⟩
theorem FrB.frozen (hf : FrB g n k0 h W) (i : Nat) : W.frozen? ⟨g, i, none⟩ = false := by obtain ⟨cs, hb, _⟩ := hf; exact hb.frozen i
theorem FrB.stable (g n k0 : Nat) (h : Nat → Q8) : Stable (FrB g n k0 h) := fun _ _ hb ⟨cs, h1, h2⟩ => ⟨cs, h1.below hb h1.lt, h2⟩
theorem FrB.blk (hf : FrB g n k0 h W) : ∃ cs : Array Value, Blk 29 g cs W ∧ cs.toList.all noLimb = true := by
 obtain ⟨cs, hb, _, h5, _⟩ := hf;exact ⟨cs, hb, all_noLimb h5⟩
theorem set4_sets (W : World) (g o : Nat) (x : Q8) : set4 W g o x = W.setCells g o [.bool x.s, .slice x.A x.n x.c, .bool x.t, .slice x.B x.m x.d] := rfl
theorem FrB.put (hf : FrB g n (k0 + 1) h W) (hk : k0 < n) (x : Q8) : FrB g n k0 (upd1 h k0 x) (set4 W g (k0 * 4) x) ∧ W.grownBy (set4 W g (k0 * 4) x) (some g) := by
 obtain ⟨cs, hb, hs, hl, hc⟩ := hf;refine ⟨⟨_, (((hb.set_ (k0 * 4) _).set_ (k0 * 4 + 1) _).set_ (k0 * 4 + 2) _).set_ (k0 * 4 + 3) _, by simp [hs], fun i v hv => ?_, fun k h0 hkn i hi => ?_⟩, ?_⟩
 ·
  simp only [Array.getElem?_setIfInBounds, Array.size_setIfInBounds] at hv;have l0 : noLimb (.bool x.s) = true := rfl;have l1 : noLimb (.slice x.A x.n x.c) = true := rfl;have l2 : noLimb (.bool x.t) = true := rfl;have l3 : noLimb (.slice x.B x.m x.d) = true := rfl
  split at hv
  ·
   split at hv
   · cases hv; exact l3
   · cases hv
  ·
   split at hv
   ·
    split at hv
    · cases hv; exact l2
    · cases hv
   ·
    split at hv
    ·
     split at hv
     · cases hv; exact l1
     · cases hv
    ·
     split at hv
     ·
      split at hv
      · cases hv; exact l0
      · cases hv
     · exact hl i v hv
 ·
  simp only [Array.getElem?_setIfInBounds, Array.size_setIfInBounds];unfold upd1
  by_cases e : k = k0
  ·
   subst e;rw [if_pos rfl]
   obtain rfl | rfl | rfl | rfl : i = 0 ∨ i = 1 ∨ i = 2 ∨ i = 3 := by omega
   · rw [if_neg (by omega), if_neg (by omega), if_neg (by omega), if_pos (by omega), if_pos (by omega)]; rfl
   · rw [if_neg (by omega), if_neg (by omega), if_pos (by omega), if_pos (by omega)]; rfl
   · rw [if_neg (by omega), if_pos (by omega), if_pos (by omega)]; rfl
   · rw [if_pos (by omega), if_pos (by omega)]; rfl
  ·
   rw [if_neg e, if_neg (by omega), if_neg (by omega), if_neg (by omega), if_neg (by omega)];exact hc k (by omega) hkn i hi
 ·
  rw [set4_sets];exact (sets_grown _ _ W ⟨cs, hb, rfl⟩).1
end
def FrQ (h : Nat → Q8) (n k0 : Nat) (q : Nat → Rat) (W : World) : Prop := ∀ k, k0 ≤ k → k < n → (h k).fv W (q k)
theorem FrQ.stable (h : Nat → Q8) (n k0 : Nat) (q : Nat → Rat) : Stable (FrQ h n k0 q) := fun _ _ hb hq k h0 hk => FV.below (hq k h0 hk) hb
theorem FrQ.grownB {w w' : World} {t : TypeId} {g : Nat} {cs : Array Value} {h : Nat → Q8} {n k0 : Nat} {q : Nat → Rat} (hq : FrQ h n k0 q w) (hB : Blk t g cs w) (hn : cs.toList.all noLimb = true) (hg : w.grownBy w' (some g)) : FrQ h n k0 q w' := fun k h0 hk => FV.grownB (hq k h0 hk) hB hn hg
theorem FrQ.put {W : World} {h : Nat → Q8} {n k0 : Nat} {q : Nat → Rat} (hq : FrQ h n (k0 + 1) q W) {x : Q8} (hx : x.fv W (q k0)) : FrQ (upd1 h k0 x) n k0 q W := fun k h0 hk => by
 unfold upd1
 split
 · rename_i e; subst e; exact hx
 · rename_i e; exact hq k (by omega) hk
theorem Env.frb {w W : World} {P : World → Prop} {g n k0 : Nat} {h : Nat → Q8} (hE : Env w P W) (hf : FrB g n k0 h W) : Env w (fun V => P V ∧ FrB g n k0 h V) W := hE.and (FrB.stable _ _ _ _) hf
theorem Env.frq {w W : World} {P : World → Prop} {n k0 : Nat} {h : Nat → Q8} {q : Nat → Rat} (hE : Env w P W) (hq : FrQ h n k0 q W) : Env w (fun V => P V ∧ FrQ h n k0 q V) W := hE.and (FrQ.stable _ _ _ _) hq
theorem info_fr1 : (Tryz.prog.info? 29).map (fun i => (i.zero, i.size, i.bytes)) = some (some (.agg qz4), 4, 64) := by kernel_rfl
def frz (n : Nat) : Array Value := madeCells qz4 (n * 4)
theorem make_frs (n : Nat) (hn : n ≤ 1000000) (w : World) : (Instr.makeSlice 39 (.int .i64 (n : Int)) (.int .i64 (n : Int))).run Tryz.prog w = .ok (.slice (some ⟨w.heap.size, 0, none⟩) n n) (w.alloc (.cells (frz n) 29)) := by
 obtain ⟨i, hi, hz, hs, hb⟩ := info_parts info_fr1;have h := run_make (P := Tryz.prog) w 39 29 i _ Tryz.underlying39 hi hz .i64 .i64 (n : Int) (n : Int) (by omega) (Int.le_refl _) (by rw [hb]; omega) (by omega);rw [h, hs];simp only [Int.toNat_natCast];rfl
theorem frb_make (n : Nat) (h : Nat → Q8) (w : World) : FrB w.heap.size n n h (w.alloc (.cells (frz n) 29)) :=
 ⟨frz n, Blk.new w _ _, size_madeCells _ _, fun i v hv => by
  unfold frz madeCells at hv;rw [Array.getElem?_map] at hv;obtain ⟨j, hj, rfl⟩ := Option.map_eq_some_iff.1 hv
  have : j % 4 = 0 ∨ j % 4 = 1 ∨ j % 4 = 2 ∨ j % 4 = 3 := by omega
  rcases this with e | e | e | e <;> simp [e, noLimb], fun k h0 hk => absurd hk (by omega)⟩
section
variable {w : World} {t : TypeId} {g G n cap : Nat} {cs : Array Value} {P : Nat → Nat → Nat → Value} {h : Nat → Nat → Q8} {J : Nat → Nat → Prop} {q : Nat → Nat → Rat}
theorem st4_grown (hB : Blk t g cs w) (a b c d : Value) : w.grownBy ((((w.setCell ⟨g, 0, none⟩ a).setCell ⟨g, 1, none⟩ b).setCell ⟨g, 2, none⟩ c).setCell ⟨g, 3, none⟩ d) (some g) := (sets_grown [a, b, c, d] 0 w ⟨cs, hB, rfl⟩).1
theorem ColP.st4 (hC : ColP G n cap P w) (hB : Blk t g cs w) (ht : t ≠ 98) (a b c d : Value) : ColP G n cap P ((((w.setCell ⟨g, 0, none⟩ a).setCell ⟨g, 1, none⟩ b).setCell ⟨g, 2, none⟩ c).setCell ⟨g, 3, none⟩ d) := ColP.grownB hC hB ht (st4_grown hB a b c d)
theorem ColQ.st4 (hq : ColQ h n J q w) (hB : Blk t g cs w) (hn : cs.toList.all noLimb = true) (a b c d : Value) : ColQ h n J q ((((w.setCell ⟨g, 0, none⟩ a).setCell ⟨g, 1, none⟩ b).setCell ⟨g, 2, none⟩ c).setCell ⟨g, 3, none⟩ d) := ColQ.grownB hq hB hn (st4_grown hB a b c d)
theorem FrB.st4 {n0 k0 : Nat} {h1 : Nat → Q8} {g0 : Nat} (hf : FrB g0 n0 k0 h1 w) (hB : Blk t g cs w) (hne : g0 ≠ g) (a b c d : Value) : FrB g0 n0 k0 h1 ((((w.setCell ⟨g, 0, none⟩ a).setCell ⟨g, 1, none⟩ b).setCell ⟨g, 2, none⟩ c).setCell ⟨g, 3, none⟩ d) := by
 obtain ⟨cs', hb, h2⟩ := hf;exact ⟨cs', Blk.grownB hb (st4_grown hB a b c d) hne, h2⟩
theorem FrQ.st4 {n0 k0 : Nat} {h1 : Nat → Q8} {q1 : Nat → Rat} (hq : FrQ h1 n0 k0 q1 w) (hB : Blk t g cs w) (hn : cs.toList.all noLimb = true) (a b c d : Value) : FrQ h1 n0 k0 q1 ((((w.setCell ⟨g, 0, none⟩ a).setCell ⟨g, 1, none⟩ b).setCell ⟨g, 2, none⟩ c).setCell ⟨g, 3, none⟩ d) := FrQ.grownB hq hB hn (st4_grown hB a b c d)
end
end
section
open Go.RowKit Go.Shelf
attribute [local go_sem] Oper.semAt_some

def Kp2 (n₀ Bv Bt : Nat) (W W' : World) : Prop := KpB n₀ Bv W W' ∧ KpB n₀ Bt W W'
theorem vbefore_v {x : Ct} {G N cap : Nat} (t : Int) (w : World) : Calls Tryz.prog 64 #[.agg (x.Q G N cap), .int .i64 t] w fun e w' => e = .returned (.func (.func 109) #[] #[.pointer (some ⟨w.heap.size + 1, 0, none⟩), .pointer (some ⟨w.heap.size, 0, none⟩)]) ∧ w' = (w.alloc (.cells (x.Q G N cap) 80)).alloc (.cells #[.int .i64 t] 3) := by
 go_enter Tryz.func64, Tryz.ntmps64
 go_wp2_with fail
 go_ret
 exact ⟨by simp, rfl⟩
theorem bef1_in (m : Nat) (hm : 2 ≤ m) (l Bv Bt n₀ : Nat) {x : Ct} {G N cap t : Nat} {h : Nat → Nat → Q8} {K : Nat → Nat → Prop} {q : Nat → Nat → Rat} {w : World} (hn₀ : w.heap.size ≤ n₀) (hC : ColB G N cap h w) (hQ : ColQ h N K q w) (h80 : N ≤ 80) (ht : t ≤ N)
  (J Jx : List Cl → World → Prop)
  (hY : ∀ pre x W, J pre W → Cl.fit K q pre x W → pre.length < t → YieldAt Fence.wide (m - 1) Tryz.prog l x.vals W fun e W' =>
   (e = .returned (.bool true) ∧ J (pre ++ [x]) W' ∧ Kp2 n₀ Bv Bt W W') ∨ (e = .returned (.bool false) ∧ Jx (pre ++ [x]) W'))
  (W : World) (hBv : Blk 80 Bv (x.Q G N cap) W) (hBt : Blk 3 Bt #[.int .i64 (t : Int)] W) (hW : Below w.heap.size w W) (h0 : J [] W) :
  CallsIn Fence.wide m Tryz.prog 109 #[.func (.yield l) #[] #[], .pointer (some ⟨Bt, 0, none⟩), .pointer (some ⟨Bv, 0, none⟩)] W fun e W' => (∃ v, e = .returned v) ∧
   ((∃ ys, Cls ys t ∧ J ys W') ∨ (∃ pre, (∃ j, j ≤ t ∧ Cls pre j) ∧ Jx pre W')) := by
 have hro : Fence.wide.round = none := rfl;refine callsIn_of_wp Tryz.func109 rfl trivial ?_ hro;simp only [Tryz.ntmps109, List.size_toArray, List.length_cons, List.length_nil, Nat.reduceAdd, Nat.reduceSub, Array.replicate_succ, Array.replicate_zero, List.push_toArray, List.append_toArray, List.nil_append, List.cons_append]
 gi_wp2
 gi_loopw [4] (fun i wr => ∃ (k : Nat) (pre : List Cl), k ≤ t ∧ i = .int .i64 (k : Int) ∧ Cls pre k ∧ J pre wr ∧ Below w.heap.size w wr ∧ Blk 80 Bv (x.Q G N cap) wr ∧ Blk 3 Bt #[.int .i64 (t : Int)] wr) (fun i _ => t - (intOf i).toNat)
 case atStart => exact ⟨0, [], Nat.zero_le _, rfl, Cls.nil, h0, hW, hBv, hBt⟩
 case round =>
  obtain ⟨k, pre, hk, rfl, hys, hJs, hbel, hV, hT⟩ := hrel;have c9 := hV.cell 9;have c0 := hT.c1
  by_cases hlt : k < t
  ·
   have hCw : ColB G N cap h wr := ColP.below hC hbel;have hQw : ColQ h N K q wr := ColQ.stable _ _ _ _ _ _ hbel hQ
   have hkN : k < N := by omega
   have hld := col_load hCw hkN;obtain ⟨fn, tmps, assign, body, hy, hR⟩ := hY pre ⟨k, h k⟩ wr hJs ⟨hys.length.symm, fun j hj hK => hQw k hkN j hj hK⟩ (by rw [hys.length]; exact hlt)
   dsimp only [Cl.vals] at hy
   have t1 : decide ((k : Int) < (t : Int)) = true := decide_eq_true (by omega)
   have t2 : (k : Int) < (t : Int) := by omega
   have t3 : decide ((k : Int) < (N : Int)) = true := decide_eq_true (by omega)
   have t4 : (k : Int) < (N : Int) := by omega
   gi_wp2_with (first | refine wpListIn_ld hld rfl rfl rfl ?_)
   refine ⟨fun _ => by omega, hR.mono ?_⟩
   rintro e W3 (⟨rfl, hJ3, hk3⟩ | ⟨rfl, hJx3⟩)
   ·
    have hbel3 := hbel.trans (hk3.1.1.mono hn₀)
    gi_wp2
    go_roundw
    case rel => exact ⟨k + 1, _, by omega, by (try simp) <;> norm_cast, hys.snoc rfl, hJ3, hbel3, hk3.1.blk hV, hk3.2.blk hT⟩
    case measure => simp [intOf]; omega
   ·
    gi_wp2
    refine bodyPost_ret (results_none rfl _ _ _) rfl ?_;exact ⟨⟨_, rfl⟩, .inr ⟨_, ⟨k + 1, by omega, hys.snoc rfl⟩, hJx3⟩⟩
  ·
   obtain rfl : k = t := by omega
   have t1 : decide ((k : Int) < (k : Int)) = false := decide_eq_false (by omega)
   gi_wp2
   go_end0
   exact ⟨⟨_, rfl⟩, .inl ⟨_, hys, hJs⟩⟩
theorem bef_seq (m : Nat) (hm : 2 ≤ m) (Bv Bt n₀ : Nat) {x : Ct} {G N cap t : Nat} {h : Nat → Nat → Q8} {K : Nat → Nat → Prop} {q : Nat → Nat → Rat} {w : World} (hn₀ : w.heap.size ≤ n₀) (hC : ColB G N cap h w) (hQ : ColQ h N K q w) (h80 : N ≤ 80) (ht : t ≤ N)
  (w0 : World) (hb0 : Below w.heap.size w w0) (hBv : Blk 80 Bv (x.Q G N cap) w0) (hBt : Blk 3 Bt #[.int .i64 (t : Int)] w0) :
  SeqV Fence.wide m Tryz.prog 109 #[.pointer (some ⟨Bt, 0, none⟩), .pointer (some ⟨Bv, 0, none⟩)] Cl.vals (Kp2 n₀ Bv Bt) (Cl.fit K q) (fun ys => Cls ys t) (fun pre => ∃ j, j ≤ t ∧ Cls pre j) t w0 := fun l J Jx W hW _ _ hY h0 =>
 bef1_in m hm l Bv Bt n₀ hn₀ hC hQ h80 ht J Jx hY W (hBv.below hW hBv.lt) (hBt.below hW hBt.lt) (hb0.trans (hW.mono hb0.size)) h0
end
end Go.Proofs.YtclbiihcbfnjmaaGreat
