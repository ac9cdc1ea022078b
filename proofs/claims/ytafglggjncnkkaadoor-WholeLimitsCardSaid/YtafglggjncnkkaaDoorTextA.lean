/-
  Words for the walk of whole.Text.
-/
import Derived.Test.YtafglggjncnkkaaDoorFmt
import Derived.Test.YtafglggjncnkkaaDoorDec
import Derived.Test.YtafglggjncnkkaaDoorValid
import Derived.Test.YtafglggjncnkkaaDoorPack
import Derived.Test.YtafglggjncnkkaaDoorDivShort
import Derived.Test.YtafglggjncnkkaaDoorFromInt
import Derived.Lib.BufStepsIn
import Derived.Outline
namespace Go.Proofs.YtafglggjncnkkaaDoor
open Go.RowKit Go.Shelf
attribute [local go_sem] Oper.semAt_some

theorem Tab.below {w w' : World} (h : Tab w) (hb : Below w.heap.size w w') : Tab w' := by
  unfold Tab Lib.TabIs World.var? at *
  cases hg : Tryd.prog.globalNamed "internal/strconv.uint64pow10" with
  | none => simp [hg] at h
  | some g =>
    simp only [hg, Option.bind_some] at h ⊢
    have hlt : g < w.heap.size := by
      rcases Nat.lt_or_ge g w.heap.size with h' | h'
      · exact h'
      · rw [Array.getElem?_eq_none h'] at h; simp at h
    rw [hb.block g hlt]
    exact h
/-- The length of a slice value. -/
def lenV : Value → Nat
  | .slice _ n _ => n
  | _ => 0
theorem ln9_step {x k : Nat} : 0 < x / 1000000000 ^ k ↔ k < ln 1000000000 x := by
  rw [ln_lt (by decide), Nat.div_pos_iff]
  exact ⟨fun h => h.2, fun h => ⟨Nat.pow_pos (by decide), h⟩⟩
theorem ln9_le {x m : Nat} (h : ln b16 x ≤ m) : ln 1000000000 x ≤ m := (ln_le (by decide)).2 (Nat.lt_of_lt_of_le ((ln_le b16_two).1 h) (Nat.pow_le_pow_left (by decide) _))
theorem num32_grown {w w' : World} {row : Option Nat} {b x : Nat} (h : Num32 w (some ⟨b, 0, none⟩) x) (hg : w.grownBy w' row) (hne : some b ≠ row) : Num32 w' (some ⟨b, 0, none⟩) x := fun hn => by
  obtain ⟨b', o', e, hb, hc⟩ := h hn
  injection e with e
  injection e with e1 e2
  subst e1 e2
  exact ⟨b, 0, rfl, Nat.lt_of_lt_of_le hb hg.size, fun i hi => (World.cell?_of_block (hg.block b hb hne)).trans (hc i hi)⟩
theorem nums_succ (k : IntKind) (m : Nat) (f : Nat → Nat) : nums k m f ++ [.int k (f m : Int)] = nums k (m + 1) f := by simp [nums, List.range_succ]
theorem WholeAt.alloc' {w : World} {g : Nat} {s : Bool} {v : Value} (h : WholeAt w g s v) (o : Obj) : WholeAt (w.alloc o) g s v := (Below.heap_alloc _ _ _ h.lt).trans h
theorem WholeAt.grown {w w' : World} {g : Nat} {s : Bool} {v : Value} {row : Option Nat} (h : WholeAt w g s v) (hg : w.grownBy w' row) (hne : some g ≠ row) : WholeAt w' g s v := (hg.block g h.lt hne).trans h
theorem own_not {w : World} {base t size n : Nat} {v : Value} {xs : List Value} (h : w.ownsRow base t size v n xs) {g : Nat} (hg : g < base) : some g ≠ v.ownBlock := fun e => by
  have := (h.lt g e.symm).1
  omega
theorem own_below {base B t size n : Nat} {w w' : World} {v : Value} {xs : List Value} (h : w.ownsRow base t size v n xs) (hb : Below B w w') (hB : w.heap.size ≤ B) : w'.ownsRow base t size v n xs := by
  obtain ⟨h1, h2⟩ := h
  refine ⟨h1, ?_⟩
  rcases h2 with h2 | ⟨g, cap, cur, hv, hg, hh, r⟩
  · exact .inl h2
  · have hlt := heap_lt hh
    exact .inr ⟨g, cap, cur, hv, hg, (hb.block g (by omega)).trans hh, r⟩
/-- Bytes as cells. -/
def bts (l : List UInt8) : List Value := l.map fun c => Value.int .u8 c.toNat
theorem bts_append (l m : List UInt8) : bts (l ++ m) = bts l ++ bts m := by simp [bts]
theorem bts_str (D : ByteArray) : Lib.strCells D = bts D.data.toList := rfl
theorem dec_len_le {p : Nat} (h : p < 4294967296) : (Lib.decDigits p).length ≤ 10 := by
  rw [Lib.decDigits_length]
  exact nDigits_le (by decide) (by omega)
theorem addPart_len {t : List UInt8} {p : Nat} (h : p < 4294967296) : (addPart t p).length ≤ t.length + 10 := by
  have h1 := dec_len_le h
  have h2 := Lib.decDigits_length p
  unfold addPart
  split
  · omega
  · simp only [List.length_append, List.length_replicate]; omega
theorem txt_len (l : List (Bd 4294967296)) : (txt l).length ≤ 10 * l.length := by
  rw [← List.reverse_reverse l]
  generalize l.reverse = r
  induction r with
  | nil => simp [txt]
  | cons x r ih =>
    rw [List.reverse_cons, txt_snoc, List.length_append, List.length_singleton]
    have := addPart_len (t := txt r.reverse) x.2
    omega
theorem dec_dg0 (u : Nat) : ∀ c ∈ Lib.decDigits u, 48 ≤ c.toNat ∧ c.toNat ≤ 57 := by
  intro c hc
  rw [Lib.decDigits_eq] at hc
  obtain ⟨t, -, rfl⟩ := List.mem_map.1 hc
  unfold Lib.dg
  have := Nat.mod_lt (u / 10 ^ (Lib.nDigits u - 1 - t)) (show 0 < 10 by decide)
  rw [UInt8.toNat_ofNat']
  omega
theorem addPart_dg {t : List UInt8} {p : Nat} (h : ∀ c ∈ t, 48 ≤ c.toNat ∧ c.toNat ≤ 57) : ∀ c ∈ addPart t p, 48 ≤ c.toNat ∧ c.toNat ≤ 57 := by
  intro c hc
  unfold addPart at hc
  split at hc
  · exact dec_dg0 p c hc
  · rcases List.mem_append.1 hc with hc | hc
    · exact h c hc
    · rcases List.mem_append.1 hc with hc | hc
      · obtain ⟨-, rfl⟩ := List.mem_replicate.1 hc
        decide
      · exact dec_dg0 p c hc
theorem txt_dg (l : List (Bd 4294967296)) : ∀ c ∈ txt l, 48 ≤ c.toNat ∧ c.toNat ≤ 57 := by
  rw [← List.reverse_reverse l]
  generalize l.reverse = r
  induction r with
  | nil => intro c hc; simp [txt] at hc
  | cons x r ih =>
    rw [List.reverse_cons, txt_snoc]
    exact addPart_dg ih
/-- The text so far: the sign, then the parts. -/
def txtS (s : Bool) (l : List (Bd 4294967296)) : List UInt8 := (if s then [45] else []) ++ txt l
theorem own_val {w : World} {base t n : Nat} {v : Value} {xs : List Value} (h : w.ownsRow base t 1 v n xs) : ∃ A c, v = .slice A n c ∧ (0 < n → ∃ g, A = some ⟨g, 0, none⟩ ∧ g < w.heap.size ∧ ∀ (i : Nat) u, xs[i]? = some u → w.cell? ⟨g, i, none⟩ = some u) := by
  rcases h.2 with ⟨hv, hn⟩ | ⟨g, cap, cur, hv, _, hh, _⟩
  · exact ⟨none, 0, by rw [hv, hn], fun h0 => by omega⟩
  · refine ⟨_, _, hv, fun _ => ⟨g, rfl, heap_lt hh, fun i u hu => ?_⟩⟩
    have := h.cells (g := g) (by rw [hv]; rfl) i u hu
    rwa [Lib.add_plain, Nat.zero_add] at this
theorem keepsOthers_of_below {W W' : World} (hb : Below W.heap.size W W') : KeepsOthers W W' := ⟨hb.size, fun k _ hk _ => (hb.block k (heap_lt hk)).trans hk⟩
theorem own_boxed {β : Type} (B : Nat) (t : TypeId) (v : Value) : Own (fun (_ : β) W => Boxed W B t v) := by
  rintro s X Y row hv hg hrow
  refine hv.kept hg (fun e' => ?_)
  obtain ⟨o, ho, hc⟩ := hrow B e'.symm
  rw [show X.heap[B]? = _ from hv] at ho; cases ho; cases hc
/-- Behind 'b = append(b, s...)', b in a variable's box: as 'Boxed.appended', and a further box. -/
theorem Boxed.appended0 {W w1 : World} {n₀ B : Nat} {t e : TypeId} {size : Nat} {v v' : Value} {k m : Nat} {xs ys : List Value}
    (hv : Boxed W B t v) (hte : t ≠ e) (hrow : W.ownsRow n₀ e size v k xs) (hn₀ : n₀ ≤ W.heap.size) (hB : n₀ ≤ B)
    (hown' : w1.ownsRow n₀ e size v' m ys) (hgrow : W.grownBy w1 v.ownBlock) :
    Boxed w1 B t v ∧ Boxed (w1.setCell ⟨B, 0, none⟩ v') B t v' ∧ (w1.setCell ⟨B, 0, none⟩ v').ownsRow n₀ e size v' m ys ∧ KeepsOthers W (w1.setCell ⟨B, 0, none⟩ v') ∧ Below n₀ W (w1.setCell ⟨B, 0, none⟩ v') := by
  have hv1 : Boxed w1 B t v := hv.kept hgrow (hv.not_row hte hrow)
  refine ⟨hv1, hv1.set v', hown'.kept (grownBy_setCell' w1 B v') (.inr (hv1.not_row hte hown').symm), ?_, ?_⟩
  · refine (KeepsOthers.of_grownBy hgrow fun j o ej hj => ?_).trans (KeepsOthers.setCell _ _ _)
    rcases hrow.2 with ⟨rfl, _⟩ | ⟨g, cap, cur, rfl, _, hgb, _⟩
    · simp [Value.ownBlock] at ej
    · obtain rfl : g = j := by simpa [Value.ownBlock] using ej
      rw [hgb] at hj; cases hj; rfl
  · refine ((Below.refl n₀ W).grown hgrow hn₀ fun j ej => ?_).setCell (p := ⟨B, 0, none⟩) hB v'
    exact (hrow.lt j ej).1
/-- Another box is as it was. -/
theorem Boxed.apart {W w1 : World} {n₀ B Bs : Nat} {e ts : TypeId} {size : Nat} {v v' u : Value} {k : Nat} {xs : List Value}
    (hs : Boxed W Bs ts u) (hte : ts ≠ e) (hrow : W.ownsRow n₀ e size v k xs) (hne : Bs ≠ B) (hgrow : W.grownBy w1 v.ownBlock) : (w1.setCell ⟨B, 0, none⟩ v').heap[Bs]? = W.heap[Bs]? :=
  (Below.heap_setCell w1 ⟨B, 0, none⟩ v' Bs hne).trans (hgrow.block Bs hs.lt (hs.not_row hte hrow))
theorem fin_row {w : World} {base t : Nat} {v : Value} {n : Nat} {T T' : List UInt8} {D : ByteArray} (h : T' = T ++ D.data.toList) (hn : n = T.length) (ho : w.ownsRow base t 1 v (n + D.size) (bts T ++ Lib.strCells D)) : w.ownsRow base t 1 v T'.length (bts T') := by
  subst hn
  have hl : T'.length = T.length + D.size := by rw [h, List.length_append, Array.length_toList]; rfl
  rw [hl, h, bts_append, ← bts_str]
  exact ho
theorem txtS_first {s : Bool} {pre : List (Bd 4294967296)} (y : Bd 4294967296) (h : txt pre = []) : txtS s (pre ++ [y]) = txtS s pre ++ Lib.decDigits y.1 := by
  unfold txtS
  rw [txt_snoc, h]
  simp [addPart]
theorem txtS_more {s : Bool} {pre : List (Bd 4294967296)} (y : Bd 4294967296) (h : txt pre ≠ []) : txtS s (pre ++ [y]) = (txtS s pre ++ List.replicate (9 - Lib.nDigits y.1) 48) ++ Lib.decDigits y.1 := by
  have e : addPart (txt pre) y.1 = txt pre ++ (List.replicate (9 - Lib.nDigits y.1) 48 ++ Lib.decDigits y.1) := by
    unfold addPart
    rw [if_neg (by have := List.length_pos_iff.2 h; omega)]
  unfold txtS
  rw [txt_snoc, e]
  simp only [List.append_assoc]
theorem bts_pad (T : List UInt8) (j : Nat) : bts (T ++ List.replicate j 48) ++ [.int .u8 48] = bts (T ++ List.replicate (j + 1) 48) := by
  rw [List.replicate_succ', ← List.append_assoc, bts_append (T ++ List.replicate j 48)]
  rfl
theorem txtS_one {s : Bool} {pre : List (Bd 4294967296)} (h : txt pre ≠ []) (hn : (txtS s pre).length = 1) : ∃ c : Nat, (bts (txtS s pre))[0]? = some (.int .u8 (c : Int)) ∧ 48 ≤ c := by
  have hp := List.length_pos_iff.2 h
  cases s
  · cases ht : txt pre with
    | nil => exact absurd ht h
    | cons c r =>
      have hd := txt_dg pre c (by rw [ht]; exact List.mem_cons_self)
      exact ⟨c.toNat, by simp [txtS, ht, bts], hd.1⟩
  · simp [txtS] at hn
    exact absurd hn h
/-- The decimal form of a sign and an absolute value. -/
def numeral (s : Bool) (x : Nat) : List UInt8 := (if s then [45] else []) ++ Lib.decDigits x
/-- The parts of nine digits. -/
def dgt9 (x : Nat) : Nat → Nat := dgt 1000000000 x
theorem dgt9_lt (x i : Nat) : dgt9 x i < 4294967296 := Nat.lt_trans (dgt_lt (by decide) x i) (by decide)
theorem txt_all {x : Nat} (hx : 0 < x) : txt (dn 4294967296 (dgt9 x) (dgt9_lt x) (ln 1000000000 x) (ln 1000000000 x)) = Lib.decDigits x := by
  have hp := (ln_pos (B := 1000000000) (by decide)).2 hx
  have ht := dgt_top (B := 1000000000) (by decide) hx
  have hv := dval_all 1000000000 4294967296 (dgt9 x) (dgt9_lt x) (ln 1000000000 x)
  rw [show vs 1000000000 (dgt9 x) (ln 1000000000 x) = x from vs_dgt_ln (by decide) x] at hv
  obtain ⟨k, hk⟩ : ∃ k, ln 1000000000 x = k + 1 := ⟨ln 1000000000 x - 1, by omega⟩
  have h := txt_dn 4294967296 (dgt9 x) (dgt9_lt x) (ln 1000000000 x) (fun i _ => dgt_lt (by decide) x i) ht k (by omega)
  rw [← hk, hv] at h
  exact h.1
/-- 'append(b, s...)', inside a fence. -/
theorem wpListIn_append_str {F : Fence} {n' : Nat} {P : Program} {ops : Array Oper} {rest : List Oper} {o : Oper} {a : Act} {Q : Exit → Act → World → Prop} (w : World) (hgd : o.guard = none) (sl x : Operand) (t u : TypeId)
    (ho : o.op = .call { callee := .builtin .append, args := #[sl, x], argTypes := #[t, u] })
    (base : Nat) (e : TypeId) (i : TypeInfo) (ht : P.underlying t = some (.slice e)) (hu : P.underlying u = some .string) (hi : P.info? e = some i) (hz : i.zero = some (.int .u8 0))
    (hsize : i.size = 1) (hby : i.bytes = 1)
    (v : Value) (n : Nat) (xs : List Value) (hs : a.eval sl = v) (hown : w.ownsRow base e 1 v n xs) (s : ByteArray) (hx : a.eval x = .string s)
    (h63 : n + s.size ≤ maxLen) (hbytes : n + s.size ≤ 140737488355328) (hbase : base ≤ w.heap.size)
    (h : ∀ v' w', w'.ownsRow base e 1 v' (n + s.size) (xs ++ Lib.strCells s) → w.grownBy w' v.ownBlock → wpListIn F n' P ops Q rest (a.put o.dst v') w') : wpListIn F n' P ops Q (o :: rest) a w := by
  refine wpListIn_plain hgd fun K hK => ?_
  obtain ⟨v', w', hr, h2, h3, h4⟩ := Lib.run_append_own_string (P := P) w base t u o.type e i ht hu hi hz hsize hby v n xs hown s h63 hbytes hbase
  unfold Oper.wpIn
  refine ⟨?_, ?_⟩
  · simp [Oper.about, ho, resolve, Target.leads, Sem.run_pure]
  · rw [Oper.semAt_plain F _ _ (by rw [ho]; intro c hc'; cases hc')]
    simp [execOp, ho, resolve, invoke, builtin, hs, hx, hr, Result.andThen]
    exact hK _ _ (h v' w' h2 h3)
end Go.Proofs.YtafglggjncnkkaaDoor
