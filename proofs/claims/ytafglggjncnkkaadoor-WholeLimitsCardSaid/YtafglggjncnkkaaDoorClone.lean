/-
  slices.Clone of words.
-/
import Derived.Test.YtafglggjncnkkaaDoorNum
namespace Go.Proofs.YtafglggjncnkkaaDoor
open Go.RowKit

theorem clone32_nil (c : Nat) (f : Nat → Nat) (w : World) : Calls Tryd.prog 78 #[.slice none 0 c] w (ClonePost 57 .u32 none 0 f w) := by
  have qT : ∀ (w : World) (a : Option Addr) (n c n' c' : Nat), (binOp .eql 54 (.slice a n c) (.slice none n' c')).run Tryd.prog w = .ok (.bool a.isNone) w := fun w a n c n' c' => Lib.run_eql_slice_nil w _ _ a n c n' c' Tryd.underlying54
  go_enter Tryd.func78, Tryd.ntmps78
  go_wp2
  go_ret
  exact ⟨_, rfl, World.ownsRow_nil .., Below.refl _ _, fun _ => rfl⟩

set_option maxRecDepth 100000 in
set_option maxHeartbeats 400000 in
theorem clone32_some (a : Addr) (n c : Nat) (f : Nat → Nat) (w : World) (h : Rd w.heap.size .u32 w (some a) n f) (hn : n ≤ 100000000) : Calls Tryd.prog 78 #[.slice (some a) n c] w (ClonePost 57 .u32 (some a) n f w) := by
  have qT : ∀ (w : World) (a : Option Addr) (n c n' c' : Nat), (binOp .eql 54 (.slice a n c) (.slice none n' c')).run Tryd.prog w = .ok (.bool a.isNone) w := fun w a n c n' c' => Lib.run_eql_slice_nil w _ _ a n c n' c' Tryd.underlying54
  obtain ⟨i0, hi, hz0, hz1, hz2⟩ := info_parts info_u32
  go_enter Tryd.func78, Tryd.ntmps78
  have hcell : ∀ (j : Nat) (u : Value), (nums .u32 n f)[j]? = some u → (w.alloc (.cells #[] 57)).cell? (a.add j) = some u := by
    intro j u hu
    have hj : j < n := by
      rcases Nat.lt_or_ge j n with hj | hj
      · exact hj
      · rw [List.getElem?_eq_none (by rw [nums_length]; exact hj)] at hu; cases hu
    obtain ⟨b, o, e, hb, hc⟩ := (h.alloc (Nat.le_refl _) (.cells #[] 57)) (by omega)
    have e' : a = ⟨b, o, none⟩ := by injection e
    subst e'
    rw [nums_get hj] at hu
    have h1 := hc j hj
    unfold Addr.add
    split
    · rename_i h0; subst h0; rw [← hu]; exact h1
    · rw [← hu]; exact h1
  have HC := Lib.hid hcell
  clear hcell
  have HL : (nums .u32 n f).length = n * 1 := by rw [nums_length]; omega
  have H1 : ∀ u ∈ nums .u32 n f, u.oneCell' = true := by simp [nums, Value.oneCell']
  have HM : 0 + n ≤ maxLen := by unfold maxLen; omega
  have HB : (0 + n) * 4 ≤ 140737488355328 := by omega
  have HS : w.heap.size ≤ (w.alloc (.cells #[] 57)).heap.size := by simp
  go_wp2_with (at_builtin; refine wpList_append_own _ rfl _ _ 54 rfl w.heap.size 57 i0 (.int .u32 0) 1 4 Tryd.underlying54 hi hz0 hz1 hz2 rfl (by decide) _ _ _ rfl (World.ownsRow_made w #[] 0 (Nat.le_refl _) (by decide) rfl) a n c (nums .u32 n f) rfl HL HC.out H1 HM HB HS ?_; intro v' w1 hown hgrow hnil)
  go_ret
  refine ⟨_, rfl, ?_, ?_, fun e => by cases e⟩
  · rw [Nat.zero_add, List.nil_append] at hown
    exact hown
  · exact ((Below.refl _ _).alloc (Nat.le_refl _) _).grown hgrow (by simp) (fun k e => by cases e; exact Nat.le_refl _)
theorem clone32_any (A : Option Addr) (n c : Nat) (f : Nat → Nat) (w : World) (h : Rd w.heap.size .u32 w A n f) (hn : n ≤ 100000000) : Calls Tryd.prog 78 #[.slice A n c] w (ClonePost 57 .u32 A n f w) := by
  cases A with
  | some a => exact clone32_some a n c f w h hn
  | none =>
    rcases Nat.eq_zero_or_pos n with rfl | h0
    · exact clone32_nil c f w
    · obtain ⟨b, o, e, _⟩ := h h0
      cases e
end Go.Proofs.YtafglggjncnkkaaDoor
/-! slices.Clone of limbs. -/
namespace Go.Proofs.YtafglggjncnkkaaDoor
open Go.RowKit

theorem clone16_nil (c : Nat) (f : Nat → Nat) (w : World) : Calls Tryd.prog 68 #[.slice none 0 c] w (ClonePost 40 .u16 none 0 f w) := by
  have qT : ∀ (w : World) (a : Option Addr) (n c n' c' : Nat), (binOp .eql 22 (.slice a n c) (.slice none n' c')).run Tryd.prog w = .ok (.bool a.isNone) w := fun w a n c n' c' => Lib.run_eql_slice_nil w _ _ a n c n' c' Tryd.underlying22
  go_enter Tryd.func68, Tryd.ntmps68
  go_wp2
  go_ret
  exact ⟨_, rfl, World.ownsRow_nil .., Below.refl _ _, fun _ => rfl⟩

set_option maxRecDepth 100000 in
set_option maxHeartbeats 400000 in
theorem clone16_some (a : Addr) (n c : Nat) (f : Nat → Nat) (w : World) (h : Rd w.heap.size .u16 w (some a) n f) (hn : n ≤ 100000000) : Calls Tryd.prog 68 #[.slice (some a) n c] w (ClonePost 40 .u16 (some a) n f w) := by
  have qT : ∀ (w : World) (a : Option Addr) (n c n' c' : Nat), (binOp .eql 22 (.slice a n c) (.slice none n' c')).run Tryd.prog w = .ok (.bool a.isNone) w := fun w a n c n' c' => Lib.run_eql_slice_nil w _ _ a n c n' c' Tryd.underlying22
  obtain ⟨i0, hi, hz0, hz1, hz2⟩ := info_parts info_u16
  go_enter Tryd.func68, Tryd.ntmps68
  have hcell : ∀ (j : Nat) (u : Value), (nums .u16 n f)[j]? = some u → (w.alloc (.cells #[] 40)).cell? (a.add j) = some u := by
    intro j u hu
    have hj : j < n := by
      rcases Nat.lt_or_ge j n with hj | hj
      · exact hj
      · rw [List.getElem?_eq_none (by rw [nums_length]; exact hj)] at hu; cases hu
    obtain ⟨b, o, e, hb, hc⟩ := (h.alloc (Nat.le_refl _) (.cells #[] 40)) (by omega)
    have e' : a = ⟨b, o, none⟩ := by injection e
    subst e'
    rw [nums_get hj] at hu
    have h1 := hc j hj
    unfold Addr.add
    split
    · rename_i h0; subst h0; rw [← hu]; exact h1
    · rw [← hu]; exact h1
  have HC := Lib.hid hcell
  clear hcell
  have HL : (nums .u16 n f).length = n * 1 := by rw [nums_length]; omega
  have H1 : ∀ u ∈ nums .u16 n f, u.oneCell' = true := by simp [nums, Value.oneCell']
  have HM : 0 + n ≤ maxLen := by unfold maxLen; omega
  have HB : (0 + n) * 2 ≤ 140737488355328 := by omega
  have HS : w.heap.size ≤ (w.alloc (.cells #[] 40)).heap.size := by simp
  go_wp2_with (at_builtin; refine wpList_append_own _ rfl _ _ 22 rfl w.heap.size 40 i0 (.int .u16 0) 1 2 Tryd.underlying22 hi hz0 hz1 hz2 rfl (by decide) _ _ _ rfl (World.ownsRow_made w #[] 0 (Nat.le_refl _) (by decide) rfl) a n c (nums .u16 n f) rfl HL HC.out H1 HM HB HS ?_; intro v' w1 hown hgrow hnil)
  go_ret
  refine ⟨_, rfl, ?_, ?_, fun e => by cases e⟩
  · rw [Nat.zero_add, List.nil_append] at hown
    exact hown
  · exact ((Below.refl _ _).alloc (Nat.le_refl _) _).grown hgrow (by simp) (fun k e => by cases e; exact Nat.le_refl _)
theorem clone16_any (A : Option Addr) (n c : Nat) (f : Nat → Nat) (w : World) (h : Rd w.heap.size .u16 w A n f) (hn : n ≤ 100000000) : Calls Tryd.prog 68 #[.slice A n c] w (ClonePost 40 .u16 A n f w) := by
  cases A with
  | some a => exact clone16_some a n c f w h hn
  | none =>
    rcases Nat.eq_zero_or_pos n with rfl | h0
    · exact clone16_nil c f w
    · obtain ⟨b, o, e, _⟩ := h h0
      cases e
end Go.Proofs.YtafglggjncnkkaaDoor
