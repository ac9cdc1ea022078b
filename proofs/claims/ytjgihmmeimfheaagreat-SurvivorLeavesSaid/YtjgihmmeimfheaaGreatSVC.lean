/-
  A list of claims that is built by appending.
-/
import Derived.Test.YtjgihmmeimfheaaGreatSVB
namespace Go.Proofs.YtjgihmmeimfheaaGreat
open Go.RowKit

def clL (I K : Int) (x : FH) : List Value := [.int .i64 I, .bool x.s, .slice x.A x.n x.c, .bool x.t, .slice x.B x.m x.d, .int .i64 K]
theorem clL_ok (I K : Int) (x : FH) : ∀ v ∈ clL I K x, noLimb v = true ∧ v.oneCell' = true := fun v hv => by
 unfold clL at hv
 simp only [List.mem_cons, List.not_mem_nil, or_false] at hv
 rcases hv with rfl | rfl | rfl | rfl | rfl | rfl <;> exact ⟨rfl, rfl⟩
theorem info_cl1 : (Tryz.prog.info? 46).map (fun i => (i.zero, i.size, i.bytes)) = some (some (.agg #[.int .i64 0, .bool false, .slice none 0 0, .bool false, .slice none 0 0, .int .i64 0]), 6, 80) := by kernel_rfl
def clElem : Elem 22 46 6 := ⟨Tryz.underlying22, .agg #[.int .i64 0, .bool false, .slice none 0 0, .bool false, .slice none 0 0, .int .i64 0], 80, info_cl1, rfl, by decide, fun v hv => by
 simp only [Value.cells, List.mem_toArray, List.mem_cons, List.not_mem_nil, or_false] at hv
 rcases hv with rfl | rfl | rfl | rfl | rfl | rfl <;> rfl, by decide⟩
section
variable {T : TypeId} {m b0 n : Nat} {v : Value} {e : Nat → List Value} {w w' : World}
theorem RwV.lt (hv : RwV T m b0 v n e w) : ∀ q, v.ownBlock = some q → q < w.heap.size := fun q hq => by
 rcases hv with ⟨rfl, -⟩ | ⟨g, cap, rfl, -, hB⟩
 · cases hq
 · cases hq; exact hB.lt
theorem RwV.farN {k : Nat} (hv : RwV T m b0 v n e w) (hq : ∀ q, v.ownBlock = some q → q ≠ k) (hg : w.grownBy w' (some k)) : RwV T m b0 v n e w' := by
 rcases hv with hv | ⟨g, cap, rfl, hb, hR⟩
 · exact .inl hv
 · exact .inr ⟨g, cap, rfl, hb, hR.grownB hg (hq g rfl)⟩
theorem FqS.grownR {h : Nat → FH} {k : Nat} {q : Nat → Rat} (hq : FqS h k q w) (hv : RwV T m b0 v n e w) (hg : w.grownBy w' v.ownBlock) : FqS h k q w' := fun j hj => FV.grownR (hq j hj) hv hg
theorem RwV.congr {e' : Nat → List Value} (hv : RwV T m b0 v n e w) (he : ∀ k, k < n → e k = e' k) : RwV T m b0 v n e' w := by
 rcases hv with hv | ⟨g, cap, rfl, hb, hR⟩
 · exact .inl hv
 · exact .inr ⟨g, cap, rfl, hb, hR.congr he⟩
end
def clR (I K : Nat → Int) (h : Nat → FH) (k : Nat) : List Value := clL (I k) (K k) (h k)
theorem clR_push (I K : Nat → Int) (h : Nat → FH) (n : Nat) (x : FH) (j : Nat) : updE (clR I K h) n (clL (I n) (K n) x) j = clR I K (updF h n x) j := by
 unfold updE clR updF
 by_cases e : j = n
 · subst e; simp
 · simp [e]
/-- The claims of a built list. -/
def clB (I K : Nat → Int) (h : Nat → FH) (q : Nat → Rat) (k : Nat) : Cl := ⟨I k, FHof (q k) (h k).s (h k).A (h k).n (h k).c (h k).t (h k).B (h k).m (h k).d, K k⟩
theorem clm_built {b0 n : Nat} {v : Value} {I K : Nat → Int} {h : Nat → FH} {q : Nat → Rat} {W : World} (hR : RwV 46 6 b0 v n (clR I K h) W) (hq : FqS h n q W) : ∃ A c, v = .slice A n c ∧ ClM A n (clB I K h q) W := by
 rcases hR with ⟨rfl, rfl⟩ | ⟨g, cap, rfl, -, hB⟩
 · exact ⟨none, 0, rfl, fun h0 => absurd h0 (Nat.lt_irrefl 0)⟩
 ·
  refine ⟨some ⟨g, 0, none⟩, cap, rfl, fun _ => ⟨g, 0, rfl, hB.lt, fun k hk => ⟨⟨?_, ?_, ?_, ?_, ?_, ?_⟩, FHof.rd_of (hq k hk)⟩⟩⟩
  · exact hB.cell hk (i := 0) (by decide) (by omega) rfl
  · exact hB.cell hk (i := 1) (by decide) (by omega) rfl
  · exact hB.cell hk (i := 2) (by decide) (by omega) rfl
  · exact hB.cell hk (i := 3) (by decide) (by omega) rfl
  · exact hB.cell hk (i := 4) (by decide) (by omega) rfl
  · exact hB.cell hk (i := 5) (by decide) (by omega) rfl
theorem wq_built {n : Nat} {I K : Nat → Int} {h : Nat → FH} {q : Nat → Rat} {W : World} (hq : FqS h n q W) {k : Nat} (hk : k < n) : wq (clB I K h q) k = q k := FHof.q_eq (hq k hk)
/-- A claim is appended. -/
theorem push_claim (ty : TypeId) {b0 n k : Nat} {v : Value} {I K : Nat → Int} {h : Nat → FH} {W : World} (hv : RwV 46 6 b0 v n (clR I K h) W) (hb0 : b0 ≤ W.heap.size) (x : FH) (hB : Blk 46 k (clL (I n) (K n) x).toArray W) (hn : n ≤ 1000) :
  ∃ v' W', (Builtin.append_ #[22, 22] ty #[v, .slice (some ⟨k, 0, none⟩) 1 1]).run Tryz.prog W = .ok v' W' ∧ RwV 46 6 b0 v' (n + 1) (clR I K (updF h n x)) W' ∧ W.grownBy W' v.ownBlock := by
 obtain ⟨g, cap, w8, hr, hg0, hR, hgr⟩ := append_rw clElem ty hv hb0 ⟨k, 0, none⟩ 1 (clL (I n) (K n) x) rfl (fun u hu => (clL_ok _ _ _ u hu).1) (fun u hu => (clL_ok _ _ _ u hu).2) (fun j u hu => by rw [Addr.add_mid, Nat.zero_add, hB.cell, List.getElem?_toArray]; exact hu) hn
 exact ⟨_, w8, hr, .inr ⟨g, cap, rfl, hg0, hR.congr (fun j _ => clR_push I K h n x j)⟩, hgr⟩
end Go.Proofs.YtjgihmmeimfheaaGreat
