/-
  No cell of these rows narrows 'for every input' (looked for: loops, veiled, ifaces, maps, wideKeys, modest, calm, conditions, laid).
  DERIVED. THE GIVEN ROWS OF THIS SEAT. 8 by the template 'for every input the law returns true; each argument reads behind the call as it read before'; 0 by the template 'total and deterministic' (their statements: YtjgihmmeimfheaaGreatTotals.lean).
  GIVEN WITH THE SEED: the statements are not yours to turn. If you find one false, say at which input.
  Laid BY PROGRAM, IN A SANDBOX (cutbox-rows.mjs): the forced cells as the released guide's own fill.sh prints them over the translation d75aad3950cca986… (all of the seat's roots in one cut). By AI agents, Wed Nov 11 2026. No macro, syntax, notation, axiom, sorry.
-/
import Derived.Test.YtjgihmmeimfheaaGreatChecked
import GoSem.Claim
import GoSem.ClaimJoined
import GoSem.ClaimMapViews
import Derived.JoinedTies
import Derived.KernelRfl
namespace Go.Proofs.YtjgihmmeimfheaaGreat
/- THE CELL 'sum', in the pinned program and in every row, IS THE sha256 OF THE DUMP (.gsa) THAT YtjgihmmeimfheaaGreatProg.lean LOADS. Nothing in Lean hashes anything: it is a label: what it is worth is what the hold of that sum in a sandbox is worth. -/
noncomputable def Tryz.pinned : Pinned := { name := "ytjgihmmeimfheaagreat", sum := "d75aad3950cca9866f26ded4fdb7d24dbce7a5bb66732f10db92d753e48153a2", checked := Tryz.checked }
namespace Rows
def none {H : Type} : Left H := { results := [], args := [] }

/-- 'annuitantlaw23.SurvivorMore': WHATEVER THE INPUT: true; the input reads as it did. -/
def survivorMoreSpec : ChangeSpec := { name := "survivorMore", fn := fun _ => fun
  | [d1, d2, d3] => { results := [.lit (.bool true)], args := [d1, d2, d3] }
  | _ => none }
def survivorMoreRow : OpenClaim := { program := "ytjgihmmeimfheaagreat", sum := "d75aad3950cca9866f26ded4fdb7d24dbce7a5bb66732f10db92d753e48153a2", func := "annuitant/annuitantlaw23.SurvivorMore", spec := "survivorMore", unfollowed := true, recurses := true, named := ["math/bits.overflowError"], apart := false }
def SurvivorMoreSaid : Prop := survivorMoreRow.holds Tryz.pinned (OpenSpec.ofChange survivorMoreSpec)

/-- ITS FALSE NEIGHBOUR: 'it returns false'. Refute it at one input. -/
def survivorMoreWrong : ChangeSpec := { name := "survivorMore", fn := fun _ => fun
  | [d1, d2, d3] => { results := [.lit (.bool false)], args := [d1, d2, d3] }
  | _ => none }
def SurvivorMoreWrongFalsely : Prop := survivorMoreRow.holds Tryz.pinned (OpenSpec.ofChange survivorMoreWrong)

/-- 'annuitantlaw23.SurvivorSum': WHATEVER THE INPUT: true; the input reads as it did. -/
def survivorSumSpec : ChangeSpec := { name := "survivorSum", fn := fun _ => fun
  | [d1, d2] => { results := [.lit (.bool true)], args := [d1, d2] }
  | _ => none }
def survivorSumRow : OpenClaim := { program := "ytjgihmmeimfheaagreat", sum := "d75aad3950cca9866f26ded4fdb7d24dbce7a5bb66732f10db92d753e48153a2", func := "annuitant/annuitantlaw23.SurvivorSum", spec := "survivorSum", unfollowed := true, recurses := true, named := ["math/bits.overflowError"], apart := false }
def SurvivorSumSaid : Prop := survivorSumRow.holds Tryz.pinned (OpenSpec.ofChange survivorSumSpec)

/-- ITS FALSE NEIGHBOUR: 'it returns false'. Refute it at one input. -/
def survivorSumWrong : ChangeSpec := { name := "survivorSum", fn := fun _ => fun
  | [d1, d2] => { results := [.lit (.bool false)], args := [d1, d2] }
  | _ => none }
def SurvivorSumWrongFalsely : Prop := survivorSumRow.holds Tryz.pinned (OpenSpec.ofChange survivorSumWrong)

/-- 'annuitantlaw23.SurvivorFair': WHATEVER THE INPUT: true; the input reads as it did. -/
def survivorFairSpec : ChangeSpec := { name := "survivorFair", fn := fun _ => fun
  | [d1, d2] => { results := [.lit (.bool true)], args := [d1, d2] }
  | _ => none }
def survivorFairRow : OpenClaim := { program := "ytjgihmmeimfheaagreat", sum := "d75aad3950cca9866f26ded4fdb7d24dbce7a5bb66732f10db92d753e48153a2", func := "annuitant/annuitantlaw23.SurvivorFair", spec := "survivorFair", unfollowed := true, recurses := true, named := ["math/bits.overflowError"], apart := false }
def SurvivorFairSaid : Prop := survivorFairRow.holds Tryz.pinned (OpenSpec.ofChange survivorFairSpec)

/-- ITS FALSE NEIGHBOUR: 'it returns false'. Refute it at one input. -/
def survivorFairWrong : ChangeSpec := { name := "survivorFair", fn := fun _ => fun
  | [d1, d2] => { results := [.lit (.bool false)], args := [d1, d2] }
  | _ => none }
def SurvivorFairWrongFalsely : Prop := survivorFairRow.holds Tryz.pinned (OpenSpec.ofChange survivorFairWrong)

/-- 'annuitantlaw23.SurvivorTells': WHATEVER THE INPUT: true; the input reads as it did. -/
def survivorTellsSpec : ChangeSpec := { name := "survivorTells", fn := fun _ => fun
  | [d1, d2, d3] => { results := [.lit (.bool true)], args := [d1, d2, d3] }
  | _ => none }
def survivorTellsRow : OpenClaim := { program := "ytjgihmmeimfheaagreat", sum := "d75aad3950cca9866f26ded4fdb7d24dbce7a5bb66732f10db92d753e48153a2", func := "annuitant/annuitantlaw23.SurvivorTells", spec := "survivorTells", unfollowed := true, recurses := true, named := ["math/bits.overflowError"], apart := false }
def SurvivorTellsSaid : Prop := survivorTellsRow.holds Tryz.pinned (OpenSpec.ofChange survivorTellsSpec)

/-- ITS FALSE NEIGHBOUR: 'it returns false'. Refute it at one input. -/
def survivorTellsWrong : ChangeSpec := { name := "survivorTells", fn := fun _ => fun
  | [d1, d2, d3] => { results := [.lit (.bool false)], args := [d1, d2, d3] }
  | _ => none }
def SurvivorTellsWrongFalsely : Prop := survivorTellsRow.holds Tryz.pinned (OpenSpec.ofChange survivorTellsWrong)

/-- 'annuitantlaw23.SurvivorSmall': WHATEVER THE INPUT: true; the input reads as it did. -/
def survivorSmallSpec : ChangeSpec := { name := "survivorSmall", fn := fun _ => fun
  | [] => { results := [.lit (.bool true)], args := [] }
  | _ => none }
def survivorSmallRow : OpenClaim := { program := "ytjgihmmeimfheaagreat", sum := "d75aad3950cca9866f26ded4fdb7d24dbce7a5bb66732f10db92d753e48153a2", func := "annuitant/annuitantlaw23.SurvivorSmall", spec := "survivorSmall", unfollowed := true, recurses := true, named := ["math/bits.overflowError"], apart := false }
def SurvivorSmallSaid : Prop := survivorSmallRow.holds Tryz.pinned (OpenSpec.ofChange survivorSmallSpec)

/-- ITS FALSE NEIGHBOUR: 'it returns false'. Refute it at one input. -/
def survivorSmallWrong : ChangeSpec := { name := "survivorSmall", fn := fun _ => fun
  | [] => { results := [.lit (.bool false)], args := [] }
  | _ => none }
def SurvivorSmallWrongFalsely : Prop := survivorSmallRow.holds Tryz.pinned (OpenSpec.ofChange survivorSmallWrong)

/-- 'annuitantlaw23.SurvivorLevel': WHATEVER THE INPUT: true; the input reads as it did. -/
def survivorLevelSpec : ChangeSpec := { name := "survivorLevel", fn := fun _ => fun
  | [d1, d2, d3, d4] => { results := [.lit (.bool true)], args := [d1, d2, d3, d4] }
  | _ => none }
def survivorLevelRow : OpenClaim := { program := "ytjgihmmeimfheaagreat", sum := "d75aad3950cca9866f26ded4fdb7d24dbce7a5bb66732f10db92d753e48153a2", func := "annuitant/annuitantlaw23.SurvivorLevel", spec := "survivorLevel", unfollowed := true, recurses := true, named := ["math/bits.overflowError"], apart := false }
def SurvivorLevelSaid : Prop := survivorLevelRow.holds Tryz.pinned (OpenSpec.ofChange survivorLevelSpec)

/-- ITS FALSE NEIGHBOUR: 'it returns false'. Refute it at one input. -/
def survivorLevelWrong : ChangeSpec := { name := "survivorLevel", fn := fun _ => fun
  | [d1, d2, d3, d4] => { results := [.lit (.bool false)], args := [d1, d2, d3, d4] }
  | _ => none }
def SurvivorLevelWrongFalsely : Prop := survivorLevelRow.holds Tryz.pinned (OpenSpec.ofChange survivorLevelWrong)

/-- 'annuitantlaw23.SurvivorScale': WHATEVER THE INPUT: true; the input reads as it did. -/
def survivorScaleSpec : ChangeSpec := { name := "survivorScale", fn := fun _ => fun
  | [d1, d2, d3, d4] => { results := [.lit (.bool true)], args := [d1, d2, d3, d4] }
  | _ => none }
def survivorScaleRow : OpenClaim := { program := "ytjgihmmeimfheaagreat", sum := "d75aad3950cca9866f26ded4fdb7d24dbce7a5bb66732f10db92d753e48153a2", func := "annuitant/annuitantlaw23.SurvivorScale", spec := "survivorScale", unfollowed := true, recurses := true, named := ["math/bits.overflowError"], apart := false }
def SurvivorScaleSaid : Prop := survivorScaleRow.holds Tryz.pinned (OpenSpec.ofChange survivorScaleSpec)

/-- ITS FALSE NEIGHBOUR: 'it returns false'. Refute it at one input. -/
def survivorScaleWrong : ChangeSpec := { name := "survivorScale", fn := fun _ => fun
  | [d1, d2, d3, d4] => { results := [.lit (.bool false)], args := [d1, d2, d3, d4] }
  | _ => none }
def SurvivorScaleWrongFalsely : Prop := survivorScaleRow.holds Tryz.pinned (OpenSpec.ofChange survivorScaleWrong)

/-- 'annuitantlaw23.SurvivorLeaves': WHATEVER THE INPUT: true; the input reads as it did. -/
def survivorLeavesSpec : ChangeSpec := { name := "survivorLeaves", fn := fun _ => fun
  | [d1, d2, d3] => { results := [.lit (.bool true)], args := [d1, d2, d3] }
  | _ => none }
def survivorLeavesRow : OpenClaim := { program := "ytjgihmmeimfheaagreat", sum := "d75aad3950cca9866f26ded4fdb7d24dbce7a5bb66732f10db92d753e48153a2", func := "annuitant/annuitantlaw23.SurvivorLeaves", spec := "survivorLeaves", unfollowed := true, recurses := true, named := ["math/bits.overflowError"], apart := false }
def SurvivorLeavesSaid : Prop := survivorLeavesRow.holds Tryz.pinned (OpenSpec.ofChange survivorLeavesSpec)

/-- ITS FALSE NEIGHBOUR: 'it returns false'. Refute it at one input. -/
def survivorLeavesWrong : ChangeSpec := { name := "survivorLeaves", fn := fun _ => fun
  | [d1, d2, d3] => { results := [.lit (.bool false)], args := [d1, d2, d3] }
  | _ => none }
def SurvivorLeavesWrongFalsely : Prop := survivorLeavesRow.holds Tryz.pinned (OpenSpec.ofChange survivorLeavesWrong)

/- THE SECOND FORM. 'bulk': how many values and letters a reading holds, each counted each time it is reached (what is shared counts as often as it is met; a slice's spare places count too). A statement '..UptoSaid' is the law's where the arguments, and the package variables that the reading takes, are together of bulk at most 1048576: NARROWER than '..Said'. Prove '..Said' where nothing that the law and all that it calls make is longer than what came in: it says more and counts as full. Else prove '..UptoSaid'. A law counts once. -/
mutual
def uptoBulk {H : Type} : DataW H → Nat
  | .lit (.string bytes) => bytes.length + 1
  | .lit _ => 1
  | .nil => 1
  | .ptr d => uptoBulk d + 1
  | .slice elems spare => uptoBulkAll elems + uptoBulkAll spare + 1
  | .agg parts => uptoBulkAll parts + 1
  | .iface _ d => uptoBulk d + 1
  | .map entries => uptoBulkEntries entries + 1
  | .held _ => 1
def uptoBulkAll {H : Type} : List (DataW H) → Nat
  | [] => 0
  | d :: r => uptoBulk d + uptoBulkAll r
def uptoBulkEntries {H : Type} : List (Lit × DataW H) → Nat
  | [] => 0
  | x :: r => uptoBulkEntry x + uptoBulkEntries r
def uptoBulkEntry {H : Type} : Lit × DataW H → Nat
  | (.string bytes, d) => bytes.length + uptoBulk d + 1
  | (_, d) => uptoBulk d + 1
 end
def uptoSmall : (H : Type) → List (DataW H) → Bool := fun _ ds => decide (uptoBulkAll ds ≤ 1048576)
def OpenSpec.upto (s : _root_.Go.ChangeSpec) : _root_.Go.OpenSpec := { _root_.Go.OpenSpec.ofChange s with cond := some uptoSmall }

/-- 'annuitantlaw23.SurvivorMore', WHERE WHAT IT READS IS OF BULK AT MOST 1048576: true; the input reads as it did. -/
def survivorMoreUptoRow : OpenClaim := { program := "ytjgihmmeimfheaagreat", sum := "d75aad3950cca9866f26ded4fdb7d24dbce7a5bb66732f10db92d753e48153a2", func := "annuitant/annuitantlaw23.SurvivorMore", spec := "survivorMore", unfollowed := true, recurses := true, named := ["math/bits.overflowError"], apart := false, narrowed := true }
def SurvivorMoreUptoSaid : Prop := survivorMoreUptoRow.holds Tryz.pinned (OpenSpec.upto survivorMoreSpec)

/-- 'annuitantlaw23.SurvivorSum', WHERE WHAT IT READS IS OF BULK AT MOST 1048576: true; the input reads as it did. -/
def survivorSumUptoRow : OpenClaim := { program := "ytjgihmmeimfheaagreat", sum := "d75aad3950cca9866f26ded4fdb7d24dbce7a5bb66732f10db92d753e48153a2", func := "annuitant/annuitantlaw23.SurvivorSum", spec := "survivorSum", unfollowed := true, recurses := true, named := ["math/bits.overflowError"], apart := false, narrowed := true }
def SurvivorSumUptoSaid : Prop := survivorSumUptoRow.holds Tryz.pinned (OpenSpec.upto survivorSumSpec)

/-- 'annuitantlaw23.SurvivorFair', WHERE WHAT IT READS IS OF BULK AT MOST 1048576: true; the input reads as it did. -/
def survivorFairUptoRow : OpenClaim := { program := "ytjgihmmeimfheaagreat", sum := "d75aad3950cca9866f26ded4fdb7d24dbce7a5bb66732f10db92d753e48153a2", func := "annuitant/annuitantlaw23.SurvivorFair", spec := "survivorFair", unfollowed := true, recurses := true, named := ["math/bits.overflowError"], apart := false, narrowed := true }
def SurvivorFairUptoSaid : Prop := survivorFairUptoRow.holds Tryz.pinned (OpenSpec.upto survivorFairSpec)

/-- 'annuitantlaw23.SurvivorTells', WHERE WHAT IT READS IS OF BULK AT MOST 1048576: true; the input reads as it did. -/
def survivorTellsUptoRow : OpenClaim := { program := "ytjgihmmeimfheaagreat", sum := "d75aad3950cca9866f26ded4fdb7d24dbce7a5bb66732f10db92d753e48153a2", func := "annuitant/annuitantlaw23.SurvivorTells", spec := "survivorTells", unfollowed := true, recurses := true, named := ["math/bits.overflowError"], apart := false, narrowed := true }
def SurvivorTellsUptoSaid : Prop := survivorTellsUptoRow.holds Tryz.pinned (OpenSpec.upto survivorTellsSpec)

/-- 'annuitantlaw23.SurvivorSmall', WHERE WHAT IT READS IS OF BULK AT MOST 1048576: true; the input reads as it did. -/
def survivorSmallUptoRow : OpenClaim := { program := "ytjgihmmeimfheaagreat", sum := "d75aad3950cca9866f26ded4fdb7d24dbce7a5bb66732f10db92d753e48153a2", func := "annuitant/annuitantlaw23.SurvivorSmall", spec := "survivorSmall", unfollowed := true, recurses := true, named := ["math/bits.overflowError"], apart := false, narrowed := true }
def SurvivorSmallUptoSaid : Prop := survivorSmallUptoRow.holds Tryz.pinned (OpenSpec.upto survivorSmallSpec)

/-- 'annuitantlaw23.SurvivorLevel', WHERE WHAT IT READS IS OF BULK AT MOST 1048576: true; the input reads as it did. -/
def survivorLevelUptoRow : OpenClaim := { program := "ytjgihmmeimfheaagreat", sum := "d75aad3950cca9866f26ded4fdb7d24dbce7a5bb66732f10db92d753e48153a2", func := "annuitant/annuitantlaw23.SurvivorLevel", spec := "survivorLevel", unfollowed := true, recurses := true, named := ["math/bits.overflowError"], apart := false, narrowed := true }
def SurvivorLevelUptoSaid : Prop := survivorLevelUptoRow.holds Tryz.pinned (OpenSpec.upto survivorLevelSpec)

/-- 'annuitantlaw23.SurvivorScale', WHERE WHAT IT READS IS OF BULK AT MOST 1048576: true; the input reads as it did. -/
def survivorScaleUptoRow : OpenClaim := { program := "ytjgihmmeimfheaagreat", sum := "d75aad3950cca9866f26ded4fdb7d24dbce7a5bb66732f10db92d753e48153a2", func := "annuitant/annuitantlaw23.SurvivorScale", spec := "survivorScale", unfollowed := true, recurses := true, named := ["math/bits.overflowError"], apart := false, narrowed := true }
def SurvivorScaleUptoSaid : Prop := survivorScaleUptoRow.holds Tryz.pinned (OpenSpec.upto survivorScaleSpec)

/-- 'annuitantlaw23.SurvivorLeaves', WHERE WHAT IT READS IS OF BULK AT MOST 1048576: true; the input reads as it did. -/
def survivorLeavesUptoRow : OpenClaim := { program := "ytjgihmmeimfheaagreat", sum := "d75aad3950cca9866f26ded4fdb7d24dbce7a5bb66732f10db92d753e48153a2", func := "annuitant/annuitantlaw23.SurvivorLeaves", spec := "survivorLeaves", unfollowed := true, recurses := true, named := ["math/bits.overflowError"], apart := false, narrowed := true }
def SurvivorLeavesUptoSaid : Prop := survivorLeavesUptoRow.holds Tryz.pinned (OpenSpec.upto survivorLeavesSpec)

end Rows
end Go.Proofs.YtjgihmmeimfheaaGreat
