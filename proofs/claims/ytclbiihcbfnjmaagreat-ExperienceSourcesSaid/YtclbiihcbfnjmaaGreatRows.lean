/-
  No cell of these rows narrows 'for every input' (looked for: loops, veiled, ifaces, maps, wideKeys, modest, calm, conditions, laid).
  DERIVED. THE GIVEN ROWS OF THIS SEAT. 11 by the template 'for every input the law returns true; each argument reads behind the call as it read before'; 0 by the template 'total and deterministic' (their statements: YtclbiihcbfnjmaaGreatTotals.lean).
  GIVEN WITH THE SEED: the statements are not yours to turn. If you find one false, say at which input.
  Laid BY PROGRAM, IN A SANDBOX (cutbox-rows.mjs): the forced cells as the released guide's own fill.sh prints them over the translation c56604c1c4c61a68… (all of the seat's roots in one cut). By AI agents, Wed Nov 11 2026. No macro, syntax, notation, axiom, sorry.
-/
import Derived.Test.YtclbiihcbfnjmaaGreatChecked
import GoSem.Claim
import GoSem.ClaimJoined
import GoSem.ClaimMapViews
import Derived.JoinedTies
import Derived.KernelRfl
namespace Go.Proofs.YtclbiihcbfnjmaaGreat
/- THE CELL 'sum', in the pinned program and in every row, IS THE sha256 OF THE DUMP (.gsa) THAT YtclbiihcbfnjmaaGreatProg.lean LOADS. Nothing in Lean hashes anything: it is a label: what it is worth is what the hold of that sum in a sandbox is worth. -/
noncomputable def Tryz.pinned : Pinned := { name := "ytclbiihcbfnjmaagreat", sum := "c56604c1c4c61a68012fa594c9f064711991c23e77a9221186fa993b3924191f", checked := Tryz.checked }
namespace Rows
def none {H : Type} : Left H := { results := [], args := [] }

/-- 'annuitantlaw32.ReserveEqual': WHATEVER THE INPUT: true; the input reads as it did. -/
def reserveEqualSpec : ChangeSpec := { name := "reserveEqual", fn := fun _ => fun
  | [d1, d2] => { results := [.lit (.bool true)], args := [d1, d2] }
  | _ => none }
def reserveEqualRow : OpenClaim := { program := "ytclbiihcbfnjmaagreat", sum := "c56604c1c4c61a68012fa594c9f064711991c23e77a9221186fa993b3924191f", func := "annuitant/annuitantlaw32.ReserveEqual", spec := "reserveEqual", unfollowed := true, recurses := true, named := ["math/bits.overflowError"], apart := false }
def ReserveEqualSaid : Prop := reserveEqualRow.holds Tryz.pinned (OpenSpec.ofChange reserveEqualSpec)

/-- ITS FALSE NEIGHBOUR: 'it returns false'. Refute it at one input. -/
def reserveEqualWrong : ChangeSpec := { name := "reserveEqual", fn := fun _ => fun
  | [d1, d2] => { results := [.lit (.bool false)], args := [d1, d2] }
  | _ => none }
def ReserveEqualWrongFalsely : Prop := reserveEqualRow.holds Tryz.pinned (OpenSpec.ofChange reserveEqualWrong)

/-- 'annuitantlaw32.ReserveYears': WHATEVER THE INPUT: true; the input reads as it did. -/
def reserveYearsSpec : ChangeSpec := { name := "reserveYears", fn := fun _ => fun
  | [d1, d2] => { results := [.lit (.bool true)], args := [d1, d2] }
  | _ => none }
def reserveYearsRow : OpenClaim := { program := "ytclbiihcbfnjmaagreat", sum := "c56604c1c4c61a68012fa594c9f064711991c23e77a9221186fa993b3924191f", func := "annuitant/annuitantlaw32.ReserveYears", spec := "reserveYears", unfollowed := true, recurses := true, named := ["math/bits.overflowError"], apart := false }
def ReserveYearsSaid : Prop := reserveYearsRow.holds Tryz.pinned (OpenSpec.ofChange reserveYearsSpec)

/-- ITS FALSE NEIGHBOUR: 'it returns false'. Refute it at one input. -/
def reserveYearsWrong : ChangeSpec := { name := "reserveYears", fn := fun _ => fun
  | [d1, d2] => { results := [.lit (.bool false)], args := [d1, d2] }
  | _ => none }
def ReserveYearsWrongFalsely : Prop := reserveYearsRow.holds Tryz.pinned (OpenSpec.ofChange reserveYearsWrong)

/-- 'annuitantlaw32.ReserveFair': WHATEVER THE INPUT: true; the input reads as it did. -/
def reserveFairSpec : ChangeSpec := { name := "reserveFair", fn := fun _ => fun
  | [d1, d2] => { results := [.lit (.bool true)], args := [d1, d2] }
  | _ => none }
def reserveFairRow : OpenClaim := { program := "ytclbiihcbfnjmaagreat", sum := "c56604c1c4c61a68012fa594c9f064711991c23e77a9221186fa993b3924191f", func := "annuitant/annuitantlaw32.ReserveFair", spec := "reserveFair", unfollowed := true, recurses := true, named := ["math/bits.overflowError"], apart := false }
def ReserveFairSaid : Prop := reserveFairRow.holds Tryz.pinned (OpenSpec.ofChange reserveFairSpec)

/-- ITS FALSE NEIGHBOUR: 'it returns false'. Refute it at one input. -/
def reserveFairWrong : ChangeSpec := { name := "reserveFair", fn := fun _ => fun
  | [d1, d2] => { results := [.lit (.bool false)], args := [d1, d2] }
  | _ => none }
def ReserveFairWrongFalsely : Prop := reserveFairRow.holds Tryz.pinned (OpenSpec.ofChange reserveFairWrong)

/-- 'annuitantlaw32.ReserveLinear': WHATEVER THE INPUT: true; the input reads as it did. -/
def reserveLinearSpec : ChangeSpec := { name := "reserveLinear", fn := fun _ => fun
  | [d1, d2, d3] => { results := [.lit (.bool true)], args := [d1, d2, d3] }
  | _ => none }
def reserveLinearRow : OpenClaim := { program := "ytclbiihcbfnjmaagreat", sum := "c56604c1c4c61a68012fa594c9f064711991c23e77a9221186fa993b3924191f", func := "annuitant/annuitantlaw32.ReserveLinear", spec := "reserveLinear", unfollowed := true, recurses := true, named := ["math/bits.overflowError"], apart := false }
def ReserveLinearSaid : Prop := reserveLinearRow.holds Tryz.pinned (OpenSpec.ofChange reserveLinearSpec)

/-- ITS FALSE NEIGHBOUR: 'it returns false'. Refute it at one input. -/
def reserveLinearWrong : ChangeSpec := { name := "reserveLinear", fn := fun _ => fun
  | [d1, d2, d3] => { results := [.lit (.bool false)], args := [d1, d2, d3] }
  | _ => none }
def ReserveLinearWrongFalsely : Prop := reserveLinearRow.holds Tryz.pinned (OpenSpec.ofChange reserveLinearWrong)

/-- 'annuitantlaw32.ReserveKinds': WHATEVER THE INPUT: true; the input reads as it did. -/
def reserveKindsSpec : ChangeSpec := { name := "reserveKinds", fn := fun _ => fun
  | [d1, d2, d3, d4] => { results := [.lit (.bool true)], args := [d1, d2, d3, d4] }
  | _ => none }
def reserveKindsRow : OpenClaim := { program := "ytclbiihcbfnjmaagreat", sum := "c56604c1c4c61a68012fa594c9f064711991c23e77a9221186fa993b3924191f", func := "annuitant/annuitantlaw32.ReserveKinds", spec := "reserveKinds", unfollowed := true, recurses := true, named := ["math/bits.overflowError"], apart := false }
def ReserveKindsSaid : Prop := reserveKindsRow.holds Tryz.pinned (OpenSpec.ofChange reserveKindsSpec)

/-- ITS FALSE NEIGHBOUR: 'it returns false'. Refute it at one input. -/
def reserveKindsWrong : ChangeSpec := { name := "reserveKinds", fn := fun _ => fun
  | [d1, d2, d3, d4] => { results := [.lit (.bool false)], args := [d1, d2, d3, d4] }
  | _ => none }
def ReserveKindsWrongFalsely : Prop := reserveKindsRow.holds Tryz.pinned (OpenSpec.ofChange reserveKindsWrong)

/-- 'annuitantlaw33.ExperienceSources': WHATEVER THE INPUT: true; the input reads as it did. -/
def experienceSourcesSpec : ChangeSpec := { name := "experienceSources", fn := fun _ => fun
  | [d1, d2, d3] => { results := [.lit (.bool true)], args := [d1, d2, d3] }
  | _ => none }
def experienceSourcesRow : OpenClaim := { program := "ytclbiihcbfnjmaagreat", sum := "c56604c1c4c61a68012fa594c9f064711991c23e77a9221186fa993b3924191f", func := "annuitant/annuitantlaw33.ExperienceSources", spec := "experienceSources", unfollowed := true, recurses := true, named := ["math/bits.overflowError"], apart := false }
def ExperienceSourcesSaid : Prop := experienceSourcesRow.holds Tryz.pinned (OpenSpec.ofChange experienceSourcesSpec)

/-- ITS FALSE NEIGHBOUR: 'it returns false'. Refute it at one input. -/
def experienceSourcesWrong : ChangeSpec := { name := "experienceSources", fn := fun _ => fun
  | [d1, d2, d3] => { results := [.lit (.bool false)], args := [d1, d2, d3] }
  | _ => none }
def ExperienceSourcesWrongFalsely : Prop := experienceSourcesRow.holds Tryz.pinned (OpenSpec.ofChange experienceSourcesWrong)

/-- 'annuitantlaw33.ExperienceSum': WHATEVER THE INPUT: true; the input reads as it did. -/
def experienceSumSpec : ChangeSpec := { name := "experienceSum", fn := fun _ => fun
  | [d] => { results := [.lit (.bool true)], args := [d] }
  | _ => none }
def experienceSumRow : OpenClaim := { program := "ytclbiihcbfnjmaagreat", sum := "c56604c1c4c61a68012fa594c9f064711991c23e77a9221186fa993b3924191f", func := "annuitant/annuitantlaw33.ExperienceSum", spec := "experienceSum", unfollowed := true, recurses := true, named := ["math/bits.overflowError"], apart := false }
def ExperienceSumSaid : Prop := experienceSumRow.holds Tryz.pinned (OpenSpec.ofChange experienceSumSpec)

/-- ITS FALSE NEIGHBOUR: 'it returns false'. Refute it at one input. -/
def experienceSumWrong : ChangeSpec := { name := "experienceSum", fn := fun _ => fun
  | [d] => { results := [.lit (.bool false)], args := [d] }
  | _ => none }
def ExperienceSumWrongFalsely : Prop := experienceSumRow.holds Tryz.pinned (OpenSpec.ofChange experienceSumWrong)

/-- 'annuitantlaw33.ExperienceExpected': WHATEVER THE INPUT: true; the input reads as it did. -/
def experienceExpectedSpec : ChangeSpec := { name := "experienceExpected", fn := fun _ => fun
  | [d] => { results := [.lit (.bool true)], args := [d] }
  | _ => none }
def experienceExpectedRow : OpenClaim := { program := "ytclbiihcbfnjmaagreat", sum := "c56604c1c4c61a68012fa594c9f064711991c23e77a9221186fa993b3924191f", func := "annuitant/annuitantlaw33.ExperienceExpected", spec := "experienceExpected", unfollowed := true, recurses := true, named := ["math/bits.overflowError"], apart := false }
def ExperienceExpectedSaid : Prop := experienceExpectedRow.holds Tryz.pinned (OpenSpec.ofChange experienceExpectedSpec)

/-- ITS FALSE NEIGHBOUR: 'it returns false'. Refute it at one input. -/
def experienceExpectedWrong : ChangeSpec := { name := "experienceExpected", fn := fun _ => fun
  | [d] => { results := [.lit (.bool false)], args := [d] }
  | _ => none }
def ExperienceExpectedWrongFalsely : Prop := experienceExpectedRow.holds Tryz.pinned (OpenSpec.ofChange experienceExpectedWrong)

/-- 'annuitantlaw33.ExperienceGroups': WHATEVER THE INPUT: true; the input reads as it did. -/
def experienceGroupsSpec : ChangeSpec := { name := "experienceGroups", fn := fun _ => fun
  | [d1, d2] => { results := [.lit (.bool true)], args := [d1, d2] }
  | _ => none }
def experienceGroupsRow : OpenClaim := { program := "ytclbiihcbfnjmaagreat", sum := "c56604c1c4c61a68012fa594c9f064711991c23e77a9221186fa993b3924191f", func := "annuitant/annuitantlaw33.ExperienceGroups", spec := "experienceGroups", unfollowed := true, recurses := true, named := ["math/bits.overflowError"], apart := false }
def ExperienceGroupsSaid : Prop := experienceGroupsRow.holds Tryz.pinned (OpenSpec.ofChange experienceGroupsSpec)

/-- ITS FALSE NEIGHBOUR: 'it returns false'. Refute it at one input. -/
def experienceGroupsWrong : ChangeSpec := { name := "experienceGroups", fn := fun _ => fun
  | [d1, d2] => { results := [.lit (.bool false)], args := [d1, d2] }
  | _ => none }
def ExperienceGroupsWrongFalsely : Prop := experienceGroupsRow.holds Tryz.pinned (OpenSpec.ofChange experienceGroupsWrong)

/-- 'annuitantlaw33.ExperienceEmpty': WHATEVER THE INPUT: true; the input reads as it did. -/
def experienceEmptySpec : ChangeSpec := { name := "experienceEmpty", fn := fun _ => fun
  | [d1, d2, d3] => { results := [.lit (.bool true)], args := [d1, d2, d3] }
  | _ => none }
def experienceEmptyRow : OpenClaim := { program := "ytclbiihcbfnjmaagreat", sum := "c56604c1c4c61a68012fa594c9f064711991c23e77a9221186fa993b3924191f", func := "annuitant/annuitantlaw33.ExperienceEmpty", spec := "experienceEmpty", unfollowed := true, recurses := true, named := ["math/bits.overflowError"], apart := false }
def ExperienceEmptySaid : Prop := experienceEmptyRow.holds Tryz.pinned (OpenSpec.ofChange experienceEmptySpec)

/-- ITS FALSE NEIGHBOUR: 'it returns false'. Refute it at one input. -/
def experienceEmptyWrong : ChangeSpec := { name := "experienceEmpty", fn := fun _ => fun
  | [d1, d2, d3] => { results := [.lit (.bool false)], args := [d1, d2, d3] }
  | _ => none }
def ExperienceEmptyWrongFalsely : Prop := experienceEmptyRow.holds Tryz.pinned (OpenSpec.ofChange experienceEmptyWrong)

/-- 'annuitantlaw33.ExperienceScale': WHATEVER THE INPUT: true; the input reads as it did. -/
def experienceScaleSpec : ChangeSpec := { name := "experienceScale", fn := fun _ => fun
  | [d] => { results := [.lit (.bool true)], args := [d] }
  | _ => none }
def experienceScaleRow : OpenClaim := { program := "ytclbiihcbfnjmaagreat", sum := "c56604c1c4c61a68012fa594c9f064711991c23e77a9221186fa993b3924191f", func := "annuitant/annuitantlaw33.ExperienceScale", spec := "experienceScale", unfollowed := true, recurses := true, named := ["math/bits.overflowError"], apart := false }
def ExperienceScaleSaid : Prop := experienceScaleRow.holds Tryz.pinned (OpenSpec.ofChange experienceScaleSpec)

/-- ITS FALSE NEIGHBOUR: 'it returns false'. Refute it at one input. -/
def experienceScaleWrong : ChangeSpec := { name := "experienceScale", fn := fun _ => fun
  | [d] => { results := [.lit (.bool false)], args := [d] }
  | _ => none }
def ExperienceScaleWrongFalsely : Prop := experienceScaleRow.holds Tryz.pinned (OpenSpec.ofChange experienceScaleWrong)

/- THE SECOND FORM. 'bulk': how many values and letters a reading holds, each counted each time it is reached (what is shared counts as often as it is met; a slice's spare places count too). A statement '..UptoSaid' is the law's where the arguments, and the package variables that the reading takes, are together of bulk at most 1048576: NARROWER than '..Said'. Prove '..Said' where nothing that the law and all that it calls make is longer than what came in: it says more and counts as full. Else prove '..UptoSaid'. A law counts once. -/
mutual
def uptoBulk {H : Type} : DataW H → Nat
  | .lit (.string bytes) => bytes.length + 1
  | .lit _ => 1
  | .nil => 1
  | .ptr d => uptoBulk d + 1
  | .slice elems spare => uptoBulkAll elems + uptoBulkAll spare + 1
  | .agg parts => uptoBulkAll parts + 1
  | .iface _ d => uptoBulk d + 1
  | .map entries => uptoBulkEntries entries + 1
  | .held _ => 1
def uptoBulkAll {H : Type} : List (DataW H) → Nat
  | [] => 0
  | d :: r => uptoBulk d + uptoBulkAll r
def uptoBulkEntries {H : Type} : List (Lit × DataW H) → Nat
  | [] => 0
  | x :: r => uptoBulkEntry x + uptoBulkEntries r
def uptoBulkEntry {H : Type} : Lit × DataW H → Nat
  | (.string bytes, d) => bytes.length + uptoBulk d + 1
  | (_, d) => uptoBulk d + 1
 end
def uptoSmall : (H : Type) → List (DataW H) → Bool := fun _ ds => decide (uptoBulkAll ds ≤ 1048576)
def OpenSpec.upto (s : _root_.Go.ChangeSpec) : _root_.Go.OpenSpec := { _root_.Go.OpenSpec.ofChange s with cond := some uptoSmall }

/-- 'annuitantlaw32.ReserveEqual', WHERE WHAT IT READS IS OF BULK AT MOST 1048576: true; the input reads as it did. -/
def reserveEqualUptoRow : OpenClaim := { program := "ytclbiihcbfnjmaagreat", sum := "c56604c1c4c61a68012fa594c9f064711991c23e77a9221186fa993b3924191f", func := "annuitant/annuitantlaw32.ReserveEqual", spec := "reserveEqual", unfollowed := true, recurses := true, named := ["math/bits.overflowError"], apart := false, narrowed := true }
def ReserveEqualUptoSaid : Prop := reserveEqualUptoRow.holds Tryz.pinned (OpenSpec.upto reserveEqualSpec)

/-- 'annuitantlaw32.ReserveYears', WHERE WHAT IT READS IS OF BULK AT MOST 1048576: true; the input reads as it did. -/
def reserveYearsUptoRow : OpenClaim := { program := "ytclbiihcbfnjmaagreat", sum := "c56604c1c4c61a68012fa594c9f064711991c23e77a9221186fa993b3924191f", func := "annuitant/annuitantlaw32.ReserveYears", spec := "reserveYears", unfollowed := true, recurses := true, named := ["math/bits.overflowError"], apart := false, narrowed := true }
def ReserveYearsUptoSaid : Prop := reserveYearsUptoRow.holds Tryz.pinned (OpenSpec.upto reserveYearsSpec)

/-- 'annuitantlaw32.ReserveFair', WHERE WHAT IT READS IS OF BULK AT MOST 1048576: true; the input reads as it did. -/
def reserveFairUptoRow : OpenClaim := { program := "ytclbiihcbfnjmaagreat", sum := "c56604c1c4c61a68012fa594c9f064711991c23e77a9221186fa993b3924191f", func := "annuitant/annuitantlaw32.ReserveFair", spec := "reserveFair", unfollowed := true, recurses := true, named := ["math/bits.overflowError"], apart := false, narrowed := true }
def ReserveFairUptoSaid : Prop := reserveFairUptoRow.holds Tryz.pinned (OpenSpec.upto reserveFairSpec)

/-- 'annuitantlaw32.ReserveLinear', WHERE WHAT IT READS IS OF BULK AT MOST 1048576: true; the input reads as it did. -/
def reserveLinearUptoRow : OpenClaim := { program := "ytclbiihcbfnjmaagreat", sum := "c56604c1c4c61a68012fa594c9f064711991c23e77a9221186fa993b3924191f", func := "annuitant/annuitantlaw32.ReserveLinear", spec := "reserveLinear", unfollowed := true, recurses := true, named := ["math/bits.overflowError"], apart := false, narrowed := true }
def ReserveLinearUptoSaid : Prop := reserveLinearUptoRow.holds Tryz.pinned (OpenSpec.upto reserveLinearSpec)

/-- 'annuitantlaw32.ReserveKinds', WHERE WHAT IT READS IS OF BULK AT MOST 1048576: true; the input reads as it did. -/
def reserveKindsUptoRow : OpenClaim := { program := "ytclbiihcbfnjmaagreat", sum := "c56604c1c4c61a68012fa594c9f064711991c23e77a9221186fa993b3924191f", func := "annuitant/annuitantlaw32.ReserveKinds", spec := "reserveKinds", unfollowed := true, recurses := true, named := ["math/bits.overflowError"], apart := false, narrowed := true }
def ReserveKindsUptoSaid : Prop := reserveKindsUptoRow.holds Tryz.pinned (OpenSpec.upto reserveKindsSpec)

/-- 'annuitantlaw33.ExperienceSources', WHERE WHAT IT READS IS OF BULK AT MOST 1048576: true; the input reads as it did. -/
def experienceSourcesUptoRow : OpenClaim := { program := "ytclbiihcbfnjmaagreat", sum := "c56604c1c4c61a68012fa594c9f064711991c23e77a9221186fa993b3924191f", func := "annuitant/annuitantlaw33.ExperienceSources", spec := "experienceSources", unfollowed := true, recurses := true, named := ["math/bits.overflowError"], apart := false, narrowed := true }
def ExperienceSourcesUptoSaid : Prop := experienceSourcesUptoRow.holds Tryz.pinned (OpenSpec.upto experienceSourcesSpec)

/-- 'annuitantlaw33.ExperienceSum', WHERE WHAT IT READS IS OF BULK AT MOST 1048576: true; the input reads as it did. -/
def experienceSumUptoRow : OpenClaim := { program := "ytclbiihcbfnjmaagreat", sum := "c56604c1c4c61a68012fa594c9f064711991c23e77a9221186fa993b3924191f", func := "annuitant/annuitantlaw33.ExperienceSum", spec := "experienceSum", unfollowed := true, recurses := true, named := ["math/bits.overflowError"], apart := false, narrowed := true }
def ExperienceSumUptoSaid : Prop := experienceSumUptoRow.holds Tryz.pinned (OpenSpec.upto experienceSumSpec)

/-- 'annuitantlaw33.ExperienceExpected', WHERE WHAT IT READS IS OF BULK AT MOST 1048576: true; the input reads as it did. -/
def experienceExpectedUptoRow : OpenClaim := { program := "ytclbiihcbfnjmaagreat", sum := "c56604c1c4c61a68012fa594c9f064711991c23e77a9221186fa993b3924191f", func := "annuitant/annuitantlaw33.ExperienceExpected", spec := "experienceExpected", unfollowed := true, recurses := true, named := ["math/bits.overflowError"], apart := false, narrowed := true }
def ExperienceExpectedUptoSaid : Prop := experienceExpectedUptoRow.holds Tryz.pinned (OpenSpec.upto experienceExpectedSpec)

/-- 'annuitantlaw33.ExperienceGroups', WHERE WHAT IT READS IS OF BULK AT MOST 1048576: true; the input reads as it did. -/
def experienceGroupsUptoRow : OpenClaim := { program := "ytclbiihcbfnjmaagreat", sum := "c56604c1c4c61a68012fa594c9f064711991c23e77a9221186fa993b3924191f", func := "annuitant/annuitantlaw33.ExperienceGroups", spec := "experienceGroups", unfollowed := true, recurses := true, named := ["math/bits.overflowError"], apart := false, narrowed := true }
def ExperienceGroupsUptoSaid : Prop := experienceGroupsUptoRow.holds Tryz.pinned (OpenSpec.upto experienceGroupsSpec)

/-- 'annuitantlaw33.ExperienceEmpty', WHERE WHAT IT READS IS OF BULK AT MOST 1048576: true; the input reads as it did. -/
def experienceEmptyUptoRow : OpenClaim := { program := "ytclbiihcbfnjmaagreat", sum := "c56604c1c4c61a68012fa594c9f064711991c23e77a9221186fa993b3924191f", func := "annuitant/annuitantlaw33.ExperienceEmpty", spec := "experienceEmpty", unfollowed := true, recurses := true, named := ["math/bits.overflowError"], apart := false, narrowed := true }
def ExperienceEmptyUptoSaid : Prop := experienceEmptyUptoRow.holds Tryz.pinned (OpenSpec.upto experienceEmptySpec)

/-- 'annuitantlaw33.ExperienceScale', WHERE WHAT IT READS IS OF BULK AT MOST 1048576: true; the input reads as it did. -/
def experienceScaleUptoRow : OpenClaim := { program := "ytclbiihcbfnjmaagreat", sum := "c56604c1c4c61a68012fa594c9f064711991c23e77a9221186fa993b3924191f", func := "annuitant/annuitantlaw33.ExperienceScale", spec := "experienceScale", unfollowed := true, recurses := true, named := ["math/bits.overflowError"], apart := false, narrowed := true }
def ExperienceScaleUptoSaid : Prop := experienceScaleUptoRow.holds Tryz.pinned (OpenSpec.upto experienceScaleSpec)

end Rows
end Go.Proofs.YtclbiihcbfnjmaaGreat
