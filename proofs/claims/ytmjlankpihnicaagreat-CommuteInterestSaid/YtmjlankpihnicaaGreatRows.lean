/-
  No cell of these rows narrows 'for every input' (looked for: loops, veiled, ifaces, maps, wideKeys, modest, calm, conditions, laid).
  DERIVED. THE GIVEN ROWS OF THIS SEAT. 7 by the template 'for every input the law returns true; each argument reads behind the call as it read before'; 0 by the template 'total and deterministic' (their statements: YtmjlankpihnicaaGreatTotals.lean).
  GIVEN WITH THE SEED: the statements are not yours to turn. If you find one false, say at which input.
  Laid BY PROGRAM, IN A SANDBOX (cutbox-rows.mjs): the forced cells as the released guide's own fill.sh prints them over the translation c6a0d815f6a0bc4f… (all of the seat's roots in one cut). By AI agents, Wed Nov 11 2026. No macro, syntax, notation, axiom, sorry.
-/
import Derived.Test.YtmjlankpihnicaaGreatChecked
import GoSem.Claim
import GoSem.ClaimJoined
import GoSem.ClaimMapViews
import Derived.JoinedTies
import Derived.KernelRfl
namespace Go.Proofs.YtmjlankpihnicaaGreat
/- THE CELL 'sum', in the pinned program and in every row, IS THE sha256 OF THE DUMP (.gsa) THAT YtmjlankpihnicaaGreatProg.lean LOADS. Nothing in Lean hashes anything: it is a label: what it is worth is what the hold of that sum in a sandbox is worth. -/
noncomputable def Tryz.pinned : Pinned := { name := "ytmjlankpihnicaagreat", sum := "c6a0d815f6a0bc4fd006ff9801b96663d214c47658e3165f3c080a635a0a6e10", checked := Tryz.checked }
namespace Rows
def none {H : Type} : Left H := { results := [], args := [] }

/-- 'annuitantlaw31.CommuteTells': WHATEVER THE INPUT: true; the input reads as it did. -/
def commuteTellsSpec : ChangeSpec := { name := "commuteTells", fn := fun _ => fun
  | [d1, d2, d3, d4] => { results := [.lit (.bool true)], args := [d1, d2, d3, d4] }
  | _ => none }
def commuteTellsRow : OpenClaim := { program := "ytmjlankpihnicaagreat", sum := "c6a0d815f6a0bc4fd006ff9801b96663d214c47658e3165f3c080a635a0a6e10", func := "annuitant/annuitantlaw31.CommuteTells", spec := "commuteTells", unfollowed := true, recurses := true, named := ["math/bits.overflowError"], apart := false }
def CommuteTellsSaid : Prop := commuteTellsRow.holds Tryz.pinned (OpenSpec.ofChange commuteTellsSpec)

/-- ITS FALSE NEIGHBOUR: 'it returns false'. Refute it at one input. -/
def commuteTellsWrong : ChangeSpec := { name := "commuteTells", fn := fun _ => fun
  | [d1, d2, d3, d4] => { results := [.lit (.bool false)], args := [d1, d2, d3, d4] }
  | _ => none }
def CommuteTellsWrongFalsely : Prop := commuteTellsRow.holds Tryz.pinned (OpenSpec.ofChange commuteTellsWrong)

/-- 'annuitantlaw31.CommuteSmall': WHATEVER THE INPUT: true; the input reads as it did. -/
def commuteSmallSpec : ChangeSpec := { name := "commuteSmall", fn := fun _ => fun
  | [] => { results := [.lit (.bool true)], args := [] }
  | _ => none }
def commuteSmallRow : OpenClaim := { program := "ytmjlankpihnicaagreat", sum := "c6a0d815f6a0bc4fd006ff9801b96663d214c47658e3165f3c080a635a0a6e10", func := "annuitant/annuitantlaw31.CommuteSmall", spec := "commuteSmall", unfollowed := true, recurses := true, named := ["math/bits.overflowError"], apart := false }
def CommuteSmallSaid : Prop := commuteSmallRow.holds Tryz.pinned (OpenSpec.ofChange commuteSmallSpec)

/-- ITS FALSE NEIGHBOUR: 'it returns false'. Refute it at one input. -/
def commuteSmallWrong : ChangeSpec := { name := "commuteSmall", fn := fun _ => fun
  | [] => { results := [.lit (.bool false)], args := [] }
  | _ => none }
def CommuteSmallWrongFalsely : Prop := commuteSmallRow.holds Tryz.pinned (OpenSpec.ofChange commuteSmallWrong)

/-- 'annuitantlaw31.CommuteLinks': WHATEVER THE INPUT: true; the input reads as it did. -/
def commuteLinksSpec : ChangeSpec := { name := "commuteLinks", fn := fun _ => fun
  | [d1, d2] => { results := [.lit (.bool true)], args := [d1, d2] }
  | _ => none }
def commuteLinksRow : OpenClaim := { program := "ytmjlankpihnicaagreat", sum := "c6a0d815f6a0bc4fd006ff9801b96663d214c47658e3165f3c080a635a0a6e10", func := "annuitant/annuitantlaw31.CommuteLinks", spec := "commuteLinks", unfollowed := true, recurses := true, named := ["math/bits.overflowError"], apart := false }
def CommuteLinksSaid : Prop := commuteLinksRow.holds Tryz.pinned (OpenSpec.ofChange commuteLinksSpec)

/-- ITS FALSE NEIGHBOUR: 'it returns false'. Refute it at one input. -/
def commuteLinksWrong : ChangeSpec := { name := "commuteLinks", fn := fun _ => fun
  | [d1, d2] => { results := [.lit (.bool false)], args := [d1, d2] }
  | _ => none }
def CommuteLinksWrongFalsely : Prop := commuteLinksRow.holds Tryz.pinned (OpenSpec.ofChange commuteLinksWrong)

/-- 'annuitantlaw31.CommuteShift': WHATEVER THE INPUT: true; the input reads as it did. -/
def commuteShiftSpec : ChangeSpec := { name := "commuteShift", fn := fun _ => fun
  | [d1, d2, d3] => { results := [.lit (.bool true)], args := [d1, d2, d3] }
  | _ => none }
def commuteShiftRow : OpenClaim := { program := "ytmjlankpihnicaagreat", sum := "c6a0d815f6a0bc4fd006ff9801b96663d214c47658e3165f3c080a635a0a6e10", func := "annuitant/annuitantlaw31.CommuteShift", spec := "commuteShift", unfollowed := true, recurses := true, named := ["math/bits.overflowError"], apart := false }
def CommuteShiftSaid : Prop := commuteShiftRow.holds Tryz.pinned (OpenSpec.ofChange commuteShiftSpec)

/-- ITS FALSE NEIGHBOUR: 'it returns false'. Refute it at one input. -/
def commuteShiftWrong : ChangeSpec := { name := "commuteShift", fn := fun _ => fun
  | [d1, d2, d3] => { results := [.lit (.bool false)], args := [d1, d2, d3] }
  | _ => none }
def CommuteShiftWrongFalsely : Prop := commuteShiftRow.holds Tryz.pinned (OpenSpec.ofChange commuteShiftWrong)

/-- 'annuitantlaw31.CommuteParts': WHATEVER THE INPUT: true; the input reads as it did. -/
def commutePartsSpec : ChangeSpec := { name := "commuteParts", fn := fun _ => fun
  | [d1, d2, d3, d4, d5] => { results := [.lit (.bool true)], args := [d1, d2, d3, d4, d5] }
  | _ => none }
def commutePartsRow : OpenClaim := { program := "ytmjlankpihnicaagreat", sum := "c6a0d815f6a0bc4fd006ff9801b96663d214c47658e3165f3c080a635a0a6e10", func := "annuitant/annuitantlaw31.CommuteParts", spec := "commuteParts", unfollowed := true, recurses := true, named := ["math/bits.overflowError"], apart := false }
def CommutePartsSaid : Prop := commutePartsRow.holds Tryz.pinned (OpenSpec.ofChange commutePartsSpec)

/-- ITS FALSE NEIGHBOUR: 'it returns false'. Refute it at one input. -/
def commutePartsWrong : ChangeSpec := { name := "commuteParts", fn := fun _ => fun
  | [d1, d2, d3, d4, d5] => { results := [.lit (.bool false)], args := [d1, d2, d3, d4, d5] }
  | _ => none }
def CommutePartsWrongFalsely : Prop := commutePartsRow.holds Tryz.pinned (OpenSpec.ofChange commutePartsWrong)

/-- 'annuitantlaw31.CommuteRising': WHATEVER THE INPUT: true; the input reads as it did. -/
def commuteRisingSpec : ChangeSpec := { name := "commuteRising", fn := fun _ => fun
  | [d1, d2, d3, d4] => { results := [.lit (.bool true)], args := [d1, d2, d3, d4] }
  | _ => none }
def commuteRisingRow : OpenClaim := { program := "ytmjlankpihnicaagreat", sum := "c6a0d815f6a0bc4fd006ff9801b96663d214c47658e3165f3c080a635a0a6e10", func := "annuitant/annuitantlaw31.CommuteRising", spec := "commuteRising", unfollowed := true, recurses := true, named := ["math/bits.overflowError"], apart := false }
def CommuteRisingSaid : Prop := commuteRisingRow.holds Tryz.pinned (OpenSpec.ofChange commuteRisingSpec)

/-- ITS FALSE NEIGHBOUR: 'it returns false'. Refute it at one input. -/
def commuteRisingWrong : ChangeSpec := { name := "commuteRising", fn := fun _ => fun
  | [d1, d2, d3, d4] => { results := [.lit (.bool false)], args := [d1, d2, d3, d4] }
  | _ => none }
def CommuteRisingWrongFalsely : Prop := commuteRisingRow.holds Tryz.pinned (OpenSpec.ofChange commuteRisingWrong)

/-- 'annuitantlaw31.CommuteInterest': WHATEVER THE INPUT: true; the input reads as it did. -/
def commuteInterestSpec : ChangeSpec := { name := "commuteInterest", fn := fun _ => fun
  | [d1, d2, d3, d4, d5] => { results := [.lit (.bool true)], args := [d1, d2, d3, d4, d5] }
  | _ => none }
def commuteInterestRow : OpenClaim := { program := "ytmjlankpihnicaagreat", sum := "c6a0d815f6a0bc4fd006ff9801b96663d214c47658e3165f3c080a635a0a6e10", func := "annuitant/annuitantlaw31.CommuteInterest", spec := "commuteInterest", unfollowed := true, recurses := true, named := ["math/bits.overflowError"], apart := false }
def CommuteInterestSaid : Prop := commuteInterestRow.holds Tryz.pinned (OpenSpec.ofChange commuteInterestSpec)

/-- ITS FALSE NEIGHBOUR: 'it returns false'. Refute it at one input. -/
def commuteInterestWrong : ChangeSpec := { name := "commuteInterest", fn := fun _ => fun
  | [d1, d2, d3, d4, d5] => { results := [.lit (.bool false)], args := [d1, d2, d3, d4, d5] }
  | _ => none }
def CommuteInterestWrongFalsely : Prop := commuteInterestRow.holds Tryz.pinned (OpenSpec.ofChange commuteInterestWrong)

/- THE SECOND FORM. 'bulk': how many values and letters a reading holds, each counted each time it is reached (what is shared counts as often as it is met; a slice's spare places count too). A statement '..UptoSaid' is the law's where the arguments, and the package variables that the reading takes, are together of bulk at most 1048576: NARROWER than '..Said'. Prove '..Said' where nothing that the law and all that it calls make is longer than what came in: it says more and counts as full. Else prove '..UptoSaid'. A law counts once. -/
mutual
def uptoBulk {H : Type} : DataW H → Nat
  | .lit (.string bytes) => bytes.length + 1
  | .lit _ => 1
  | .nil => 1
  | .ptr d => uptoBulk d + 1
  | .slice elems spare => uptoBulkAll elems + uptoBulkAll spare + 1
  | .agg parts => uptoBulkAll parts + 1
  | .iface _ d => uptoBulk d + 1
  | .map entries => uptoBulkEntries entries + 1
  | .held _ => 1
def uptoBulkAll {H : Type} : List (DataW H) → Nat
  | [] => 0
  | d :: r => uptoBulk d + uptoBulkAll r
def uptoBulkEntries {H : Type} : List (Lit × DataW H) → Nat
  | [] => 0
  | x :: r => uptoBulkEntry x + uptoBulkEntries r
def uptoBulkEntry {H : Type} : Lit × DataW H → Nat
  | (.string bytes, d) => bytes.length + uptoBulk d + 1
  | (_, d) => uptoBulk d + 1
 end
def uptoSmall : (H : Type) → List (DataW H) → Bool := fun _ ds => decide (uptoBulkAll ds ≤ 1048576)
def OpenSpec.upto (s : _root_.Go.ChangeSpec) : _root_.Go.OpenSpec := { _root_.Go.OpenSpec.ofChange s with cond := some uptoSmall }

/-- 'annuitantlaw31.CommuteTells', WHERE WHAT IT READS IS OF BULK AT MOST 1048576: true; the input reads as it did. -/
def commuteTellsUptoRow : OpenClaim := { program := "ytmjlankpihnicaagreat", sum := "c6a0d815f6a0bc4fd006ff9801b96663d214c47658e3165f3c080a635a0a6e10", func := "annuitant/annuitantlaw31.CommuteTells", spec := "commuteTells", unfollowed := true, recurses := true, named := ["math/bits.overflowError"], apart := false, narrowed := true }
def CommuteTellsUptoSaid : Prop := commuteTellsUptoRow.holds Tryz.pinned (OpenSpec.upto commuteTellsSpec)

/-- 'annuitantlaw31.CommuteSmall', WHERE WHAT IT READS IS OF BULK AT MOST 1048576: true; the input reads as it did. -/
def commuteSmallUptoRow : OpenClaim := { program := "ytmjlankpihnicaagreat", sum := "c6a0d815f6a0bc4fd006ff9801b96663d214c47658e3165f3c080a635a0a6e10", func := "annuitant/annuitantlaw31.CommuteSmall", spec := "commuteSmall", unfollowed := true, recurses := true, named := ["math/bits.overflowError"], apart := false, narrowed := true }
def CommuteSmallUptoSaid : Prop := commuteSmallUptoRow.holds Tryz.pinned (OpenSpec.upto commuteSmallSpec)

/-- 'annuitantlaw31.CommuteLinks', WHERE WHAT IT READS IS OF BULK AT MOST 1048576: true; the input reads as it did. -/
def commuteLinksUptoRow : OpenClaim := { program := "ytmjlankpihnicaagreat", sum := "c6a0d815f6a0bc4fd006ff9801b96663d214c47658e3165f3c080a635a0a6e10", func := "annuitant/annuitantlaw31.CommuteLinks", spec := "commuteLinks", unfollowed := true, recurses := true, named := ["math/bits.overflowError"], apart := false, narrowed := true }
def CommuteLinksUptoSaid : Prop := commuteLinksUptoRow.holds Tryz.pinned (OpenSpec.upto commuteLinksSpec)

/-- 'annuitantlaw31.CommuteShift', WHERE WHAT IT READS IS OF BULK AT MOST 1048576: true; the input reads as it did. -/
def commuteShiftUptoRow : OpenClaim := { program := "ytmjlankpihnicaagreat", sum := "c6a0d815f6a0bc4fd006ff9801b96663d214c47658e3165f3c080a635a0a6e10", func := "annuitant/annuitantlaw31.CommuteShift", spec := "commuteShift", unfollowed := true, recurses := true, named := ["math/bits.overflowError"], apart := false, narrowed := true }
def CommuteShiftUptoSaid : Prop := commuteShiftUptoRow.holds Tryz.pinned (OpenSpec.upto commuteShiftSpec)

/-- 'annuitantlaw31.CommuteParts', WHERE WHAT IT READS IS OF BULK AT MOST 1048576: true; the input reads as it did. -/
def commutePartsUptoRow : OpenClaim := { program := "ytmjlankpihnicaagreat", sum := "c6a0d815f6a0bc4fd006ff9801b96663d214c47658e3165f3c080a635a0a6e10", func := "annuitant/annuitantlaw31.CommuteParts", spec := "commuteParts", unfollowed := true, recurses := true, named := ["math/bits.overflowError"], apart := false, narrowed := true }
def CommutePartsUptoSaid : Prop := commutePartsUptoRow.holds Tryz.pinned (OpenSpec.upto commutePartsSpec)

/-- 'annuitantlaw31.CommuteRising', WHERE WHAT IT READS IS OF BULK AT MOST 1048576: true; the input reads as it did. -/
def commuteRisingUptoRow : OpenClaim := { program := "ytmjlankpihnicaagreat", sum := "c6a0d815f6a0bc4fd006ff9801b96663d214c47658e3165f3c080a635a0a6e10", func := "annuitant/annuitantlaw31.CommuteRising", spec := "commuteRising", unfollowed := true, recurses := true, named := ["math/bits.overflowError"], apart := false, narrowed := true }
def CommuteRisingUptoSaid : Prop := commuteRisingUptoRow.holds Tryz.pinned (OpenSpec.upto commuteRisingSpec)

/-- 'annuitantlaw31.CommuteInterest', WHERE WHAT IT READS IS OF BULK AT MOST 1048576: true; the input reads as it did. -/
def commuteInterestUptoRow : OpenClaim := { program := "ytmjlankpihnicaagreat", sum := "c6a0d815f6a0bc4fd006ff9801b96663d214c47658e3165f3c080a635a0a6e10", func := "annuitant/annuitantlaw31.CommuteInterest", spec := "commuteInterest", unfollowed := true, recurses := true, named := ["math/bits.overflowError"], apart := false, narrowed := true }
def CommuteInterestUptoSaid : Prop := commuteInterestUptoRow.holds Tryz.pinned (OpenSpec.upto commuteInterestSpec)

end Rows
end Go.Proofs.YtmjlankpihnicaaGreat
