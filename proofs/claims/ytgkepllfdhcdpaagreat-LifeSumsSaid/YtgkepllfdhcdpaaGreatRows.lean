/-
  No cell of these rows narrows 'for every input' (looked for: loops, veiled, ifaces, maps, wideKeys, modest, calm, conditions, laid).
  DERIVED. THE GIVEN ROWS OF THIS SEAT. 9 by the template 'for every input the law returns true; each argument reads behind the call as it read before'; 0 by the template 'total and deterministic' (their statements: YtgkepllfdhcdpaaGreatTotals.lean).
  GIVEN WITH THE SEED: the statements are not yours to turn. If you find one false, say at which input.
  Laid BY PROGRAM, IN A SANDBOX (cutbox-rows.mjs): the forced cells as the released guide's own fill.sh prints them over the translation 6fae811e3a1c445f… (all of the seat's roots in one cut). By AI agents, Wed Nov 11 2026. No macro, syntax, notation, axiom, sorry.
-/
import Derived.Test.YtgkepllfdhcdpaaGreatChecked
import GoSem.Claim
import GoSem.ClaimJoined
import GoSem.ClaimMapViews
import Derived.JoinedTies
import Derived.KernelRfl
namespace Go.Proofs.YtgkepllfdhcdpaaGreat
/- THE CELL 'sum', in the pinned program and in every row, IS THE sha256 OF THE DUMP (.gsa) THAT YtgkepllfdhcdpaaGreatProg.lean LOADS. Nothing in Lean hashes anything: it is a label: what it is worth is what the hold of that sum in a sandbox is worth. -/
noncomputable def Tryz.pinned : Pinned := { name := "ytgkepllfdhcdpaagreat", sum := "6fae811e3a1c445fa28e42f914a0510c7492d17fbe331debe26324ce579cdec4", checked := Tryz.checked }
namespace Rows
def none {H : Type} : Left H := { results := [], args := [] }

/-- 'annuitantlaw30.LifeTells': WHATEVER THE INPUT: true; the input reads as it did. -/
def lifeTellsSpec : ChangeSpec := { name := "lifeTells", fn := fun _ => fun
  | [d1, d2, d3, d4] => { results := [.lit (.bool true)], args := [d1, d2, d3, d4] }
  | _ => none }
def lifeTellsRow : OpenClaim := { program := "ytgkepllfdhcdpaagreat", sum := "6fae811e3a1c445fa28e42f914a0510c7492d17fbe331debe26324ce579cdec4", func := "annuitant/annuitantlaw30.LifeTells", spec := "lifeTells", unfollowed := true, recurses := true, named := ["math/bits.overflowError"], apart := false }
def LifeTellsSaid : Prop := lifeTellsRow.holds Tryz.pinned (OpenSpec.ofChange lifeTellsSpec)

/-- ITS FALSE NEIGHBOUR: 'it returns false'. Refute it at one input. -/
def lifeTellsWrong : ChangeSpec := { name := "lifeTells", fn := fun _ => fun
  | [d1, d2, d3, d4] => { results := [.lit (.bool false)], args := [d1, d2, d3, d4] }
  | _ => none }
def LifeTellsWrongFalsely : Prop := lifeTellsRow.holds Tryz.pinned (OpenSpec.ofChange lifeTellsWrong)

/-- 'annuitantlaw30.LifeApart': WHATEVER THE INPUT: true; the input reads as it did. -/
def lifeApartSpec : ChangeSpec := { name := "lifeApart", fn := fun _ => fun
  | [d1, d2, d3, d4] => { results := [.lit (.bool true)], args := [d1, d2, d3, d4] }
  | _ => none }
def lifeApartRow : OpenClaim := { program := "ytgkepllfdhcdpaagreat", sum := "6fae811e3a1c445fa28e42f914a0510c7492d17fbe331debe26324ce579cdec4", func := "annuitant/annuitantlaw30.LifeApart", spec := "lifeApart", unfollowed := true, recurses := true, named := ["math/bits.overflowError"], apart := false }
def LifeApartSaid : Prop := lifeApartRow.holds Tryz.pinned (OpenSpec.ofChange lifeApartSpec)

/-- ITS FALSE NEIGHBOUR: 'it returns false'. Refute it at one input. -/
def lifeApartWrong : ChangeSpec := { name := "lifeApart", fn := fun _ => fun
  | [d1, d2, d3, d4] => { results := [.lit (.bool false)], args := [d1, d2, d3, d4] }
  | _ => none }
def LifeApartWrongFalsely : Prop := lifeApartRow.holds Tryz.pinned (OpenSpec.ofChange lifeApartWrong)

/-- 'annuitantlaw30.LifeSmall': WHATEVER THE INPUT: true; the input reads as it did. -/
def lifeSmallSpec : ChangeSpec := { name := "lifeSmall", fn := fun _ => fun
  | [] => { results := [.lit (.bool true)], args := [] }
  | _ => none }
def lifeSmallRow : OpenClaim := { program := "ytgkepllfdhcdpaagreat", sum := "6fae811e3a1c445fa28e42f914a0510c7492d17fbe331debe26324ce579cdec4", func := "annuitant/annuitantlaw30.LifeSmall", spec := "lifeSmall", unfollowed := true, recurses := true, named := ["math/bits.overflowError"], apart := false }
def LifeSmallSaid : Prop := lifeSmallRow.holds Tryz.pinned (OpenSpec.ofChange lifeSmallSpec)

/-- ITS FALSE NEIGHBOUR: 'it returns false'. Refute it at one input. -/
def lifeSmallWrong : ChangeSpec := { name := "lifeSmall", fn := fun _ => fun
  | [] => { results := [.lit (.bool false)], args := [] }
  | _ => none }
def LifeSmallWrongFalsely : Prop := lifeSmallRow.holds Tryz.pinned (OpenSpec.ofChange lifeSmallWrong)

/-- 'annuitantlaw30.LifeSums': WHATEVER THE INPUT: true; the input reads as it did. -/
def lifeSumsSpec : ChangeSpec := { name := "lifeSums", fn := fun _ => fun
  | [d1, d2] => { results := [.lit (.bool true)], args := [d1, d2] }
  | _ => none }
def lifeSumsRow : OpenClaim := { program := "ytgkepllfdhcdpaagreat", sum := "6fae811e3a1c445fa28e42f914a0510c7492d17fbe331debe26324ce579cdec4", func := "annuitant/annuitantlaw30.LifeSums", spec := "lifeSums", unfollowed := true, recurses := true, named := ["math/bits.overflowError"], apart := false }
def LifeSumsSaid : Prop := lifeSumsRow.holds Tryz.pinned (OpenSpec.ofChange lifeSumsSpec)

/-- ITS FALSE NEIGHBOUR: 'it returns false'. Refute it at one input. -/
def lifeSumsWrong : ChangeSpec := { name := "lifeSums", fn := fun _ => fun
  | [d1, d2] => { results := [.lit (.bool false)], args := [d1, d2] }
  | _ => none }
def LifeSumsWrongFalsely : Prop := lifeSumsRow.holds Tryz.pinned (OpenSpec.ofChange lifeSumsWrong)

/-- 'annuitantlaw30.LifeSteps': WHATEVER THE INPUT: true; the input reads as it did. -/
def lifeStepsSpec : ChangeSpec := { name := "lifeSteps", fn := fun _ => fun
  | [d1, d2, d3, d4] => { results := [.lit (.bool true)], args := [d1, d2, d3, d4] }
  | _ => none }
def lifeStepsRow : OpenClaim := { program := "ytgkepllfdhcdpaagreat", sum := "6fae811e3a1c445fa28e42f914a0510c7492d17fbe331debe26324ce579cdec4", func := "annuitant/annuitantlaw30.LifeSteps", spec := "lifeSteps", unfollowed := true, recurses := true, named := ["math/bits.overflowError"], apart := false }
def LifeStepsSaid : Prop := lifeStepsRow.holds Tryz.pinned (OpenSpec.ofChange lifeStepsSpec)

/-- ITS FALSE NEIGHBOUR: 'it returns false'. Refute it at one input. -/
def lifeStepsWrong : ChangeSpec := { name := "lifeSteps", fn := fun _ => fun
  | [d1, d2, d3, d4] => { results := [.lit (.bool false)], args := [d1, d2, d3, d4] }
  | _ => none }
def LifeStepsWrongFalsely : Prop := lifeStepsRow.holds Tryz.pinned (OpenSpec.ofChange lifeStepsWrong)

/-- 'annuitantlaw30.LifeSelect': WHATEVER THE INPUT: true; the input reads as it did. -/
def lifeSelectSpec : ChangeSpec := { name := "lifeSelect", fn := fun _ => fun
  | [d1, d2, d3] => { results := [.lit (.bool true)], args := [d1, d2, d3] }
  | _ => none }
def lifeSelectRow : OpenClaim := { program := "ytgkepllfdhcdpaagreat", sum := "6fae811e3a1c445fa28e42f914a0510c7492d17fbe331debe26324ce579cdec4", func := "annuitant/annuitantlaw30.LifeSelect", spec := "lifeSelect", unfollowed := true, recurses := true, named := ["math/bits.overflowError"], apart := false }
def LifeSelectSaid : Prop := lifeSelectRow.holds Tryz.pinned (OpenSpec.ofChange lifeSelectSpec)

/-- ITS FALSE NEIGHBOUR: 'it returns false'. Refute it at one input. -/
def lifeSelectWrong : ChangeSpec := { name := "lifeSelect", fn := fun _ => fun
  | [d1, d2, d3] => { results := [.lit (.bool false)], args := [d1, d2, d3] }
  | _ => none }
def LifeSelectWrongFalsely : Prop := lifeSelectRow.holds Tryz.pinned (OpenSpec.ofChange lifeSelectWrong)

/-- 'annuitantlaw30.LifeExpect': WHATEVER THE INPUT: true; the input reads as it did. -/
def lifeExpectSpec : ChangeSpec := { name := "lifeExpect", fn := fun _ => fun
  | [d1, d2] => { results := [.lit (.bool true)], args := [d1, d2] }
  | _ => none }
def lifeExpectRow : OpenClaim := { program := "ytgkepllfdhcdpaagreat", sum := "6fae811e3a1c445fa28e42f914a0510c7492d17fbe331debe26324ce579cdec4", func := "annuitant/annuitantlaw30.LifeExpect", spec := "lifeExpect", unfollowed := true, recurses := true, named := ["math/bits.overflowError"], apart := false }
def LifeExpectSaid : Prop := lifeExpectRow.holds Tryz.pinned (OpenSpec.ofChange lifeExpectSpec)

/-- ITS FALSE NEIGHBOUR: 'it returns false'. Refute it at one input. -/
def lifeExpectWrong : ChangeSpec := { name := "lifeExpect", fn := fun _ => fun
  | [d1, d2] => { results := [.lit (.bool false)], args := [d1, d2] }
  | _ => none }
def LifeExpectWrongFalsely : Prop := lifeExpectRow.holds Tryz.pinned (OpenSpec.ofChange lifeExpectWrong)

/-- 'annuitantlaw30.LifePairs': WHATEVER THE INPUT: true; the input reads as it did. -/
def lifePairsSpec : ChangeSpec := { name := "lifePairs", fn := fun _ => fun
  | [d1, d2, d3, d4] => { results := [.lit (.bool true)], args := [d1, d2, d3, d4] }
  | _ => none }
def lifePairsRow : OpenClaim := { program := "ytgkepllfdhcdpaagreat", sum := "6fae811e3a1c445fa28e42f914a0510c7492d17fbe331debe26324ce579cdec4", func := "annuitant/annuitantlaw30.LifePairs", spec := "lifePairs", unfollowed := true, recurses := true, named := ["math/bits.overflowError"], apart := false }
def LifePairsSaid : Prop := lifePairsRow.holds Tryz.pinned (OpenSpec.ofChange lifePairsSpec)

/-- ITS FALSE NEIGHBOUR: 'it returns false'. Refute it at one input. -/
def lifePairsWrong : ChangeSpec := { name := "lifePairs", fn := fun _ => fun
  | [d1, d2, d3, d4] => { results := [.lit (.bool false)], args := [d1, d2, d3, d4] }
  | _ => none }
def LifePairsWrongFalsely : Prop := lifePairsRow.holds Tryz.pinned (OpenSpec.ofChange lifePairsWrong)

/-- 'annuitantlaw30.LifeLighter': WHATEVER THE INPUT: true; the input reads as it did. -/
def lifeLighterSpec : ChangeSpec := { name := "lifeLighter", fn := fun _ => fun
  | [d1, d2, d3, d4, d5] => { results := [.lit (.bool true)], args := [d1, d2, d3, d4, d5] }
  | _ => none }
def lifeLighterRow : OpenClaim := { program := "ytgkepllfdhcdpaagreat", sum := "6fae811e3a1c445fa28e42f914a0510c7492d17fbe331debe26324ce579cdec4", func := "annuitant/annuitantlaw30.LifeLighter", spec := "lifeLighter", unfollowed := true, recurses := true, named := ["math/bits.overflowError"], apart := false }
def LifeLighterSaid : Prop := lifeLighterRow.holds Tryz.pinned (OpenSpec.ofChange lifeLighterSpec)

/-- ITS FALSE NEIGHBOUR: 'it returns false'. Refute it at one input. -/
def lifeLighterWrong : ChangeSpec := { name := "lifeLighter", fn := fun _ => fun
  | [d1, d2, d3, d4, d5] => { results := [.lit (.bool false)], args := [d1, d2, d3, d4, d5] }
  | _ => none }
def LifeLighterWrongFalsely : Prop := lifeLighterRow.holds Tryz.pinned (OpenSpec.ofChange lifeLighterWrong)

/- THE SECOND FORM. 'bulk': how many values and letters a reading holds, each counted each time it is reached (what is shared counts as often as it is met; a slice's spare places count too). A statement '..UptoSaid' is the law's where the arguments, and the package variables that the reading takes, are together of bulk at most 1048576: NARROWER than '..Said'. Prove '..Said' where nothing that the law and all that it calls make is longer than what came in: it says more and counts as full. Else prove '..UptoSaid'. A law counts once. -/
mutual
def uptoBulk {H : Type} : DataW H → Nat
  | .lit (.string bytes) => bytes.length + 1
  | .lit _ => 1
  | .nil => 1
  | .ptr d => uptoBulk d + 1
  | .slice elems spare => uptoBulkAll elems + uptoBulkAll spare + 1
  | .agg parts => uptoBulkAll parts + 1
  | .iface _ d => uptoBulk d + 1
  | .map entries => uptoBulkEntries entries + 1
  | .held _ => 1
def uptoBulkAll {H : Type} : List (DataW H) → Nat
  | [] => 0
  | d :: r => uptoBulk d + uptoBulkAll r
def uptoBulkEntries {H : Type} : List (Lit × DataW H) → Nat
  | [] => 0
  | x :: r => uptoBulkEntry x + uptoBulkEntries r
def uptoBulkEntry {H : Type} : Lit × DataW H → Nat
  | (.string bytes, d) => bytes.length + uptoBulk d + 1
  | (_, d) => uptoBulk d + 1
 end
def uptoSmall : (H : Type) → List (DataW H) → Bool := fun _ ds => decide (uptoBulkAll ds ≤ 1048576)
def OpenSpec.upto (s : _root_.Go.ChangeSpec) : _root_.Go.OpenSpec := { _root_.Go.OpenSpec.ofChange s with cond := some uptoSmall }

/-- 'annuitantlaw30.LifeTells', WHERE WHAT IT READS IS OF BULK AT MOST 1048576: true; the input reads as it did. -/
def lifeTellsUptoRow : OpenClaim := { program := "ytgkepllfdhcdpaagreat", sum := "6fae811e3a1c445fa28e42f914a0510c7492d17fbe331debe26324ce579cdec4", func := "annuitant/annuitantlaw30.LifeTells", spec := "lifeTells", unfollowed := true, recurses := true, named := ["math/bits.overflowError"], apart := false, narrowed := true }
def LifeTellsUptoSaid : Prop := lifeTellsUptoRow.holds Tryz.pinned (OpenSpec.upto lifeTellsSpec)

/-- 'annuitantlaw30.LifeApart', WHERE WHAT IT READS IS OF BULK AT MOST 1048576: true; the input reads as it did. -/
def lifeApartUptoRow : OpenClaim := { program := "ytgkepllfdhcdpaagreat", sum := "6fae811e3a1c445fa28e42f914a0510c7492d17fbe331debe26324ce579cdec4", func := "annuitant/annuitantlaw30.LifeApart", spec := "lifeApart", unfollowed := true, recurses := true, named := ["math/bits.overflowError"], apart := false, narrowed := true }
def LifeApartUptoSaid : Prop := lifeApartUptoRow.holds Tryz.pinned (OpenSpec.upto lifeApartSpec)

/-- 'annuitantlaw30.LifeSmall', WHERE WHAT IT READS IS OF BULK AT MOST 1048576: true; the input reads as it did. -/
def lifeSmallUptoRow : OpenClaim := { program := "ytgkepllfdhcdpaagreat", sum := "6fae811e3a1c445fa28e42f914a0510c7492d17fbe331debe26324ce579cdec4", func := "annuitant/annuitantlaw30.LifeSmall", spec := "lifeSmall", unfollowed := true, recurses := true, named := ["math/bits.overflowError"], apart := false, narrowed := true }
def LifeSmallUptoSaid : Prop := lifeSmallUptoRow.holds Tryz.pinned (OpenSpec.upto lifeSmallSpec)

/-- 'annuitantlaw30.LifeSums', WHERE WHAT IT READS IS OF BULK AT MOST 1048576: true; the input reads as it did. -/
def lifeSumsUptoRow : OpenClaim := { program := "ytgkepllfdhcdpaagreat", sum := "6fae811e3a1c445fa28e42f914a0510c7492d17fbe331debe26324ce579cdec4", func := "annuitant/annuitantlaw30.LifeSums", spec := "lifeSums", unfollowed := true, recurses := true, named := ["math/bits.overflowError"], apart := false, narrowed := true }
def LifeSumsUptoSaid : Prop := lifeSumsUptoRow.holds Tryz.pinned (OpenSpec.upto lifeSumsSpec)

/-- 'annuitantlaw30.LifeSteps', WHERE WHAT IT READS IS OF BULK AT MOST 1048576: true; the input reads as it did. -/
def lifeStepsUptoRow : OpenClaim := { program := "ytgkepllfdhcdpaagreat", sum := "6fae811e3a1c445fa28e42f914a0510c7492d17fbe331debe26324ce579cdec4", func := "annuitant/annuitantlaw30.LifeSteps", spec := "lifeSteps", unfollowed := true, recurses := true, named := ["math/bits.overflowError"], apart := false, narrowed := true }
def LifeStepsUptoSaid : Prop := lifeStepsUptoRow.holds Tryz.pinned (OpenSpec.upto lifeStepsSpec)

/-- 'annuitantlaw30.LifeSelect', WHERE WHAT IT READS IS OF BULK AT MOST 1048576: true; the input reads as it did. -/
def lifeSelectUptoRow : OpenClaim := { program := "ytgkepllfdhcdpaagreat", sum := "6fae811e3a1c445fa28e42f914a0510c7492d17fbe331debe26324ce579cdec4", func := "annuitant/annuitantlaw30.LifeSelect", spec := "lifeSelect", unfollowed := true, recurses := true, named := ["math/bits.overflowError"], apart := false, narrowed := true }
def LifeSelectUptoSaid : Prop := lifeSelectUptoRow.holds Tryz.pinned (OpenSpec.upto lifeSelectSpec)

/-- 'annuitantlaw30.LifeExpect', WHERE WHAT IT READS IS OF BULK AT MOST 1048576: true; the input reads as it did. -/
def lifeExpectUptoRow : OpenClaim := { program := "ytgkepllfdhcdpaagreat", sum := "6fae811e3a1c445fa28e42f914a0510c7492d17fbe331debe26324ce579cdec4", func := "annuitant/annuitantlaw30.LifeExpect", spec := "lifeExpect", unfollowed := true, recurses := true, named := ["math/bits.overflowError"], apart := false, narrowed := true }
def LifeExpectUptoSaid : Prop := lifeExpectUptoRow.holds Tryz.pinned (OpenSpec.upto lifeExpectSpec)

/-- 'annuitantlaw30.LifePairs', WHERE WHAT IT READS IS OF BULK AT MOST 1048576: true; the input reads as it did. -/
def lifePairsUptoRow : OpenClaim := { program := "ytgkepllfdhcdpaagreat", sum := "6fae811e3a1c445fa28e42f914a0510c7492d17fbe331debe26324ce579cdec4", func := "annuitant/annuitantlaw30.LifePairs", spec := "lifePairs", unfollowed := true, recurses := true, named := ["math/bits.overflowError"], apart := false, narrowed := true }
def LifePairsUptoSaid : Prop := lifePairsUptoRow.holds Tryz.pinned (OpenSpec.upto lifePairsSpec)

/-- 'annuitantlaw30.LifeLighter', WHERE WHAT IT READS IS OF BULK AT MOST 1048576: true; the input reads as it did. -/
def lifeLighterUptoRow : OpenClaim := { program := "ytgkepllfdhcdpaagreat", sum := "6fae811e3a1c445fa28e42f914a0510c7492d17fbe331debe26324ce579cdec4", func := "annuitant/annuitantlaw30.LifeLighter", spec := "lifeLighter", unfollowed := true, recurses := true, named := ["math/bits.overflowError"], apart := false, narrowed := true }
def LifeLighterUptoSaid : Prop := lifeLighterUptoRow.holds Tryz.pinned (OpenSpec.upto lifeLighterSpec)

end Rows
end Go.Proofs.YtgkepllfdhcdpaaGreat
