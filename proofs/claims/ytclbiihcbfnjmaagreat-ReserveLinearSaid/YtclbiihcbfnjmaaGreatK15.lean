/-
  Parts.
-/
import Derived.Test.YtclbiihcbfnjmaaGreatK2
import Derived.RangeFuncCalls
import Derived.RangeFuncLeaves
import Derived.RangeFuncBox
import Derived.Shelf.Abstract
import Derived.Shelf.RegionOpen
import Derived.OwnWalkIn
import Derived.TacticsInMore
import Derived.LoopNIn
import Derived.LoopIn
import Derived.Test.YtclbiihcbfnjmaaGreatK5
import Derived.Test.YtclbiihcbfnjmaaGreatK14
namespace Go.Proofs.YtclbiihcbfnjmaaGreat
open Go.RowKit Go.Shelf
attribute [local go_sem] Oper.semAt_some

theorem KpB.blk {n₀ Bs : Nat} {t : TypeId} {cs : Array Value} {W W' : World} (h : KpB n₀ Bs W W') (hb : Blk t Bs cs W) : Blk t Bs cs W' := h.2.trans hb

end Go.Proofs.YtclbiihcbfnjmaaGreat
