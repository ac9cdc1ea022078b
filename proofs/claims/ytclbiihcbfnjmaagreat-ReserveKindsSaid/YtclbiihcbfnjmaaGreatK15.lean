/-
  Parts.
-/
import Derived.Test.YtclbiihcbfnjmaaGreatK2
import Derived.RangeFuncCalls
import Derived.RangeFuncLeaves
import Derived.RangeFuncBox
import Derived.Shelf.Abstract
import Derived.Shelf.RegionOpen
import Derived.OwnWalkIn
import Derived.TacticsInMore
import Derived.LoopNIn
import Derived.LoopIn
import Derived.Test.YtclbiihcbfnjmaaGreatK5
import Derived.Test.YtclbiihcbfnjmaaGreatK14
namespace Go.Proofs.YtclbiihcbfnjmaaGreat
open Go.RowKit Go.Shelf
attribute [local go_sem] Oper.semAt_some

theorem KpB.blk {n₀ Bs : Nat} {t : TypeId} {cs : Array Value} {W W' : World} (h : KpB n₀ Bs W W') (hb : Blk t Bs cs W) : Blk t Bs cs W' := h.2.trans hb

theorem AbidesFrom_below {β : Type} {B : Nat} {J : β → World → Prop} (h : AbidesFrom B J) {s : β} {W W' : World} (hs : J s W) (hb : Below W.heap.size W W') : J s W' :=
 h s W W' none hs ⟨hb.os, hb.tape, hb.output, hb.size, fun k hk _ => hb.block k hk⟩ (fun _ e => by cases e)

end Go.Proofs.YtclbiihcbfnjmaaGreat
