/-
  Parts.
-/
import Derived.Test.YtclbiihcbfnjmaaGreatE12
namespace Go.Proofs.YtclbiihcbfnjmaaGreat
open Go.RowKit

def IvL (w:World)(P0:World->Prop)(a0:Act)(F:List bz)(D:Nat->Prop)(a:Act)(W:World):Prop:=∃xs,a=aT a0 F xs/\Env w P0 W/\cR D W F xs
theorem IvL.start {w:World}{P0:World->Prop}{a0:Act}{L0:Array Bool}{W:World}(hE:Env w P0 W){F:List bz}(h:((F.map (·.i)).all fun i=> !L0.getD i false)=true):IvL w P0 a0 F (fun j=>L0.getD j false=true) a0 W:=by
 obtain⟨xs,h1,h2,h3,-,-⟩:=cN.start hE rfl h (a0:=a0);exact⟨xs,h1,h2,h3⟩
theorem IvL.here {w:World}{P0:World->Prop}{a0 a:Act}{F:List bz}{D:Nat->Prop}{W:World}(h:IvL w P0 a0 F D a W):Env w P0 W:=h.choose_spec.2.1
theorem IvL.next {w:World}{P0:World->Prop}{a0 a a':Act}{F:List bz}{D:Nat->Prop}{W W':World}{v:Value}{f:bz}(h:IvL w P0 a0 F D a W)(k:Nat)(hs:∀g∈F,∀x,bq (g.R x))(hk:F[k]?=some f)(hi:uh (F.map (·.i))=true)(ht:uh (F.map (·.t))=true)
  (ha:a.put (some f.t) v=a') (hb:Below W.heap.size W W') (hv:f.R v W'):IvL w P0 a0 F (fun j=>j=f.i\/D j) a' W':=by
 obtain⟨xs,h1,h2,h3⟩:=h;exact⟨xs.set k v,by rw[<-ha,h1,qD k a0 (iq ht) h3.len hk],h2.step hb,cR.next hb hv k (iq hi) hs hk h3⟩
def DZ (h:Nat->FH)(x:Value)(V:World):Prop:=∃G,x= .slice (some ⟨G,0,none⟩) 11 11/\Rw 29 4 G 11 11 (fun i=>qC (h i)) V
theorem DZ.stable (h:Nat->FH)(x:Value):bq (DZ h x):=fun _ _ hb ⟨G,e,hR⟩=>⟨G,e,hR.below hb⟩
def D0 (h:Nat->FH)(k:Nat)(x:Value)(V:World):Prop:=∃G,x= .pointer (some ⟨G,k*4,none⟩)/\Rw 29 4 G 11 11 (fun i=>qC (h i)) V
theorem D0.stable (h:Nat->FH)(k:Nat)(x:Value):bq (D0 h k x):=fun _ _ hb ⟨G,e,hR⟩=>⟨G,e,hR.below hb⟩
end Go.Proofs.YtclbiihcbfnjmaaGreat
