/-
  Parts.
-/
import Derived.Test.YtclbiihcbfnjmaaGreatK21
import Derived.Test.YtclbiihcbfnjmaaGreatK22
namespace Go.Proofs.YtclbiihcbfnjmaaGreat
open Go.RowKit

theorem mE {P:Program}{w w':World}{ops:Array Oper}{rest:List Oper}{o:Oper}{a:Act}{Q:Exit->Act->World->Prop}{ty:TypeId}{x y:Operand}{p v:Value}(hr:(Instr.storeAt ty p v).run P w= .ok () w')(hg:o.guard=none)(ho:o.op= .store ty x y)(hx:a.eval x=p)(hy:a.eval y=v)
  (h:wpList P ops Q rest (a.put o.dst undef) w'):wpList P ops Q (o::rest) a w:=
 wpList_plain hg fun _ hK=>by
  unfold Oper.wp execOp;simp only[ho,hx,hy,Sem.run_bind,Sem.run_pure,Result.andThen_ok,hr];exact hK _ _ h
theorem oK (T:TypeId){t:TypeId}{g:Nat}{cs:Array Value}{W:World}(hB:au t g cs W)(vs:List Value)(hl:cs.size=vs.length)(hs:(Tryz.prog.info? T).map (·.size)=some vs.length)(h1:∀v∈vs,v.oneCell'=true):
  (Instr.storeAt T (.pointer (some ⟨g,0,none⟩)) (.agg vs.toArray)).run Tryz.prog W= .ok () (W.setCells g 0 vs):=
 run_storeAt_mid (P:= Tryz.prog) W g 0 T vs.toArray (by rw[List.size_toArray];exact ET hB (by omega)) (by rw[List.size_toArray];exact hs) (all_oneCell_toArray h1)
end Go.Proofs.YtclbiihcbfnjmaaGreat
