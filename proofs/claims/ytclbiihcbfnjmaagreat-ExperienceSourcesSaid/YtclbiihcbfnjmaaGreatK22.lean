/-
  Parts.
-/
import Derived.Test.YtclbiihcbfnjmaaGreatK19
set_option linter.unusedSimpArgs false
set_option maxRecDepth 100000
set_option maxHeartbeats 2000000
namespace Go.Proofs.YtclbiihcbfnjmaaGreat
section
open Go.RowKit

end
section
open Go.RowKit

end
section
open Go.RowKit

theorem Lq {w:World}:
  Calls Tryz.prog 30 #[.agg aW,.agg aW] w (fun e w'=>e= .returned (.bool true)/\Below w.heap.size w w'):=by
 have hz:∀W,WV W 0 false none 0:=WQ
 have hE:=((Env.start w).blk 29 aW (g:=w.heap.size) rfl).blk 29 aW (g:=w.heap.size+1) (by simp)
 obtain⟨W0,aC⟩:∃W0,W0=((w.alloc (.cells aW 29)).alloc (.cells aW 29)):=⟨_,rfl⟩
 rw[<-aC] at hE;have aZ:=af aC;clear aC
 go_enter Tryz.func30,Tryz.ntmps30
 go_upto_region 1 with(fail)
 rw[<-aZ.out];obtain⟨k1,k2,k3,k4⟩:=(hE.g1).c4;obtain⟨k5,k6,k7,k8⟩:=(hE.g0).c4;go_wp2_with fail
 refine hE.br (lJ (c:=0) (d:=0) (hz _) (hz _) (by decide) (by decide)) ?_;clear hE k1 k2 k3 k4 k5 k6 k7 k8;intro w9 hE;obtain⟨fU,dX,dY,eu⟩:=(hE.g1).c4;obtain⟨eF,iA,kz,lU⟩:=(hE.g0).c4;go_wp2_with fail
 refine hE.br (lJ (c:=0) (d:=0) (hz _) (hz _) (by decide) (by decide)) ?_;clear hE fU dX dY eu eF iA kz lU;intro TL hE;go_wp2_with fail
 go_ret
 exact⟨rfl,hE.ax⟩
end
end Go.Proofs.YtclbiihcbfnjmaaGreat
