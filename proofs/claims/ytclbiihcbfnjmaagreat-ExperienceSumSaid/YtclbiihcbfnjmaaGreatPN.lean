/-
  Parts.
-/
import Derived.Test.YtclbiihcbfnjmaaGreatK2
import Derived.Test.YtclbiihcbfnjmaaGreatK8
import Derived.Laws.EntriesVeiled
import Derived.Test.YtclbiihcbfnjmaaGreatK21
set_option linter.unusedSimpArgs false
set_option maxRecDepth 100000
set_option maxHeartbeats 8000000
namespace Go.Proofs.YtclbiihcbfnjmaaGreat
open Go.RowKit

theorem net_st {x:Ct}{G N cap gl gv ga gX gY:Nat}{w W:World}{c d:Value}(hE:Env w (fun V=>((True/\FV V x.p.q x.p.s x.p.A x.p.n x.p.t x.p.B x.p.m)/\Blk 80 w.heap.size (x.Q G N cap) V)) W)(hL:Blk 34 gl #[.slice x.A x.n x.c] W)(hV:Blk 80 gv (x.Q G N cap) W)(hQ:Blk 29 ga (qf4 x.p.s x.p.A x.p.n x.p.c x.p.t x.p.B x.p.m x.p.d) W)(hX:Blk 84 gX #[c] W)(hY:Blk 84 gY #[d] W)(bX:w.heap.size<gX)(ne:gY≠gX)(hc:noLimb c=true)(v:Value):
  Env w (fun V=>((True/\FV V x.p.q x.p.s x.p.A x.p.n x.p.t x.p.B x.p.m)/\Blk 80 w.heap.size (x.Q G N cap) V)) (W.setCell ⟨gX,0,none⟩ v)/\Blk 34 gl #[.slice x.A x.n x.c] (W.setCell ⟨gX,0,none⟩ v)/\Blk 80 gv (x.Q G N cap) (W.setCell ⟨gX,0,none⟩ v)/\Blk 29 ga (qf4 x.p.s x.p.A x.p.n x.p.c x.p.t x.p.B x.p.m x.p.d) (W.setCell ⟨gX,0,none⟩ v)/\Blk 84 gX #[v] (W.setCell ⟨gX,0,none⟩ v)/\Blk 84 gY #[d] (W.setCell ⟨gX,0,none⟩ v):=
 ⟨((Env.again (hE.bel.setCell (p:=⟨gX,0,none⟩) (Nat.le_of_lt bX) v)).fv (hE.here.1.2.sep (i:=0) hX (by simp[hc]) v)).blkI (hE.here.2.far (p:=⟨gX,0,none⟩) (by show w.heap.size≠gX;omega) v),
  hL.far (p:=⟨gX,0,none⟩) (hL.ne hX (by decide)) v,hV.far (p:=⟨gX,0,none⟩) (hV.ne hX (by decide)) v,hQ.far (p:=⟨gX,0,none⟩) (hQ.ne hX (by decide)) v,by simpa using hX.set_ 0 v,hY.far (p:=⟨gX,0,none⟩) ne v⟩
def NetC (x:Ct)(G N cap gl gv ga G3 G4:Nat)(W:World):Prop:=Blk 34 gl #[.slice x.A x.n x.c] W/\Blk 80 gv (x.Q G N cap) W/\Blk 29 ga (qf4 x.p.s x.p.A x.p.n x.p.c x.p.t x.p.B x.p.m x.p.d) W/\Blk 84 G3 #[.func (.func 104) #[] #[.pointer (some ⟨gl,0,none⟩)]] W/\Blk 84 G4 #[.func (.func 112) #[] #[.pointer (some ⟨gv,0,none⟩),.pointer (some ⟨ga,0,none⟩)]] W
def NetR (x:Ct)(G N cap:Nat)(w:World)(e:Ending)(w':World):Prop:=∃gl gv ga G3 G4,e= .returned (.func (.func 103) #[] #[.pointer (some ⟨G3,0,none⟩),.pointer (some ⟨G4,0,none⟩)])/\w.heap.size<G3/\w.heap.size<G4/\NetC x G N cap gl gv ga G3 G4 w'/\Below w.heap.size w w'
theorem vnet_c {x:Ct}{G N cap:Nat}{w:World}(hq:FV w x.p.q x.p.s x.p.A x.p.n x.p.t x.p.B x.p.m):
  Calls Tryz.prog 53 #[.agg (x.Q G N cap)] w (NetR x G N cap w):=by
 have hE:=((Env.start w).fv hq).blk 80 (x.Q G N cap) (g:=w.heap.size) rfl
 obtain⟨W0,hW0⟩:∃W0,W0=w.alloc (.cells (x.Q G N cap) 80):=⟨_,rfl⟩
 rw[<-hW0] at hE;have HW0:=Lib.hid hW0;clear hW0
 go_enter Tryz.func53,Tryz.ntmps53
 go_upto_region 1 with(fail)
 rw[<-HW0.out]
 go_cut [3,4] from 5 to 14 (fun p q wx=>∃gl gv ga G3 G4,p= .pointer (some ⟨G3,0,none⟩)/\q= .pointer (some ⟨G4,0,none⟩)/\(w.heap.size<G3/\w.heap.size<G4)/\Env w (fun V=>(((((((True/\FV V x.p.q x.p.s x.p.A x.p.n x.p.t x.p.B x.p.m)/\Blk 80 w.heap.size (x.Q G N cap) V)/\Blk 34 gl #[.slice x.A x.n x.c] V)/\Blk 80 gv (x.Q G N cap) V)/\Blk 29 ga (qf4 x.p.s x.p.A x.p.n x.p.c x.p.t x.p.B x.p.m x.p.d) V)/\Blk 84 G3 #[.func (.func 104) #[] #[.pointer (some ⟨gl,0,none⟩)]] V)/\Blk 84 G4 #[.func (.func 112) #[] #[.pointer (some ⟨gv,0,none⟩),.pointer (some ⟨ga,0,none⟩)]] V)) wx)
 case first=>
  replace hE:=hE.drew;refine wp_region_held_drew (S:=fun V=>((True/\FV V x.p.q x.p.s x.p.A x.p.n x.p.t x.p.B x.p.m)/\Blk 80 w.heap.size (x.Q G N cap) V)) (by kernel_rfl) hE.here (fun hHeld=> ?_);clear HW0;generalize W0.drew=W at hE hHeld⊢
  refine tk 0 ?_ (hy:=by
   intro w hSw;clear hSw
   first|(go_simp;done)|(go_simp;with_reducible rfl))
  try simp only[PL]
  refine tk 1 ?_ (hy:=by
   intro w hSw;clear hSw
   first|(go_simp;done)|(go_simp;with_reducible rfl))
  try simp only[PL]
  refine tk 2 ?_ (hy:=by
   intro w hSw;have k7:=hSw.2.cell 7;clear hSw
   first|(go_simp;done)|(go_simp;with_reducible rfl))
  try simp only[PL]
  refine tk 4 ?_ (hy:=by
   intro w hSw;have k0:=hSw.2.cell 0;have k1:=hSw.2.cell 1;have k2:=hSw.2.cell 2;have k3:=hSw.2.cell 3;have k4:=hSw.2.cell 4;have k5:=hSw.2.cell 5;have k6:=hSw.2.cell 6;have k7:=hSw.2.cell 7;have k8:=hSw.2.cell 8;have k9:=hSw.2.cell 9;clear hSw
   first|(go_simp;done)|(go_simp;with_reducible rfl))
  try simp only[PL]
  refine tk 5 ?_ (hy:=by
   intro w hSw;clear hSw
   first|(go_simp;done)|(go_simp;with_reducible rfl))
  try simp only[PL]
  refine tk 6 ?_ (hy:=by
   intro w hSw;clear hSw
   first|(go_simp;done)|(go_simp;with_reducible rfl))
  try simp only[PL]
  refine tk 7 ?_ (hy:=by
   intro w hSw;have k3:=hSw.2.cell 3;have k4:=hSw.2.cell 4;have k5:=hSw.2.cell 5;have k6:=hSw.2.cell 6;clear hSw
   first|(go_simp;done)|(go_simp;with_reducible rfl))
  try simp only[PL]
  refine wpAnyH_ready (rs:=[3,9,10]) (by kernel_rfl) (by simp) (AllReadyH.cons rfl (fun K hK=> ?_) (AllReadyH.cons rfl (fun K hK=> ?_) (AllReadyH.cons rfl (fun K hK=> ?_) (AllReadyH.nil))))
  all_goals go_simp
  all_goals first
   |
    go_at_call 54
    refine(vlisted_v _ _ _ _).mono ?_
    rintro e _ ⟨rfl,rfl⟩
    have hb:=belAlloc W (.cells #[.slice x.A x.n x.c] 34)
    try replace hV:=Blk.stable _ _ _ _ _ hb hV
    try replace hQ:=Blk.stable _ _ _ _ _ hb hQ
    try replace hA:=Blk.stable _ _ _ _ _ hb hA
    try replace hB:=Blk.stable _ _ _ _ _ hb hB
    have hL:=Blk.new W 34 #[.slice x.A x.n x.c]
    obtain⟨gl,egl⟩:∃g,g=W.heap.size:=⟨_,rfl⟩
    rw[<-egl] at hL⊢;replace hE:=hE.step hb;clear hb
    generalize W.alloc (.cells #[.slice x.A x.n x.c] 34)=W at*
    clear egl;go_wp2_with fail
    refine hK.out _ _ hE.here (fun hHeld=> ?_);clear hK K hHeld;try simp only[PL]
   |
    go_at_call 70
    refine(vprem_v x G N cap _ _ _ _ _ _ _ _ _).mono ?_
    rintro e _ ⟨rfl,rfl⟩
    obtain⟨hb,hV,hQ⟩:=two_new W 80 (x.Q G N cap) 29 (qf4 x.p.s x.p.A x.p.n x.p.c x.p.t x.p.B x.p.m x.p.d)
    try replace hL:=Blk.stable _ _ _ _ _ hb hL
    try replace hA:=Blk.stable _ _ _ _ _ hb hA
    try replace hB:=Blk.stable _ _ _ _ _ hb hB
    obtain⟨gv,egv⟩:∃g,g=W.heap.size:=⟨_,rfl⟩
    obtain⟨ga,ega⟩:∃g,g=gv+1:=⟨_,rfl⟩
    rw[<-egv] at hV hQ⊢;rw[<-ega] at hQ⊢;replace hE:=hE.step hb;clear hb
    generalize (W.alloc (.cells (x.Q G N cap) 80)).alloc (.cells (qf4 x.p.s x.p.A x.p.n x.p.c x.p.t x.p.B x.p.m x.p.d) 29)=W at*
    clear ega egv;go_wp2_with fail
    refine hK.out _ _ hE.here (fun hHeld=> ?_);clear hK K hHeld;try simp only[PL]
   |
    have hlt:=hA.lt;have blt:=hE.here.2.lt;have hb:=belAlloc W (.cells #[.nilFunc] 84)
    try replace hL:=Blk.stable _ _ _ _ _ hb hL
    try replace hV:=Blk.stable _ _ _ _ _ hb hV
    try replace hQ:=Blk.stable _ _ _ _ _ hb hQ
    try replace hA:=Blk.stable _ _ _ _ _ hb hA
    have hB:=Blk.new W 84 #[.nilFunc]
    obtain⟨gB,egB⟩:∃g,g=W.heap.size:=⟨_,rfl⟩
    rw[<-egB] at hlt blt hB⊢;replace hE:=hE.step hb;clear hb
    generalize W.alloc (.cells #[.nilFunc] 84)=W at*
    have nAB:gA≠gB:=by omega
    have nBA:gB≠gA:=by omega
    have bB:w.heap.size<gB:=blt;clear egB hlt blt;refine hK.out _ _ hE.here (fun hHeld=> ?_);clear hK K hHeld;try simp only[PL]
   |
    have blt:=hE.here.2.lt;have hb:=belAlloc W (.cells #[.nilFunc] 84)
    try replace hL:=Blk.stable _ _ _ _ _ hb hL
    try replace hV:=Blk.stable _ _ _ _ _ hb hV
    try replace hQ:=Blk.stable _ _ _ _ _ hb hQ
    try replace hB:=Blk.stable _ _ _ _ _ hb hB
    have hA:=Blk.new W 84 #[.nilFunc]
    obtain⟨gA,egA⟩:∃g,g=W.heap.size:=⟨_,rfl⟩
    rw[<-egA] at blt hA⊢;replace hE:=hE.step hb;clear hb
    generalize W.alloc (.cells #[.nilFunc] 84)=W at*
    have bA:w.heap.size<gA:=blt;clear egA blt;refine hK.out _ _ hE.here (fun hHeld=> ?_);clear hK K hHeld;try simp only[PL]
  refine wpAnyH_ready (rs:=[8,9,10]) (by kernel_rfl) (by simp) (AllReadyH.cons rfl (fun K hK=> ?_) (AllReadyH.cons rfl (fun K hK=> ?_) (AllReadyH.cons rfl (fun K hK=> ?_) (AllReadyH.nil))))
  rotate_left 3
  refine wpAnyH_ready (rs:=[3,10]) (by kernel_rfl) (by simp) (AllReadyH.cons rfl (fun K hK=> ?_) (AllReadyH.cons rfl (fun K hK=> ?_) (AllReadyH.nil)))
  rotate_left 2
  refine wpAnyH_ready (rs:=[3,9]) (by kernel_rfl) (by simp) (AllReadyH.cons rfl (fun K hK=> ?_) (AllReadyH.cons rfl (fun K hK=> ?_) (AllReadyH.nil)))
  rotate_left 2
  all_goals go_simp
  all_goals first
   |
    go_at_call 54
    refine(vlisted_v _ _ _ _).mono ?_
    rintro e _ ⟨rfl,rfl⟩
    have hb:=belAlloc W (.cells #[.slice x.A x.n x.c] 34)
    try replace hV:=Blk.stable _ _ _ _ _ hb hV
    try replace hQ:=Blk.stable _ _ _ _ _ hb hQ
    try replace hA:=Blk.stable _ _ _ _ _ hb hA
    try replace hB:=Blk.stable _ _ _ _ _ hb hB
    have hL:=Blk.new W 34 #[.slice x.A x.n x.c]
    obtain⟨gl,egl⟩:∃g,g=W.heap.size:=⟨_,rfl⟩
    rw[<-egl] at hL⊢;replace hE:=hE.step hb;clear hb
    generalize W.alloc (.cells #[.slice x.A x.n x.c] 34)=W at*
    clear egl;go_wp2_with fail
    refine hK.out _ _ hE.here (fun hHeld=> ?_);clear hK K hHeld;try simp only[PL]
   |
    go_at_call 70
    refine(vprem_v x G N cap _ _ _ _ _ _ _ _ _).mono ?_
    rintro e _ ⟨rfl,rfl⟩
    obtain⟨hb,hV,hQ⟩:=two_new W 80 (x.Q G N cap) 29 (qf4 x.p.s x.p.A x.p.n x.p.c x.p.t x.p.B x.p.m x.p.d)
    try replace hL:=Blk.stable _ _ _ _ _ hb hL
    try replace hA:=Blk.stable _ _ _ _ _ hb hA
    try replace hB:=Blk.stable _ _ _ _ _ hb hB
    obtain⟨gv,egv⟩:∃g,g=W.heap.size:=⟨_,rfl⟩
    obtain⟨ga,ega⟩:∃g,g=gv+1:=⟨_,rfl⟩
    rw[<-egv] at hV hQ⊢;rw[<-ega] at hQ⊢;replace hE:=hE.step hb;clear hb
    generalize (W.alloc (.cells (x.Q G N cap) 80)).alloc (.cells (qf4 x.p.s x.p.A x.p.n x.p.c x.p.t x.p.B x.p.m x.p.d) 29)=W at*
    clear ega egv;go_wp2_with fail
    refine hK.out _ _ hE.here (fun hHeld=> ?_);clear hK K hHeld;try simp only[PL]
   |
    have hlt:=hA.lt;have blt:=hE.here.2.lt;have hb:=belAlloc W (.cells #[.nilFunc] 84)
    try replace hL:=Blk.stable _ _ _ _ _ hb hL
    try replace hV:=Blk.stable _ _ _ _ _ hb hV
    try replace hQ:=Blk.stable _ _ _ _ _ hb hQ
    try replace hA:=Blk.stable _ _ _ _ _ hb hA
    have hB:=Blk.new W 84 #[.nilFunc]
    obtain⟨gB,egB⟩:∃g,g=W.heap.size:=⟨_,rfl⟩
    rw[<-egB] at hlt blt hB⊢;replace hE:=hE.step hb;clear hb
    generalize W.alloc (.cells #[.nilFunc] 84)=W at*
    have nAB:gA≠gB:=by omega
    have nBA:gB≠gA:=by omega
    have bB:w.heap.size<gB:=blt;clear egB hlt blt;refine hK.out _ _ hE.here (fun hHeld=> ?_);clear hK K hHeld;try simp only[PL]
   |
    have blt:=hE.here.2.lt;have hb:=belAlloc W (.cells #[.nilFunc] 84)
    try replace hL:=Blk.stable _ _ _ _ _ hb hL
    try replace hV:=Blk.stable _ _ _ _ _ hb hV
    try replace hQ:=Blk.stable _ _ _ _ _ hb hQ
    try replace hB:=Blk.stable _ _ _ _ _ hb hB
    have hA:=Blk.new W 84 #[.nilFunc]
    obtain⟨gA,egA⟩:∃g,g=W.heap.size:=⟨_,rfl⟩
    rw[<-egA] at blt hA⊢;replace hE:=hE.step hb;clear hb
    generalize W.alloc (.cells #[.nilFunc] 84)=W at*
    have bA:w.heap.size<gA:=blt;clear egA blt;refine hK.out _ _ hE.here (fun hHeld=> ?_);clear hK K hHeld;try simp only[PL]
  refine wpAnyH_ready (rs:=[9,10]) (by kernel_rfl) (by simp) (AllReadyH.cons rfl (fun K hK=> ?_) (AllReadyH.cons rfl (fun K hK=> ?_) (AllReadyH.nil)))
  rotate_left 2
  refine wpAnyH_ready (rs:=[8,10]) (by kernel_rfl) (by simp) (AllReadyH.cons rfl (fun K hK=> ?_) (AllReadyH.cons rfl (fun K hK=> ?_) (AllReadyH.nil)))
  rotate_left 2
  refine wpAnyH_ready (rs:=[8,9]) (by kernel_rfl) (by simp) (AllReadyH.cons rfl (fun K hK=> ?_) (AllReadyH.cons rfl (fun K hK=> ?_) (AllReadyH.nil)))
  rotate_left 2
  refine wpAnyH_ready (rs:=[8,10]) (by kernel_rfl) (by simp) (AllReadyH.cons rfl (fun K hK=> ?_) (AllReadyH.cons rfl (fun K hK=> ?_) (AllReadyH.nil)))
  rotate_left 2
  refine r1 3 (fun K hK=> ?_)
  rotate_left 1
  refine wpAnyH_ready (rs:=[8,9]) (by kernel_rfl) (by simp) (AllReadyH.cons rfl (fun K hK=> ?_) (AllReadyH.cons rfl (fun K hK=> ?_) (AllReadyH.nil)))
  rotate_left 2
  refine r1 3 (fun K hK=> ?_)
  rotate_left 1
  all_goals go_simp
  all_goals first
   |
    go_at_call 54
    refine(vlisted_v _ _ _ _).mono ?_
    rintro e _ ⟨rfl,rfl⟩
    have hb:=belAlloc W (.cells #[.slice x.A x.n x.c] 34)
    try replace hV:=Blk.stable _ _ _ _ _ hb hV
    try replace hQ:=Blk.stable _ _ _ _ _ hb hQ
    try replace hA:=Blk.stable _ _ _ _ _ hb hA
    try replace hB:=Blk.stable _ _ _ _ _ hb hB
    have hL:=Blk.new W 34 #[.slice x.A x.n x.c]
    obtain⟨gl,egl⟩:∃g,g=W.heap.size:=⟨_,rfl⟩
    rw[<-egl] at hL⊢;replace hE:=hE.step hb;clear hb
    generalize W.alloc (.cells #[.slice x.A x.n x.c] 34)=W at*
    clear egl;go_wp2_with fail
    refine hK.out _ _ hE.here (fun hHeld=> ?_);clear hK K hHeld;try simp only[PL]
   |
    go_at_call 70
    refine(vprem_v x G N cap _ _ _ _ _ _ _ _ _).mono ?_
    rintro e _ ⟨rfl,rfl⟩
    obtain⟨hb,hV,hQ⟩:=two_new W 80 (x.Q G N cap) 29 (qf4 x.p.s x.p.A x.p.n x.p.c x.p.t x.p.B x.p.m x.p.d)
    try replace hL:=Blk.stable _ _ _ _ _ hb hL
    try replace hA:=Blk.stable _ _ _ _ _ hb hA
    try replace hB:=Blk.stable _ _ _ _ _ hb hB
    obtain⟨gv,egv⟩:∃g,g=W.heap.size:=⟨_,rfl⟩
    obtain⟨ga,ega⟩:∃g,g=gv+1:=⟨_,rfl⟩
    rw[<-egv] at hV hQ⊢;rw[<-ega] at hQ⊢;replace hE:=hE.step hb;clear hb
    generalize (W.alloc (.cells (x.Q G N cap) 80)).alloc (.cells (qf4 x.p.s x.p.A x.p.n x.p.c x.p.t x.p.B x.p.m x.p.d) 29)=W at*
    clear ega egv;go_wp2_with fail
    refine hK.out _ _ hE.here (fun hHeld=> ?_);clear hK K hHeld;try simp only[PL]
   |
    have hlt:=hA.lt;have blt:=hE.here.2.lt;have hb:=belAlloc W (.cells #[.nilFunc] 84)
    try replace hL:=Blk.stable _ _ _ _ _ hb hL
    try replace hV:=Blk.stable _ _ _ _ _ hb hV
    try replace hQ:=Blk.stable _ _ _ _ _ hb hQ
    try replace hA:=Blk.stable _ _ _ _ _ hb hA
    have hB:=Blk.new W 84 #[.nilFunc]
    obtain⟨gB,egB⟩:∃g,g=W.heap.size:=⟨_,rfl⟩
    rw[<-egB] at hlt blt hB⊢;replace hE:=hE.step hb;clear hb
    generalize W.alloc (.cells #[.nilFunc] 84)=W at*
    have nAB:gA≠gB:=by omega
    have nBA:gB≠gA:=by omega
    have bB:w.heap.size<gB:=blt;clear egB hlt blt;refine hK.out _ _ hE.here (fun hHeld=> ?_);clear hK K hHeld;try simp only[PL]
   |
    have blt:=hE.here.2.lt;have hb:=belAlloc W (.cells #[.nilFunc] 84)
    try replace hL:=Blk.stable _ _ _ _ _ hb hL
    try replace hV:=Blk.stable _ _ _ _ _ hb hV
    try replace hQ:=Blk.stable _ _ _ _ _ hb hQ
    try replace hB:=Blk.stable _ _ _ _ _ hb hB
    have hA:=Blk.new W 84 #[.nilFunc]
    obtain⟨gA,egA⟩:∃g,g=W.heap.size:=⟨_,rfl⟩
    rw[<-egA] at blt hA⊢;replace hE:=hE.step hb;clear hb
    generalize W.alloc (.cells #[.nilFunc] 84)=W at*
    have bA:w.heap.size<gA:=blt;clear egA blt;refine hK.out _ _ hE.here (fun hHeld=> ?_);clear hK K hHeld;try simp only[PL]
  refine r1 10 (fun K hK=> ?_)
  rotate_left 1
  refine r1 9 (fun K hK=> ?_)
  rotate_left 1
  refine r1 10 (fun K hK=> ?_)
  rotate_left 1
  refine r1 8 (fun K hK=> ?_)
  rotate_left 1
  refine r1 9 (fun K hK=> ?_)
  rotate_left 1
  refine r1 8 (fun K hK=> ?_)
  rotate_left 1
  refine r1 10 (fun K hK=> ?_)
  rotate_left 1
  refine r1 8 (fun K hK=> ?_)
  rotate_left 1
  refine r1 8 (fun K hK=> ?_)
  rotate_left 1
  refine r1 9 (fun K hK=> ?_)
  rotate_left 1
  refine r1 8 (fun K hK=> ?_)
  rotate_left 1
  refine r1 8 (fun K hK=> ?_)
  rotate_left 1
  all_goals go_simp
  all_goals first
   |
    go_at_call 54
    refine(vlisted_v _ _ _ _).mono ?_
    rintro e _ ⟨rfl,rfl⟩
    have hb:=belAlloc W (.cells #[.slice x.A x.n x.c] 34)
    try replace hV:=Blk.stable _ _ _ _ _ hb hV
    try replace hQ:=Blk.stable _ _ _ _ _ hb hQ
    try replace hA:=Blk.stable _ _ _ _ _ hb hA
    try replace hB:=Blk.stable _ _ _ _ _ hb hB
    have hL:=Blk.new W 34 #[.slice x.A x.n x.c]
    obtain⟨gl,egl⟩:∃g,g=W.heap.size:=⟨_,rfl⟩
    rw[<-egl] at hL⊢;replace hE:=hE.step hb;clear hb
    generalize W.alloc (.cells #[.slice x.A x.n x.c] 34)=W at*
    clear egl;go_wp2_with fail
    refine hK.out _ _ hE.here (fun hHeld=> ?_);clear hK K hHeld;try simp only[PL]
   |
    go_at_call 70
    refine(vprem_v x G N cap _ _ _ _ _ _ _ _ _).mono ?_
    rintro e _ ⟨rfl,rfl⟩
    obtain⟨hb,hV,hQ⟩:=two_new W 80 (x.Q G N cap) 29 (qf4 x.p.s x.p.A x.p.n x.p.c x.p.t x.p.B x.p.m x.p.d)
    try replace hL:=Blk.stable _ _ _ _ _ hb hL
    try replace hA:=Blk.stable _ _ _ _ _ hb hA
    try replace hB:=Blk.stable _ _ _ _ _ hb hB
    obtain⟨gv,egv⟩:∃g,g=W.heap.size:=⟨_,rfl⟩
    obtain⟨ga,ega⟩:∃g,g=gv+1:=⟨_,rfl⟩
    rw[<-egv] at hV hQ⊢;rw[<-ega] at hQ⊢;replace hE:=hE.step hb;clear hb
    generalize (W.alloc (.cells (x.Q G N cap) 80)).alloc (.cells (qf4 x.p.s x.p.A x.p.n x.p.c x.p.t x.p.B x.p.m x.p.d) 29)=W at*
    clear ega egv;go_wp2_with fail
    refine hK.out _ _ hE.here (fun hHeld=> ?_);clear hK K hHeld;try simp only[PL]
   |
    have hlt:=hA.lt;have blt:=hE.here.2.lt;have hb:=belAlloc W (.cells #[.nilFunc] 84)
    try replace hL:=Blk.stable _ _ _ _ _ hb hL
    try replace hV:=Blk.stable _ _ _ _ _ hb hV
    try replace hQ:=Blk.stable _ _ _ _ _ hb hQ
    try replace hA:=Blk.stable _ _ _ _ _ hb hA
    have hB:=Blk.new W 84 #[.nilFunc]
    obtain⟨gB,egB⟩:∃g,g=W.heap.size:=⟨_,rfl⟩
    rw[<-egB] at hlt blt hB⊢;replace hE:=hE.step hb;clear hb
    generalize W.alloc (.cells #[.nilFunc] 84)=W at*
    have nAB:gA≠gB:=by omega
    have nBA:gB≠gA:=by omega
    have bB:w.heap.size<gB:=blt;clear egB hlt blt;refine hK.out _ _ hE.here (fun hHeld=> ?_);clear hK K hHeld;try simp only[PL]
   |
    have blt:=hE.here.2.lt;have hb:=belAlloc W (.cells #[.nilFunc] 84)
    try replace hL:=Blk.stable _ _ _ _ _ hb hL
    try replace hV:=Blk.stable _ _ _ _ _ hb hV
    try replace hQ:=Blk.stable _ _ _ _ _ hb hQ
    try replace hB:=Blk.stable _ _ _ _ _ hb hB
    have hA:=Blk.new W 84 #[.nilFunc]
    obtain⟨gA,egA⟩:∃g,g=W.heap.size:=⟨_,rfl⟩
    rw[<-egA] at blt hA⊢;replace hE:=hE.step hb;clear hb
    generalize W.alloc (.cells #[.nilFunc] 84)=W at*
    have bA:w.heap.size<gA:=blt;clear egA blt;refine hK.out _ _ hE.here (fun hHeld=> ?_);clear hK K hHeld;try simp only[PL]
  have s9:True:=trivial
  rotate_left 1
  have s10:True:=trivial
  rotate_left 1
  have s9:True:=trivial
  rotate_left 1
  have s9:True:=trivial
  rotate_left 1
  have s10:True:=trivial
  rotate_left 1
  have s10:True:=trivial
  rotate_left 1
  have s9:True:=trivial
  rotate_left 1
  have s9:True:=trivial
  rotate_left 1
  have s9:True:=trivial
  rotate_left 1
  have s10:True:=trivial
  rotate_left 1
  have s10:True:=trivial
  rotate_left 1
  have s10:True:=trivial
  rotate_left 1
  all_goals refine r1 11 (fun K hK=> ?_)
  all_goals first
   |
    have _sx:=s9;have x0:=hA.c1;have f0:=hA.frozen 0;obtain⟨iE,iL,iV,iQ,iX,iY⟩:=net_st hE hL hV hQ hA hB bA nBA rfl (.func (.func 104) #[] #[.pointer (some ⟨gl,0,none⟩)]);go_simp;refine hK.out _ _ iE.here (fun hHeld=> ?_);clear hK K hHeld x0 f0 hE hL hV hQ hA hB _sx
    generalize W.setCell ⟨gA,0,none⟩ (.func (.func 104) #[] #[.pointer (some ⟨gl,0,none⟩)])=W at*
    have hE:=iE;have hL:=iL;have hV:=iV;have hQ:=iQ;have hA:=iX;have hB:=iY;clear iE iL iV iQ iX iY;try simp only[PL]
   |
    have _sx:=s10;have x0:=hB.c1;have f0:=hB.frozen 0;obtain⟨iE,iL,iV,iQ,iX,iY⟩:=net_st hE hL hV hQ hB hA bB nAB rfl (.func (.func 104) #[] #[.pointer (some ⟨gl,0,none⟩)]);go_simp;refine hK.out _ _ iE.here (fun hHeld=> ?_);clear hK K hHeld x0 f0 hE hL hV hQ hA hB _sx
    generalize W.setCell ⟨gB,0,none⟩ (.func (.func 104) #[] #[.pointer (some ⟨gl,0,none⟩)])=W at*
    have hE:=iE;have hL:=iL;have hV:=iV;have hQ:=iQ;have hB:=iX;have hA:=iY;clear iE iL iV iQ iX iY;try simp only[PL]
  all_goals refine r1 12 (fun K hK=> ?_)
  all_goals first
   |
    have _sx:=s10;have x0:=hA.c1;have f0:=hA.frozen 0;obtain⟨iE,iL,iV,iQ,iX,iY⟩:=net_st hE hL hV hQ hA hB bA nBA rfl (.func (.func 112) #[] #[.pointer (some ⟨gv,0,none⟩),.pointer (some ⟨ga,0,none⟩)]);go_simp;refine hK.out _ _ iE.here (fun hHeld=> ?_);clear hK K hHeld x0 f0 hE hL hV hQ hA hB _sx
    generalize W.setCell ⟨gA,0,none⟩ (.func (.func 112) #[] #[.pointer (some ⟨gv,0,none⟩),.pointer (some ⟨ga,0,none⟩)])=W at*
    have hE:=iE;have hL:=iL;have hV:=iV;have hQ:=iQ;have hA:=iX;have hB:=iY;clear iE iL iV iQ iX iY;try simp only[PL]
   |
    have _sx:=s9;have x0:=hB.c1;have f0:=hB.frozen 0;obtain⟨iE,iL,iV,iQ,iX,iY⟩:=net_st hE hL hV hQ hB hA bB nAB rfl (.func (.func 112) #[] #[.pointer (some ⟨gv,0,none⟩),.pointer (some ⟨ga,0,none⟩)]);go_simp;refine hK.out _ _ iE.here (fun hHeld=> ?_);clear hK K hHeld x0 f0 hE hL hV hQ hA hB _sx
    generalize W.setCell ⟨gB,0,none⟩ (.func (.func 112) #[] #[.pointer (some ⟨gv,0,none⟩),.pointer (some ⟨ga,0,none⟩)])=W at*
    have hE:=iE;have hL:=iL;have hV:=iV;have hQ:=iQ;have hB:=iX;have hA:=iY;clear iE iL iV iQ iX iY;try simp only[PL]
  all_goals refine wpAnyH_done (by kernel_rfl) ?_ _
  all_goals go_wp2_with fail
  all_goals go_meet
  all_goals first
   |exact⟨gl,gv,ga,gA,gB,rfl,rfl,⟨bA,bB⟩,((((hE.blkI hL).blkI hV).blkI hQ).blkI hA).blkI hB⟩
   |exact⟨gl,gv,ga,gB,gA,rfl,rfl,⟨bB,bA⟩,((((hE.blkI hL).blkI hV).blkI hQ).blkI hB).blkI hA⟩
 case rest=>
 clear hE;obtain⟨gl,gv,ga,G3,G4,rfl,rfl,⟨b3,b4⟩,hE⟩:=hcut;go_wp2_with fail
 go_ret
 exact⟨gl,gv,ga,G3,G4,rfl,b3,b4,⟨hE.h4,hE.h3,hE.h2,hE.here.1.2,hE.here.2⟩,hE.bel⟩
theorem pay_net {x:Ct}{G N cap gl gv ga G3 G4:Nat}{w:World}(hN:NetC x G N cap gl gv ga G3 G4 w)(hq:FV w x.p.q x.p.s x.p.A x.p.n x.p.t x.p.B x.p.m)(hT:0<=x.T)(hl:RdI x.A x.n x.l w)(hlb:∀k,k<x.n->-9223372036854775808<=x.l k/\x.l k<=9223372036854775807)(M:Nat)(hM:M<=9223372036854775807)(h1:∀k,k<=M->fl (amt x.l x.n k)<=256)(h2:∀k,k<=M->fl (pay x.T.toNat x.p.q k)<=256)(h3:∀k,k<=M->fl (amt x.l x.n k-pay x.T.toNat x.p.q k)<=256):
  PayC (.func (.func 103) #[] #[.pointer (some ⟨G3,0,none⟩),.pointer (some ⟨G4,0,none⟩)]) (fun k=>amt x.l x.n k-pay x.T.toNat x.p.q k) M w:=by
 obtain⟨hL,hV,hQ,hA,hB⟩:=hN;have hp1:=pay_listed (N:=M) hL hl hlb hM;have hp2:=pay_prem (M:=M) hV hT hq hQ;exact⟨_,_,rfl,enters_of Tryz.func103 (by kernel_rfl) rfl,fun W hW k hk=>vnet1_v (At.stable _ _ _ _ _ hW (At.of_blk hA 0 rfl)) (At.stable _ _ _ _ _ hW (At.of_blk hB 0 rfl)) (hp1.below hW) (hp2.below hW) k hk (h1 k hk) (h2 k hk) (h3 k hk)⟩
theorem vnet_v {x:Ct}{G N cap:Nat}{w:World}(hq:FV w x.p.q x.p.s x.p.A x.p.n x.p.t x.p.B x.p.m)(hT:0<=x.T)(hl:RdI x.A x.n x.l w)(hlb:∀k,k<x.n->-9223372036854775808<=x.l k/\x.l k<=9223372036854775807)(M:Nat)(hM:M<=9223372036854775807)(h1:∀k,k<=M->fl (amt x.l x.n k)<=256)(h2:∀k,k<=M->fl (pay x.T.toNat x.p.q k)<=256)(h3:∀k,k<=M->fl (amt x.l x.n k-pay x.T.toNat x.p.q k)<=256):
  Calls Tryz.prog 53 #[.agg (x.Q G N cap)] w (PayR (fun k=>amt x.l x.n k-pay x.T.toNat x.p.q k) M w):=
 (vnet_c hq).mono fun _ _ ⟨_,_,_,_,_,he,_,_,hN,hb⟩=>⟨_,he,pay_net hN (hq.below hb) hT (hl.below hb) hlb M hM h1 h2 h3,hb⟩
end Go.Proofs.YtclbiihcbfnjmaaGreat
