/-
  Parts.
-/
import Derived.Laws.EntriesVeiled
import Derived.Test.YtclbiihcbfnjmaaGreatK21
set_option linter.unusedSimpArgs false
set_option maxRecDepth 100000
set_option maxHeartbeats 8000000
namespace Go.Proofs.YtclbiihcbfnjmaaGreat
open Go.RowKit

theorem zI {x:Ct}{G N cap gl gv ga gX gY:Nat}{w W:World}{c d:Value}(hE:Env w (fun V=>((True/\FV V x.p.q x.p.s x.p.A x.p.n x.p.t x.p.B x.p.m)/\ak 80 w.heap.size (x.Q G N cap) V)) W)(hL:ak 34 gl #[.slice x.A x.n x.c] W)(hV:ak 80 gv (x.Q G N cap) W)(hQ:ak 29 ga (az x.p.s x.p.A x.p.n x.p.c x.p.t x.p.B x.p.m x.p.d) W)(hX:ak 84 gX #[c] W)(hY:ak 84 gY #[d] W)(bX:w.heap.size<gX)(ne:gY≠gX)(hc:aJ c=true)(v:Value):
  Env w (fun V=>((True/\FV V x.p.q x.p.s x.p.A x.p.n x.p.t x.p.B x.p.m)/\ak 80 w.heap.size (x.Q G N cap) V)) (W.setCell ⟨gX,0,none⟩ v)/\ak 34 gl #[.slice x.A x.n x.c] (W.setCell ⟨gX,0,none⟩ v)/\ak 80 gv (x.Q G N cap) (W.setCell ⟨gX,0,none⟩ v)/\ak 29 ga (az x.p.s x.p.A x.p.n x.p.c x.p.t x.p.B x.p.m x.p.d) (W.setCell ⟨gX,0,none⟩ v)/\ak 84 gX #[v] (W.setCell ⟨gX,0,none⟩ v)/\ak 84 gY #[d] (W.setCell ⟨gX,0,none⟩ v):=
 ⟨((Env.again (hE.av.setCell (p:=⟨gX,0,none⟩) (Nat.le_of_lt bX) v)).fv (hE.here.1.2.sep (i:=0) hX (by simp[hc]) v)).af (hE.here.2.far (p:=⟨gX,0,none⟩) (by show w.heap.size≠gX;omega) v),
  hL.far (p:=⟨gX,0,none⟩) (hL.ne hX (by decide)) v,hV.far (p:=⟨gX,0,none⟩) (hV.ne hX (by decide)) v,hQ.far (p:=⟨gX,0,none⟩) (hQ.ne hX (by decide)) v,by simpa using hX.bW 0 v,hY.far (p:=⟨gX,0,none⟩) ne v⟩
def ahK (x:Ct)(G N cap gl gv ga G3 G4:Nat)(W:World):Prop:=ak 34 gl #[.slice x.A x.n x.c] W/\ak 80 gv (x.Q G N cap) W/\ak 29 ga (az x.p.s x.p.A x.p.n x.p.c x.p.t x.p.B x.p.m x.p.d) W/\ak 84 G3 #[.func (.func 104) #[] #[.pointer (some ⟨gl,0,none⟩)]] W/\ak 84 G4 #[.func (.func 112) #[] #[.pointer (some ⟨gv,0,none⟩),.pointer (some ⟨ga,0,none⟩)]] W
def aot (x:Ct)(G N cap:Nat)(w:World)(e:Ending)(w':World):Prop:=∃gl gv ga G3 G4,e= .returned (.func (.func 103) #[] #[.pointer (some ⟨G3,0,none⟩),.pointer (some ⟨G4,0,none⟩)])/\w.heap.size<G3/\w.heap.size<G4/\ahK x G N cap gl gv ga G3 G4 w'/\Below w.heap.size w w'
theorem abH {x:Ct}{G N cap:Nat}{w:World}(hq:FV w x.p.q x.p.s x.p.A x.p.n x.p.t x.p.B x.p.m):
  Calls Tryz.prog 53 #[.agg (x.Q G N cap)] w (aot x G N cap w):=by
 have hE:=((Env.start w).fv hq).blk 80 (x.Q G N cap) (g:=w.heap.size) rfl
 obtain⟨W0,aC⟩:∃W0,W0=w.alloc (.cells (x.Q G N cap) 80):=⟨_,rfl⟩
 rw[<-aC] at hE;have aU:=Lib.hid aC;clear aC
 go_enter Tryz.func53,Tryz.ntmps53
 go_upto_region 1 with(fail)
 rw[<-aU.out]
 go_cut [3,4] from 5 to 14 (fun p q wx=>∃gl gv ga G3 G4,p= .pointer (some ⟨G3,0,none⟩)/\q= .pointer (some ⟨G4,0,none⟩)/\(w.heap.size<G3/\w.heap.size<G4)/\Env w (fun V=>(((((((True/\FV V x.p.q x.p.s x.p.A x.p.n x.p.t x.p.B x.p.m)/\ak 80 w.heap.size (x.Q G N cap) V)/\ak 34 gl #[.slice x.A x.n x.c] V)/\ak 80 gv (x.Q G N cap) V)/\ak 29 ga (az x.p.s x.p.A x.p.n x.p.c x.p.t x.p.B x.p.m x.p.d) V)/\ak 84 G3 #[.func (.func 104) #[] #[.pointer (some ⟨gl,0,none⟩)]] V)/\ak 84 G4 #[.func (.func 112) #[] #[.pointer (some ⟨gv,0,none⟩),.pointer (some ⟨ga,0,none⟩)]] V)) wx)
 case first=>
  replace hE:=hE.drew;refine wp_region_held_drew (S:=fun V=>((True/\FV V x.p.q x.p.s x.p.A x.p.n x.p.t x.p.B x.p.m)/\ak 80 w.heap.size (x.Q G N cap) V)) (by kernel_rfl) hE.here (fun hHeld=> ?_);clear aU;generalize W0.drew=W at hE hHeld⊢
  refine tk 0 ?_ (hy:=by
   intro w ay;clear ay
   first|(go_simp;done)|(go_simp;with_reducible rfl))
  try simp only[PL]
  refine tk 1 ?_ (hy:=by
   intro w ay;clear ay
   first|(go_simp;done)|(go_simp;with_reducible rfl))
  try simp only[PL]
  refine tk 2 ?_ (hy:=by
   intro w ay;have k7:=ay.2.cell 7;clear ay
   first|(go_simp;done)|(go_simp;with_reducible rfl))
  try simp only[PL]
  refine tk 4 ?_ (hy:=by
   intro w ay;have k0:=ay.2.cell 0;have k1:=ay.2.cell 1;have k2:=ay.2.cell 2;have k3:=ay.2.cell 3;have k4:=ay.2.cell 4;have k5:=ay.2.cell 5;have k6:=ay.2.cell 6;have k7:=ay.2.cell 7;have k8:=ay.2.cell 8;have k9:=ay.2.cell 9;clear ay
   first|(go_simp;done)|(go_simp;with_reducible rfl))
  try simp only[PL]
  refine tk 5 ?_ (hy:=by
   intro w ay;clear ay
   first|(go_simp;done)|(go_simp;with_reducible rfl))
  try simp only[PL]
  refine tk 6 ?_ (hy:=by
   intro w ay;clear ay
   first|(go_simp;done)|(go_simp;with_reducible rfl))
  try simp only[PL]
  refine tk 7 ?_ (hy:=by
   intro w ay;have k3:=ay.2.cell 3;have k4:=ay.2.cell 4;have k5:=ay.2.cell 5;have k6:=ay.2.cell 6;clear ay
   first|(go_simp;done)|(go_simp;with_reducible rfl))
  try simp only[PL]
  refine wpAnyH_ready (rs:=[3,9,10]) (by kernel_rfl) (by simp) (AllReadyH.cons rfl (fun K hK=> ?_) (AllReadyH.cons rfl (fun K hK=> ?_) (AllReadyH.cons rfl (fun K hK=> ?_) (AllReadyH.nil))))
  all_goals go_simp
  all_goals first
   |
    go_at_call 54
    refine(kC _ _ _ _).mono ?_
    rintro e _ ⟨rfl,rfl⟩
    have hb:=cU W (.cells #[.slice x.A x.n x.c] 34)
    try replace hV:=ak.stable _ _ _ _ _ hb hV
    try replace hQ:=ak.stable _ _ _ _ _ hb hQ
    try replace hA:=ak.stable _ _ _ _ _ hb hA
    try replace hB:=ak.stable _ _ _ _ _ hb hB
    have hL:=ak.new W 34 #[.slice x.A x.n x.c]
    obtain⟨gl,Qy⟩:∃g,g=W.heap.size:=⟨_,rfl⟩
    rw[<-Qy] at hL⊢;replace hE:=hE.step hb;clear hb
    generalize W.alloc (.cells #[.slice x.A x.n x.c] 34)=W at*
    clear Qy;go_wp2_with fail
    refine hK.out _ _ hE.here (fun hHeld=> ?_);clear hK K hHeld;try simp only[PL]
   |
    go_at_call 70
    refine(tA x G N cap _ _ _ _ _ _ _ _ _).mono ?_
    rintro e _ ⟨rfl,rfl⟩
    obtain⟨hb,hV,hQ⟩:=sZ W 80 (x.Q G N cap) 29 (az x.p.s x.p.A x.p.n x.p.c x.p.t x.p.B x.p.m x.p.d)
    try replace hL:=ak.stable _ _ _ _ _ hb hL
    try replace hA:=ak.stable _ _ _ _ _ hb hA
    try replace hB:=ak.stable _ _ _ _ _ hb hB
    obtain⟨gv,Qz⟩:∃g,g=W.heap.size:=⟨_,rfl⟩
    obtain⟨ga,QA⟩:∃g,g=gv+1:=⟨_,rfl⟩
    rw[<-Qz] at hV hQ⊢;rw[<-QA] at hQ⊢;replace hE:=hE.step hb;clear hb
    generalize (W.alloc (.cells (x.Q G N cap) 80)).alloc (.cells (az x.p.s x.p.A x.p.n x.p.c x.p.t x.p.B x.p.m x.p.d) 29)=W at*
    clear QA Qz;go_wp2_with fail
    refine hK.out _ _ hE.here (fun hHeld=> ?_);clear hK K hHeld;try simp only[PL]
   |
    have hlt:=hA.lt;have blt:=hE.here.2.lt;have hb:=cU W (.cells #[.nilFunc] 84)
    try replace hL:=ak.stable _ _ _ _ _ hb hL
    try replace hV:=ak.stable _ _ _ _ _ hb hV
    try replace hQ:=ak.stable _ _ _ _ _ hb hQ
    try replace hA:=ak.stable _ _ _ _ _ hb hA
    have hB:=ak.new W 84 #[.nilFunc]
    obtain⟨gB,QB⟩:∃g,g=W.heap.size:=⟨_,rfl⟩
    rw[<-QB] at hlt blt hB⊢;replace hE:=hE.step hb;clear hb
    generalize W.alloc (.cells #[.nilFunc] 84)=W at*
    have nAB:gA≠gB:=by omega
    have nBA:gB≠gA:=by omega
    have bB:w.heap.size<gB:=blt;clear QB hlt blt;refine hK.out _ _ hE.here (fun hHeld=> ?_);clear hK K hHeld;try simp only[PL]
   |
    have blt:=hE.here.2.lt;have hb:=cU W (.cells #[.nilFunc] 84)
    try replace hL:=ak.stable _ _ _ _ _ hb hL
    try replace hV:=ak.stable _ _ _ _ _ hb hV
    try replace hQ:=ak.stable _ _ _ _ _ hb hQ
    try replace hB:=ak.stable _ _ _ _ _ hb hB
    have hA:=ak.new W 84 #[.nilFunc]
    obtain⟨gA,QC⟩:∃g,g=W.heap.size:=⟨_,rfl⟩
    rw[<-QC] at blt hA⊢;replace hE:=hE.step hb;clear hb
    generalize W.alloc (.cells #[.nilFunc] 84)=W at*
    have bA:w.heap.size<gA:=blt;clear QC blt;refine hK.out _ _ hE.here (fun hHeld=> ?_);clear hK K hHeld;try simp only[PL]
  refine wpAnyH_ready (rs:=[8,9,10]) (by kernel_rfl) (by simp) (AllReadyH.cons rfl (fun K hK=> ?_) (AllReadyH.cons rfl (fun K hK=> ?_) (AllReadyH.cons rfl (fun K hK=> ?_) (AllReadyH.nil))))
  rotate_left 3
  refine wpAnyH_ready (rs:=[3,10]) (by kernel_rfl) (by simp) (AllReadyH.cons rfl (fun K hK=> ?_) (AllReadyH.cons rfl (fun K hK=> ?_) (AllReadyH.nil)))
  rotate_left 2
  refine wpAnyH_ready (rs:=[3,9]) (by kernel_rfl) (by simp) (AllReadyH.cons rfl (fun K hK=> ?_) (AllReadyH.cons rfl (fun K hK=> ?_) (AllReadyH.nil)))
  rotate_left 2
  all_goals go_simp
  all_goals first
   |
    go_at_call 54
    refine(kC _ _ _ _).mono ?_
    rintro e _ ⟨rfl,rfl⟩
    have hb:=cU W (.cells #[.slice x.A x.n x.c] 34)
    try replace hV:=ak.stable _ _ _ _ _ hb hV
    try replace hQ:=ak.stable _ _ _ _ _ hb hQ
    try replace hA:=ak.stable _ _ _ _ _ hb hA
    try replace hB:=ak.stable _ _ _ _ _ hb hB
    have hL:=ak.new W 34 #[.slice x.A x.n x.c]
    obtain⟨gl,Qy⟩:∃g,g=W.heap.size:=⟨_,rfl⟩
    rw[<-Qy] at hL⊢;replace hE:=hE.step hb;clear hb
    generalize W.alloc (.cells #[.slice x.A x.n x.c] 34)=W at*
    clear Qy;go_wp2_with fail
    refine hK.out _ _ hE.here (fun hHeld=> ?_);clear hK K hHeld;try simp only[PL]
   |
    go_at_call 70
    refine(tA x G N cap _ _ _ _ _ _ _ _ _).mono ?_
    rintro e _ ⟨rfl,rfl⟩
    obtain⟨hb,hV,hQ⟩:=sZ W 80 (x.Q G N cap) 29 (az x.p.s x.p.A x.p.n x.p.c x.p.t x.p.B x.p.m x.p.d)
    try replace hL:=ak.stable _ _ _ _ _ hb hL
    try replace hA:=ak.stable _ _ _ _ _ hb hA
    try replace hB:=ak.stable _ _ _ _ _ hb hB
    obtain⟨gv,Qz⟩:∃g,g=W.heap.size:=⟨_,rfl⟩
    obtain⟨ga,QA⟩:∃g,g=gv+1:=⟨_,rfl⟩
    rw[<-Qz] at hV hQ⊢;rw[<-QA] at hQ⊢;replace hE:=hE.step hb;clear hb
    generalize (W.alloc (.cells (x.Q G N cap) 80)).alloc (.cells (az x.p.s x.p.A x.p.n x.p.c x.p.t x.p.B x.p.m x.p.d) 29)=W at*
    clear QA Qz;go_wp2_with fail
    refine hK.out _ _ hE.here (fun hHeld=> ?_);clear hK K hHeld;try simp only[PL]
   |
    have hlt:=hA.lt;have blt:=hE.here.2.lt;have hb:=cU W (.cells #[.nilFunc] 84)
    try replace hL:=ak.stable _ _ _ _ _ hb hL
    try replace hV:=ak.stable _ _ _ _ _ hb hV
    try replace hQ:=ak.stable _ _ _ _ _ hb hQ
    try replace hA:=ak.stable _ _ _ _ _ hb hA
    have hB:=ak.new W 84 #[.nilFunc]
    obtain⟨gB,QB⟩:∃g,g=W.heap.size:=⟨_,rfl⟩
    rw[<-QB] at hlt blt hB⊢;replace hE:=hE.step hb;clear hb
    generalize W.alloc (.cells #[.nilFunc] 84)=W at*
    have nAB:gA≠gB:=by omega
    have nBA:gB≠gA:=by omega
    have bB:w.heap.size<gB:=blt;clear QB hlt blt;refine hK.out _ _ hE.here (fun hHeld=> ?_);clear hK K hHeld;try simp only[PL]
   |
    have blt:=hE.here.2.lt;have hb:=cU W (.cells #[.nilFunc] 84)
    try replace hL:=ak.stable _ _ _ _ _ hb hL
    try replace hV:=ak.stable _ _ _ _ _ hb hV
    try replace hQ:=ak.stable _ _ _ _ _ hb hQ
    try replace hB:=ak.stable _ _ _ _ _ hb hB
    have hA:=ak.new W 84 #[.nilFunc]
    obtain⟨gA,QC⟩:∃g,g=W.heap.size:=⟨_,rfl⟩
    rw[<-QC] at blt hA⊢;replace hE:=hE.step hb;clear hb
    generalize W.alloc (.cells #[.nilFunc] 84)=W at*
    have bA:w.heap.size<gA:=blt;clear QC blt;refine hK.out _ _ hE.here (fun hHeld=> ?_);clear hK K hHeld;try simp only[PL]
  refine wpAnyH_ready (rs:=[9,10]) (by kernel_rfl) (by simp) (AllReadyH.cons rfl (fun K hK=> ?_) (AllReadyH.cons rfl (fun K hK=> ?_) (AllReadyH.nil)))
  rotate_left 2
  refine wpAnyH_ready (rs:=[8,10]) (by kernel_rfl) (by simp) (AllReadyH.cons rfl (fun K hK=> ?_) (AllReadyH.cons rfl (fun K hK=> ?_) (AllReadyH.nil)))
  rotate_left 2
  refine wpAnyH_ready (rs:=[8,9]) (by kernel_rfl) (by simp) (AllReadyH.cons rfl (fun K hK=> ?_) (AllReadyH.cons rfl (fun K hK=> ?_) (AllReadyH.nil)))
  rotate_left 2
  refine wpAnyH_ready (rs:=[8,10]) (by kernel_rfl) (by simp) (AllReadyH.cons rfl (fun K hK=> ?_) (AllReadyH.cons rfl (fun K hK=> ?_) (AllReadyH.nil)))
  rotate_left 2
  refine r1 3 (fun K hK=> ?_)
  rotate_left 1
  refine wpAnyH_ready (rs:=[8,9]) (by kernel_rfl) (by simp) (AllReadyH.cons rfl (fun K hK=> ?_) (AllReadyH.cons rfl (fun K hK=> ?_) (AllReadyH.nil)))
  rotate_left 2
  refine r1 3 (fun K hK=> ?_)
  rotate_left 1
  all_goals go_simp
  all_goals first
   |
    go_at_call 54
    refine(kC _ _ _ _).mono ?_
    rintro e _ ⟨rfl,rfl⟩
    have hb:=cU W (.cells #[.slice x.A x.n x.c] 34)
    try replace hV:=ak.stable _ _ _ _ _ hb hV
    try replace hQ:=ak.stable _ _ _ _ _ hb hQ
    try replace hA:=ak.stable _ _ _ _ _ hb hA
    try replace hB:=ak.stable _ _ _ _ _ hb hB
    have hL:=ak.new W 34 #[.slice x.A x.n x.c]
    obtain⟨gl,Qy⟩:∃g,g=W.heap.size:=⟨_,rfl⟩
    rw[<-Qy] at hL⊢;replace hE:=hE.step hb;clear hb
    generalize W.alloc (.cells #[.slice x.A x.n x.c] 34)=W at*
    clear Qy;go_wp2_with fail
    refine hK.out _ _ hE.here (fun hHeld=> ?_);clear hK K hHeld;try simp only[PL]
   |
    go_at_call 70
    refine(tA x G N cap _ _ _ _ _ _ _ _ _).mono ?_
    rintro e _ ⟨rfl,rfl⟩
    obtain⟨hb,hV,hQ⟩:=sZ W 80 (x.Q G N cap) 29 (az x.p.s x.p.A x.p.n x.p.c x.p.t x.p.B x.p.m x.p.d)
    try replace hL:=ak.stable _ _ _ _ _ hb hL
    try replace hA:=ak.stable _ _ _ _ _ hb hA
    try replace hB:=ak.stable _ _ _ _ _ hb hB
    obtain⟨gv,Qz⟩:∃g,g=W.heap.size:=⟨_,rfl⟩
    obtain⟨ga,QA⟩:∃g,g=gv+1:=⟨_,rfl⟩
    rw[<-Qz] at hV hQ⊢;rw[<-QA] at hQ⊢;replace hE:=hE.step hb;clear hb
    generalize (W.alloc (.cells (x.Q G N cap) 80)).alloc (.cells (az x.p.s x.p.A x.p.n x.p.c x.p.t x.p.B x.p.m x.p.d) 29)=W at*
    clear QA Qz;go_wp2_with fail
    refine hK.out _ _ hE.here (fun hHeld=> ?_);clear hK K hHeld;try simp only[PL]
   |
    have hlt:=hA.lt;have blt:=hE.here.2.lt;have hb:=cU W (.cells #[.nilFunc] 84)
    try replace hL:=ak.stable _ _ _ _ _ hb hL
    try replace hV:=ak.stable _ _ _ _ _ hb hV
    try replace hQ:=ak.stable _ _ _ _ _ hb hQ
    try replace hA:=ak.stable _ _ _ _ _ hb hA
    have hB:=ak.new W 84 #[.nilFunc]
    obtain⟨gB,QB⟩:∃g,g=W.heap.size:=⟨_,rfl⟩
    rw[<-QB] at hlt blt hB⊢;replace hE:=hE.step hb;clear hb
    generalize W.alloc (.cells #[.nilFunc] 84)=W at*
    have nAB:gA≠gB:=by omega
    have nBA:gB≠gA:=by omega
    have bB:w.heap.size<gB:=blt;clear QB hlt blt;refine hK.out _ _ hE.here (fun hHeld=> ?_);clear hK K hHeld;try simp only[PL]
   |
    have blt:=hE.here.2.lt;have hb:=cU W (.cells #[.nilFunc] 84)
    try replace hL:=ak.stable _ _ _ _ _ hb hL
    try replace hV:=ak.stable _ _ _ _ _ hb hV
    try replace hQ:=ak.stable _ _ _ _ _ hb hQ
    try replace hB:=ak.stable _ _ _ _ _ hb hB
    have hA:=ak.new W 84 #[.nilFunc]
    obtain⟨gA,QC⟩:∃g,g=W.heap.size:=⟨_,rfl⟩
    rw[<-QC] at blt hA⊢;replace hE:=hE.step hb;clear hb
    generalize W.alloc (.cells #[.nilFunc] 84)=W at*
    have bA:w.heap.size<gA:=blt;clear QC blt;refine hK.out _ _ hE.here (fun hHeld=> ?_);clear hK K hHeld;try simp only[PL]
  refine r1 10 (fun K hK=> ?_)
  rotate_left 1
  refine r1 9 (fun K hK=> ?_)
  rotate_left 1
  refine r1 10 (fun K hK=> ?_)
  rotate_left 1
  refine r1 8 (fun K hK=> ?_)
  rotate_left 1
  refine r1 9 (fun K hK=> ?_)
  rotate_left 1
  refine r1 8 (fun K hK=> ?_)
  rotate_left 1
  refine r1 10 (fun K hK=> ?_)
  rotate_left 1
  refine r1 8 (fun K hK=> ?_)
  rotate_left 1
  refine r1 8 (fun K hK=> ?_)
  rotate_left 1
  refine r1 9 (fun K hK=> ?_)
  rotate_left 1
  refine r1 8 (fun K hK=> ?_)
  rotate_left 1
  refine r1 8 (fun K hK=> ?_)
  rotate_left 1
  all_goals go_simp
  all_goals first
   |
    go_at_call 54
    refine(kC _ _ _ _).mono ?_
    rintro e _ ⟨rfl,rfl⟩
    have hb:=cU W (.cells #[.slice x.A x.n x.c] 34)
    try replace hV:=ak.stable _ _ _ _ _ hb hV
    try replace hQ:=ak.stable _ _ _ _ _ hb hQ
    try replace hA:=ak.stable _ _ _ _ _ hb hA
    try replace hB:=ak.stable _ _ _ _ _ hb hB
    have hL:=ak.new W 34 #[.slice x.A x.n x.c]
    obtain⟨gl,Qy⟩:∃g,g=W.heap.size:=⟨_,rfl⟩
    rw[<-Qy] at hL⊢;replace hE:=hE.step hb;clear hb
    generalize W.alloc (.cells #[.slice x.A x.n x.c] 34)=W at*
    clear Qy;go_wp2_with fail
    refine hK.out _ _ hE.here (fun hHeld=> ?_);clear hK K hHeld;try simp only[PL]
   |
    go_at_call 70
    refine(tA x G N cap _ _ _ _ _ _ _ _ _).mono ?_
    rintro e _ ⟨rfl,rfl⟩
    obtain⟨hb,hV,hQ⟩:=sZ W 80 (x.Q G N cap) 29 (az x.p.s x.p.A x.p.n x.p.c x.p.t x.p.B x.p.m x.p.d)
    try replace hL:=ak.stable _ _ _ _ _ hb hL
    try replace hA:=ak.stable _ _ _ _ _ hb hA
    try replace hB:=ak.stable _ _ _ _ _ hb hB
    obtain⟨gv,Qz⟩:∃g,g=W.heap.size:=⟨_,rfl⟩
    obtain⟨ga,QA⟩:∃g,g=gv+1:=⟨_,rfl⟩
    rw[<-Qz] at hV hQ⊢;rw[<-QA] at hQ⊢;replace hE:=hE.step hb;clear hb
    generalize (W.alloc (.cells (x.Q G N cap) 80)).alloc (.cells (az x.p.s x.p.A x.p.n x.p.c x.p.t x.p.B x.p.m x.p.d) 29)=W at*
    clear QA Qz;go_wp2_with fail
    refine hK.out _ _ hE.here (fun hHeld=> ?_);clear hK K hHeld;try simp only[PL]
   |
    have hlt:=hA.lt;have blt:=hE.here.2.lt;have hb:=cU W (.cells #[.nilFunc] 84)
    try replace hL:=ak.stable _ _ _ _ _ hb hL
    try replace hV:=ak.stable _ _ _ _ _ hb hV
    try replace hQ:=ak.stable _ _ _ _ _ hb hQ
    try replace hA:=ak.stable _ _ _ _ _ hb hA
    have hB:=ak.new W 84 #[.nilFunc]
    obtain⟨gB,QB⟩:∃g,g=W.heap.size:=⟨_,rfl⟩
    rw[<-QB] at hlt blt hB⊢;replace hE:=hE.step hb;clear hb
    generalize W.alloc (.cells #[.nilFunc] 84)=W at*
    have nAB:gA≠gB:=by omega
    have nBA:gB≠gA:=by omega
    have bB:w.heap.size<gB:=blt;clear QB hlt blt;refine hK.out _ _ hE.here (fun hHeld=> ?_);clear hK K hHeld;try simp only[PL]
   |
    have blt:=hE.here.2.lt;have hb:=cU W (.cells #[.nilFunc] 84)
    try replace hL:=ak.stable _ _ _ _ _ hb hL
    try replace hV:=ak.stable _ _ _ _ _ hb hV
    try replace hQ:=ak.stable _ _ _ _ _ hb hQ
    try replace hB:=ak.stable _ _ _ _ _ hb hB
    have hA:=ak.new W 84 #[.nilFunc]
    obtain⟨gA,QC⟩:∃g,g=W.heap.size:=⟨_,rfl⟩
    rw[<-QC] at blt hA⊢;replace hE:=hE.step hb;clear hb
    generalize W.alloc (.cells #[.nilFunc] 84)=W at*
    have bA:w.heap.size<gA:=blt;clear QC blt;refine hK.out _ _ hE.here (fun hHeld=> ?_);clear hK K hHeld;try simp only[PL]
  have s9:True:=trivial
  rotate_left 1
  have s10:True:=trivial
  rotate_left 1
  have s9:True:=trivial
  rotate_left 1
  have s9:True:=trivial
  rotate_left 1
  have s10:True:=trivial
  rotate_left 1
  have s10:True:=trivial
  rotate_left 1
  have s9:True:=trivial
  rotate_left 1
  have s9:True:=trivial
  rotate_left 1
  have s9:True:=trivial
  rotate_left 1
  have s10:True:=trivial
  rotate_left 1
  have s10:True:=trivial
  rotate_left 1
  have s10:True:=trivial
  rotate_left 1
  all_goals refine r1 11 (fun K hK=> ?_)
  all_goals first
   |
    have _sx:=s9;have x0:=hA.c1;have f0:=hA.frozen 0;obtain⟨iE,iL,iV,iQ,iX,iY⟩:=zI hE hL hV hQ hA hB bA nBA rfl (.func (.func 104) #[] #[.pointer (some ⟨gl,0,none⟩)]);go_simp;refine hK.out _ _ iE.here (fun hHeld=> ?_);clear hK K hHeld x0 f0 hE hL hV hQ hA hB _sx
    generalize W.setCell ⟨gA,0,none⟩ (.func (.func 104) #[] #[.pointer (some ⟨gl,0,none⟩)])=W at*
    have hE:=iE;have hL:=iL;have hV:=iV;have hQ:=iQ;have hA:=iX;have hB:=iY;clear iE iL iV iQ iX iY;try simp only[PL]
   |
    have _sx:=s10;have x0:=hB.c1;have f0:=hB.frozen 0;obtain⟨iE,iL,iV,iQ,iX,iY⟩:=zI hE hL hV hQ hB hA bB nAB rfl (.func (.func 104) #[] #[.pointer (some ⟨gl,0,none⟩)]);go_simp;refine hK.out _ _ iE.here (fun hHeld=> ?_);clear hK K hHeld x0 f0 hE hL hV hQ hA hB _sx
    generalize W.setCell ⟨gB,0,none⟩ (.func (.func 104) #[] #[.pointer (some ⟨gl,0,none⟩)])=W at*
    have hE:=iE;have hL:=iL;have hV:=iV;have hQ:=iQ;have hB:=iX;have hA:=iY;clear iE iL iV iQ iX iY;try simp only[PL]
  all_goals refine r1 12 (fun K hK=> ?_)
  all_goals first
   |
    have _sx:=s10;have x0:=hA.c1;have f0:=hA.frozen 0;obtain⟨iE,iL,iV,iQ,iX,iY⟩:=zI hE hL hV hQ hA hB bA nBA rfl (.func (.func 112) #[] #[.pointer (some ⟨gv,0,none⟩),.pointer (some ⟨ga,0,none⟩)]);go_simp;refine hK.out _ _ iE.here (fun hHeld=> ?_);clear hK K hHeld x0 f0 hE hL hV hQ hA hB _sx
    generalize W.setCell ⟨gA,0,none⟩ (.func (.func 112) #[] #[.pointer (some ⟨gv,0,none⟩),.pointer (some ⟨ga,0,none⟩)])=W at*
    have hE:=iE;have hL:=iL;have hV:=iV;have hQ:=iQ;have hA:=iX;have hB:=iY;clear iE iL iV iQ iX iY;try simp only[PL]
   |
    have _sx:=s9;have x0:=hB.c1;have f0:=hB.frozen 0;obtain⟨iE,iL,iV,iQ,iX,iY⟩:=zI hE hL hV hQ hB hA bB nAB rfl (.func (.func 112) #[] #[.pointer (some ⟨gv,0,none⟩),.pointer (some ⟨ga,0,none⟩)]);go_simp;refine hK.out _ _ iE.here (fun hHeld=> ?_);clear hK K hHeld x0 f0 hE hL hV hQ hA hB _sx
    generalize W.setCell ⟨gB,0,none⟩ (.func (.func 112) #[] #[.pointer (some ⟨gv,0,none⟩),.pointer (some ⟨ga,0,none⟩)])=W at*
    have hE:=iE;have hL:=iL;have hV:=iV;have hQ:=iQ;have hB:=iX;have hA:=iY;clear iE iL iV iQ iX iY;try simp only[PL]
  all_goals refine wpAnyH_done (by kernel_rfl) ?_ _
  all_goals go_wp2_with fail
  all_goals go_meet
  all_goals first
   |exact⟨gl,gv,ga,gA,gB,rfl,rfl,⟨bA,bB⟩,((((hE.af hL).af hV).af hQ).af hA).af hB⟩
   |exact⟨gl,gv,ga,gB,gA,rfl,rfl,⟨bB,bA⟩,((((hE.af hL).af hV).af hQ).af hB).af hA⟩
 case rest=>
 clear hE;obtain⟨gl,gv,ga,G3,G4,rfl,rfl,⟨b3,b4⟩,hE⟩:=hcut;go_wp2_with fail
 go_ret
 exact⟨gl,gv,ga,G3,G4,rfl,b3,b4,⟨hE.h4,hE.h3,hE.h2,hE.here.1.2,hE.here.2⟩,hE.av⟩
theorem VF {x:Ct}{G N cap gl gv ga G3 G4:Nat}{w:World}(hN:ahK x G N cap gl gv ga G3 G4 w)(hq:FV w x.p.q x.p.s x.p.A x.p.n x.p.t x.p.B x.p.m)(hT:0<=x.T)(hl:pZ x.A x.n x.l w)(hlb:∀k,k<x.n->-9223372036854775808<=x.l k/\x.l k<=9223372036854775807)(M:Nat)(hM:M<=9223372036854775807)(h1:∀k,k<=M->fl (jR x.l x.n k)<=256)(h2:∀k,k<=M->fl (mU x.T.toNat x.p.q k)<=256)(h3:∀k,k<=M->fl (jR x.l x.n k-mU x.T.toNat x.p.q k)<=256):
  jQ (.func (.func 103) #[] #[.pointer (some ⟨G3,0,none⟩),.pointer (some ⟨G4,0,none⟩)]) (fun k=>jR x.l x.n k-mU x.T.toNat x.p.q k) M w:=by
 obtain⟨hL,hV,hQ,hA,hB⟩:=hN;have Cg:=uN (N:=M) hL hl hlb hM;have Ik:=PS (M:=M) hV hT hq hQ;exact⟨_,_,rfl,enters_of Tryz.func103 (by kernel_rfl) rfl,fun W hW k hk=>U8 (At.stable _ _ _ _ _ hW (At.gn hA 0 rfl)) (At.stable _ _ _ _ _ hW (At.gn hB 0 rfl)) (Cg.below hW) (Ik.below hW) k hk (h1 k hk) (h2 k hk) (h3 k hk)⟩
theorem abu {x:Ct}{G N cap:Nat}{w:World}(hq:FV w x.p.q x.p.s x.p.A x.p.n x.p.t x.p.B x.p.m)(hT:0<=x.T)(hl:pZ x.A x.n x.l w)(hlb:∀k,k<x.n->-9223372036854775808<=x.l k/\x.l k<=9223372036854775807)(M:Nat)(hM:M<=9223372036854775807)(h1:∀k,k<=M->fl (jR x.l x.n k)<=256)(h2:∀k,k<=M->fl (mU x.T.toNat x.p.q k)<=256)(h3:∀k,k<=M->fl (jR x.l x.n k-mU x.T.toNat x.p.q k)<=256):
  Calls Tryz.prog 53 #[.agg (x.Q G N cap)] w (an6 (fun k=>jR x.l x.n k-mU x.T.toNat x.p.q k) M w):=
 (abH hq).mono fun _ _ ⟨_,_,_,_,_,he,_,_,hN,hb⟩=>⟨_,he,VF hN (hq.below hb) hT (hl.below hb) hlb M hM h1 h2 h3,hb⟩
end Go.Proofs.YtclbiihcbfnjmaaGreat
