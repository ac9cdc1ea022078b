/-
  Parts.
-/
import Derived.Laws.EntriesVeiled
import Derived.Test.YtclbiihcbfnjmaaGreatK21
set_option linter.unusedSimpArgs false
set_option maxRecDepth 100000
set_option maxHeartbeats 8000000
namespace Go.Proofs.YtclbiihcbfnjmaaGreat
open Go.RowKit

theorem Cm {x:Ct}{G N cap gl gv ga gX gY:Nat}{w W:World}{c d:Value}(hE:Env w (fun V=>((True/\FV V x.p.q x.p.s x.p.A x.p.n x.p.t x.p.B x.p.m)/\au 80 w.heap.size (x.Q G N cap) V)) W)(hL:au 34 gl #[.slice x.A x.n x.c] W)(hV:au 80 gv (x.Q G N cap) W)(hQ:au 29 ga (az x.p.s x.p.A x.p.n x.p.c x.p.t x.p.B x.p.m x.p.d) W)(hX:au 84 gX #[c] W)(hY:au 84 gY #[d] W)(bX:w.heap.size<gX)(ne:gY≠gX)(hc:aP c=true)(v:Value):
  Env w (fun V=>((True/\FV V x.p.q x.p.s x.p.A x.p.n x.p.t x.p.B x.p.m)/\au 80 w.heap.size (x.Q G N cap) V)) (W.setCell ⟨gX,0,none⟩ v)/\au 34 gl #[.slice x.A x.n x.c] (W.setCell ⟨gX,0,none⟩ v)/\au 80 gv (x.Q G N cap) (W.setCell ⟨gX,0,none⟩ v)/\au 29 ga (az x.p.s x.p.A x.p.n x.p.c x.p.t x.p.B x.p.m x.p.d) (W.setCell ⟨gX,0,none⟩ v)/\au 84 gX #[v] (W.setCell ⟨gX,0,none⟩ v)/\au 84 gY #[d] (W.setCell ⟨gX,0,none⟩ v):=
 ⟨((Env.again (hE.ax.setCell (p:=⟨gX,0,none⟩) (bG bX) v)).fv (hE.g1.sep (i:=0) hX (by simp[hc]) v)).ag (hE.g0.far (p:=⟨gX,0,none⟩) (by show w.heap.size≠gX;omega) v),
  hL.far (p:=⟨gX,0,none⟩) (hL.ne hX (by decide)) v,hV.far (p:=⟨gX,0,none⟩) (hV.ne hX (by decide)) v,hQ.far (p:=⟨gX,0,none⟩) (hQ.ne hX (by decide)) v,by simpa using hX.dZ 0 v,hY.far (p:=⟨gX,0,none⟩) ne v⟩
def aj0 (x:Ct)(G N cap gl gv ga G3 G4:Nat)(W:World):Prop:=au 34 gl #[.slice x.A x.n x.c] W/\au 80 gv (x.Q G N cap) W/\au 29 ga (az x.p.s x.p.A x.p.n x.p.c x.p.t x.p.B x.p.m x.p.d) W/\au 84 G3 #[.func (.func 104) #[] #[.pointer (some ⟨gl,0,none⟩)]] W/\au 84 G4 #[.func (.func 112) #[] #[.pointer (some ⟨gv,0,none⟩),.pointer (some ⟨ga,0,none⟩)]] W
def aqp (x:Ct)(G N cap:Nat)(w:World)(e:Ending)(w':World):Prop:=∃gl gv ga G3 G4,e= .returned (.func (.func 103) #[] #[.pointer (some ⟨G3,0,none⟩),.pointer (some ⟨G4,0,none⟩)])/\w.heap.size<G3/\w.heap.size<G4/\aj0 x G N cap gl gv ga G3 G4 w'/\Below w.heap.size w w'
theorem aeA {x:Ct}{G N cap:Nat}{w:World}(hq:FV w x.p.q x.p.s x.p.A x.p.n x.p.t x.p.B x.p.m):
  Calls Tryz.prog 53 #[.agg (x.Q G N cap)] w (aqp x G N cap w):=by
 have hE:=((Env.start w).fv hq).blk 80 (x.Q G N cap) (g:=w.heap.size) rfl
 obtain⟨W0,aC⟩:∃W0,W0=w.alloc (.cells (x.Q G N cap) 80):=⟨_,rfl⟩
 rw[<-aC] at hE;have aZ:=af aC;clear aC
 go_enter Tryz.func53,Tryz.ntmps53
 go_upto_region 1 with(fail)
 rw[<-aZ.out]
 go_cut [3,4] from 5 to 14 (fun p q wx=>∃gl gv ga G3 G4,p= .pointer (some ⟨G3,0,none⟩)/\q= .pointer (some ⟨G4,0,none⟩)/\(w.heap.size<G3/\w.heap.size<G4)/\Env w (fun V=>(((((((True/\FV V x.p.q x.p.s x.p.A x.p.n x.p.t x.p.B x.p.m)/\au 80 w.heap.size (x.Q G N cap) V)/\au 34 gl #[.slice x.A x.n x.c] V)/\au 80 gv (x.Q G N cap) V)/\au 29 ga (az x.p.s x.p.A x.p.n x.p.c x.p.t x.p.B x.p.m x.p.d) V)/\au 84 G3 #[.func (.func 104) #[] #[.pointer (some ⟨gl,0,none⟩)]] V)/\au 84 G4 #[.func (.func 112) #[] #[.pointer (some ⟨gv,0,none⟩),.pointer (some ⟨ga,0,none⟩)]] V)) wx)
 case first=>
  replace hE:=hE.drew;refine bH (S:=fun V=>((True/\FV V x.p.q x.p.s x.p.A x.p.n x.p.t x.p.B x.p.m)/\au 80 w.heap.size (x.Q G N cap) V)) (by kernel_rfl) hE.here (fun hHeld=> ?_);clear aZ;generalize W0.drew=W at hE hHeld⊢
  refine tk 0 ?_ (hy:=by
   intro w aG;clear aG
   first|(go_simp;done)|(go_simp;with_reducible rfl))
  try simp only[PL]
  refine tk 1 ?_ (hy:=by
   intro w aG;clear aG
   first|(go_simp;done)|(go_simp;with_reducible rfl))
  try simp only[PL]
  refine tk 2 ?_ (hy:=by
   intro w aG;have k7:=aG.2.cell 7;clear aG
   first|(go_simp;done)|(go_simp;with_reducible rfl))
  try simp only[PL]
  refine tk 4 ?_ (hy:=by
   intro w aG;have k0:=aG.2.cell 0;have k1:=aG.2.cell 1;have k2:=aG.2.cell 2;have k3:=aG.2.cell 3;have k4:=aG.2.cell 4;have k5:=aG.2.cell 5;have k6:=aG.2.cell 6;have k7:=aG.2.cell 7;have k8:=aG.2.cell 8;have k9:=aG.2.cell 9;clear aG
   first|(go_simp;done)|(go_simp;with_reducible rfl))
  try simp only[PL]
  refine tk 5 ?_ (hy:=by
   intro w aG;clear aG
   first|(go_simp;done)|(go_simp;with_reducible rfl))
  try simp only[PL]
  refine tk 6 ?_ (hy:=by
   intro w aG;clear aG
   first|(go_simp;done)|(go_simp;with_reducible rfl))
  try simp only[PL]
  refine tk 7 ?_ (hy:=by
   intro w aG;have k3:=aG.2.cell 3;have k4:=aG.2.cell 4;have k5:=aG.2.cell 5;have k6:=aG.2.cell 6;clear aG
   first|(go_simp;done)|(go_simp;with_reducible rfl))
  try simp only[PL]
  refine cC (rs:=[3,9,10]) (by kernel_rfl) (by simp) (bq rfl (fun K hK=> ?_) (bq rfl (fun K hK=> ?_) (bq rfl (fun K hK=> ?_) (cD))))
  all_goals go_simp
  all_goals first
   |
    go_at_call 54
    refine(lO _ _ _ _).mono ?_
    rintro e _ ⟨rfl,rfl⟩
    have hb:=er W (.cells #[.slice x.A x.n x.c] 34)
    try replace hV:=au.stable _ _ _ _ _ hb hV
    try replace hQ:=au.stable _ _ _ _ _ hb hQ
    try replace hA:=au.stable _ _ _ _ _ hb hA
    try replace hB:=au.stable _ _ _ _ _ hb hB
    have hL:=au.new W 34 #[.slice x.A x.n x.c]
    obtain⟨gl,TA⟩:∃g,g=W.heap.size:=⟨_,rfl⟩
    rw[<-TA] at hL⊢;replace hE:=hE.step hb;clear hb
    generalize W.alloc (.cells #[.slice x.A x.n x.c] 34)=W at*
    clear TA;go_wp2_with fail
    refine hK.out _ _ hE.here (fun hHeld=> ?_);clear hK K hHeld;try simp only[PL]
   |
    go_at_call 70
    refine(uY x G N cap _ _ _ _ _ _ _ _ _).mono ?_
    rintro e _ ⟨rfl,rfl⟩
    obtain⟨hb,hV,hQ⟩:=uX W 80 (x.Q G N cap) 29 (az x.p.s x.p.A x.p.n x.p.c x.p.t x.p.B x.p.m x.p.d)
    try replace hL:=au.stable _ _ _ _ _ hb hL
    try replace hA:=au.stable _ _ _ _ _ hb hA
    try replace hB:=au.stable _ _ _ _ _ hb hB
    obtain⟨gv,TB⟩:∃g,g=W.heap.size:=⟨_,rfl⟩
    obtain⟨ga,TC⟩:∃g,g=gv+1:=⟨_,rfl⟩
    rw[<-TB] at hV hQ⊢;rw[<-TC] at hQ⊢;replace hE:=hE.step hb;clear hb
    generalize (W.alloc (.cells (x.Q G N cap) 80)).alloc (.cells (az x.p.s x.p.A x.p.n x.p.c x.p.t x.p.B x.p.m x.p.d) 29)=W at*
    clear TC TB;go_wp2_with fail
    refine hK.out _ _ hE.here (fun hHeld=> ?_);clear hK K hHeld;try simp only[PL]
   |
    have hlt:=hA.lt;have blt:=hE.g0.lt;have hb:=er W (.cells #[.nilFunc] 84)
    try replace hL:=au.stable _ _ _ _ _ hb hL
    try replace hV:=au.stable _ _ _ _ _ hb hV
    try replace hQ:=au.stable _ _ _ _ _ hb hQ
    try replace hA:=au.stable _ _ _ _ _ hb hA
    have hB:=au.new W 84 #[.nilFunc]
    obtain⟨gB,TD⟩:∃g,g=W.heap.size:=⟨_,rfl⟩
    rw[<-TD] at hlt blt hB⊢;replace hE:=hE.step hb;clear hb
    generalize W.alloc (.cells #[.nilFunc] 84)=W at*
    have nAB:gA≠gB:=by omega
    have nBA:gB≠gA:=by omega
    have bB:w.heap.size<gB:=blt;clear TD hlt blt;refine hK.out _ _ hE.here (fun hHeld=> ?_);clear hK K hHeld;try simp only[PL]
   |
    have blt:=hE.g0.lt;have hb:=er W (.cells #[.nilFunc] 84)
    try replace hL:=au.stable _ _ _ _ _ hb hL
    try replace hV:=au.stable _ _ _ _ _ hb hV
    try replace hQ:=au.stable _ _ _ _ _ hb hQ
    try replace hB:=au.stable _ _ _ _ _ hb hB
    have hA:=au.new W 84 #[.nilFunc]
    obtain⟨gA,TE⟩:∃g,g=W.heap.size:=⟨_,rfl⟩
    rw[<-TE] at blt hA⊢;replace hE:=hE.step hb;clear hb
    generalize W.alloc (.cells #[.nilFunc] 84)=W at*
    have bA:w.heap.size<gA:=blt;clear TE blt;refine hK.out _ _ hE.here (fun hHeld=> ?_);clear hK K hHeld;try simp only[PL]
  refine cC (rs:=[8,9,10]) (by kernel_rfl) (by simp) (bq rfl (fun K hK=> ?_) (bq rfl (fun K hK=> ?_) (bq rfl (fun K hK=> ?_) (cD))))
  rotate_left 3
  refine cC (rs:=[3,10]) (by kernel_rfl) (by simp) (bq rfl (fun K hK=> ?_) (bq rfl (fun K hK=> ?_) (cD)))
  rotate_left 2
  refine cC (rs:=[3,9]) (by kernel_rfl) (by simp) (bq rfl (fun K hK=> ?_) (bq rfl (fun K hK=> ?_) (cD)))
  rotate_left 2
  all_goals go_simp
  all_goals first
   |
    go_at_call 54
    refine(lO _ _ _ _).mono ?_
    rintro e _ ⟨rfl,rfl⟩
    have hb:=er W (.cells #[.slice x.A x.n x.c] 34)
    try replace hV:=au.stable _ _ _ _ _ hb hV
    try replace hQ:=au.stable _ _ _ _ _ hb hQ
    try replace hA:=au.stable _ _ _ _ _ hb hA
    try replace hB:=au.stable _ _ _ _ _ hb hB
    have hL:=au.new W 34 #[.slice x.A x.n x.c]
    obtain⟨gl,TA⟩:∃g,g=W.heap.size:=⟨_,rfl⟩
    rw[<-TA] at hL⊢;replace hE:=hE.step hb;clear hb
    generalize W.alloc (.cells #[.slice x.A x.n x.c] 34)=W at*
    clear TA;go_wp2_with fail
    refine hK.out _ _ hE.here (fun hHeld=> ?_);clear hK K hHeld;try simp only[PL]
   |
    go_at_call 70
    refine(uY x G N cap _ _ _ _ _ _ _ _ _).mono ?_
    rintro e _ ⟨rfl,rfl⟩
    obtain⟨hb,hV,hQ⟩:=uX W 80 (x.Q G N cap) 29 (az x.p.s x.p.A x.p.n x.p.c x.p.t x.p.B x.p.m x.p.d)
    try replace hL:=au.stable _ _ _ _ _ hb hL
    try replace hA:=au.stable _ _ _ _ _ hb hA
    try replace hB:=au.stable _ _ _ _ _ hb hB
    obtain⟨gv,TB⟩:∃g,g=W.heap.size:=⟨_,rfl⟩
    obtain⟨ga,TC⟩:∃g,g=gv+1:=⟨_,rfl⟩
    rw[<-TB] at hV hQ⊢;rw[<-TC] at hQ⊢;replace hE:=hE.step hb;clear hb
    generalize (W.alloc (.cells (x.Q G N cap) 80)).alloc (.cells (az x.p.s x.p.A x.p.n x.p.c x.p.t x.p.B x.p.m x.p.d) 29)=W at*
    clear TC TB;go_wp2_with fail
    refine hK.out _ _ hE.here (fun hHeld=> ?_);clear hK K hHeld;try simp only[PL]
   |
    have hlt:=hA.lt;have blt:=hE.g0.lt;have hb:=er W (.cells #[.nilFunc] 84)
    try replace hL:=au.stable _ _ _ _ _ hb hL
    try replace hV:=au.stable _ _ _ _ _ hb hV
    try replace hQ:=au.stable _ _ _ _ _ hb hQ
    try replace hA:=au.stable _ _ _ _ _ hb hA
    have hB:=au.new W 84 #[.nilFunc]
    obtain⟨gB,TD⟩:∃g,g=W.heap.size:=⟨_,rfl⟩
    rw[<-TD] at hlt blt hB⊢;replace hE:=hE.step hb;clear hb
    generalize W.alloc (.cells #[.nilFunc] 84)=W at*
    have nAB:gA≠gB:=by omega
    have nBA:gB≠gA:=by omega
    have bB:w.heap.size<gB:=blt;clear TD hlt blt;refine hK.out _ _ hE.here (fun hHeld=> ?_);clear hK K hHeld;try simp only[PL]
   |
    have blt:=hE.g0.lt;have hb:=er W (.cells #[.nilFunc] 84)
    try replace hL:=au.stable _ _ _ _ _ hb hL
    try replace hV:=au.stable _ _ _ _ _ hb hV
    try replace hQ:=au.stable _ _ _ _ _ hb hQ
    try replace hB:=au.stable _ _ _ _ _ hb hB
    have hA:=au.new W 84 #[.nilFunc]
    obtain⟨gA,TE⟩:∃g,g=W.heap.size:=⟨_,rfl⟩
    rw[<-TE] at blt hA⊢;replace hE:=hE.step hb;clear hb
    generalize W.alloc (.cells #[.nilFunc] 84)=W at*
    have bA:w.heap.size<gA:=blt;clear TE blt;refine hK.out _ _ hE.here (fun hHeld=> ?_);clear hK K hHeld;try simp only[PL]
  refine cC (rs:=[9,10]) (by kernel_rfl) (by simp) (bq rfl (fun K hK=> ?_) (bq rfl (fun K hK=> ?_) (cD)))
  rotate_left 2
  refine cC (rs:=[8,10]) (by kernel_rfl) (by simp) (bq rfl (fun K hK=> ?_) (bq rfl (fun K hK=> ?_) (cD)))
  rotate_left 2
  refine cC (rs:=[8,9]) (by kernel_rfl) (by simp) (bq rfl (fun K hK=> ?_) (bq rfl (fun K hK=> ?_) (cD)))
  rotate_left 2
  refine cC (rs:=[8,10]) (by kernel_rfl) (by simp) (bq rfl (fun K hK=> ?_) (bq rfl (fun K hK=> ?_) (cD)))
  rotate_left 2
  refine r1 3 (fun K hK=> ?_)
  rotate_left 1
  refine cC (rs:=[8,9]) (by kernel_rfl) (by simp) (bq rfl (fun K hK=> ?_) (bq rfl (fun K hK=> ?_) (cD)))
  rotate_left 2
  refine r1 3 (fun K hK=> ?_)
  rotate_left 1
  all_goals go_simp
  all_goals first
   |
    go_at_call 54
    refine(lO _ _ _ _).mono ?_
    rintro e _ ⟨rfl,rfl⟩
    have hb:=er W (.cells #[.slice x.A x.n x.c] 34)
    try replace hV:=au.stable _ _ _ _ _ hb hV
    try replace hQ:=au.stable _ _ _ _ _ hb hQ
    try replace hA:=au.stable _ _ _ _ _ hb hA
    try replace hB:=au.stable _ _ _ _ _ hb hB
    have hL:=au.new W 34 #[.slice x.A x.n x.c]
    obtain⟨gl,TA⟩:∃g,g=W.heap.size:=⟨_,rfl⟩
    rw[<-TA] at hL⊢;replace hE:=hE.step hb;clear hb
    generalize W.alloc (.cells #[.slice x.A x.n x.c] 34)=W at*
    clear TA;go_wp2_with fail
    refine hK.out _ _ hE.here (fun hHeld=> ?_);clear hK K hHeld;try simp only[PL]
   |
    go_at_call 70
    refine(uY x G N cap _ _ _ _ _ _ _ _ _).mono ?_
    rintro e _ ⟨rfl,rfl⟩
    obtain⟨hb,hV,hQ⟩:=uX W 80 (x.Q G N cap) 29 (az x.p.s x.p.A x.p.n x.p.c x.p.t x.p.B x.p.m x.p.d)
    try replace hL:=au.stable _ _ _ _ _ hb hL
    try replace hA:=au.stable _ _ _ _ _ hb hA
    try replace hB:=au.stable _ _ _ _ _ hb hB
    obtain⟨gv,TB⟩:∃g,g=W.heap.size:=⟨_,rfl⟩
    obtain⟨ga,TC⟩:∃g,g=gv+1:=⟨_,rfl⟩
    rw[<-TB] at hV hQ⊢;rw[<-TC] at hQ⊢;replace hE:=hE.step hb;clear hb
    generalize (W.alloc (.cells (x.Q G N cap) 80)).alloc (.cells (az x.p.s x.p.A x.p.n x.p.c x.p.t x.p.B x.p.m x.p.d) 29)=W at*
    clear TC TB;go_wp2_with fail
    refine hK.out _ _ hE.here (fun hHeld=> ?_);clear hK K hHeld;try simp only[PL]
   |
    have hlt:=hA.lt;have blt:=hE.g0.lt;have hb:=er W (.cells #[.nilFunc] 84)
    try replace hL:=au.stable _ _ _ _ _ hb hL
    try replace hV:=au.stable _ _ _ _ _ hb hV
    try replace hQ:=au.stable _ _ _ _ _ hb hQ
    try replace hA:=au.stable _ _ _ _ _ hb hA
    have hB:=au.new W 84 #[.nilFunc]
    obtain⟨gB,TD⟩:∃g,g=W.heap.size:=⟨_,rfl⟩
    rw[<-TD] at hlt blt hB⊢;replace hE:=hE.step hb;clear hb
    generalize W.alloc (.cells #[.nilFunc] 84)=W at*
    have nAB:gA≠gB:=by omega
    have nBA:gB≠gA:=by omega
    have bB:w.heap.size<gB:=blt;clear TD hlt blt;refine hK.out _ _ hE.here (fun hHeld=> ?_);clear hK K hHeld;try simp only[PL]
   |
    have blt:=hE.g0.lt;have hb:=er W (.cells #[.nilFunc] 84)
    try replace hL:=au.stable _ _ _ _ _ hb hL
    try replace hV:=au.stable _ _ _ _ _ hb hV
    try replace hQ:=au.stable _ _ _ _ _ hb hQ
    try replace hB:=au.stable _ _ _ _ _ hb hB
    have hA:=au.new W 84 #[.nilFunc]
    obtain⟨gA,TE⟩:∃g,g=W.heap.size:=⟨_,rfl⟩
    rw[<-TE] at blt hA⊢;replace hE:=hE.step hb;clear hb
    generalize W.alloc (.cells #[.nilFunc] 84)=W at*
    have bA:w.heap.size<gA:=blt;clear TE blt;refine hK.out _ _ hE.here (fun hHeld=> ?_);clear hK K hHeld;try simp only[PL]
  refine r1 10 (fun K hK=> ?_)
  rotate_left 1
  refine r1 9 (fun K hK=> ?_)
  rotate_left 1
  refine r1 10 (fun K hK=> ?_)
  rotate_left 1
  refine r1 8 (fun K hK=> ?_)
  rotate_left 1
  refine r1 9 (fun K hK=> ?_)
  rotate_left 1
  refine r1 8 (fun K hK=> ?_)
  rotate_left 1
  refine r1 10 (fun K hK=> ?_)
  rotate_left 1
  refine r1 8 (fun K hK=> ?_)
  rotate_left 1
  refine r1 8 (fun K hK=> ?_)
  rotate_left 1
  refine r1 9 (fun K hK=> ?_)
  rotate_left 1
  refine r1 8 (fun K hK=> ?_)
  rotate_left 1
  refine r1 8 (fun K hK=> ?_)
  rotate_left 1
  all_goals go_simp
  all_goals first
   |
    go_at_call 54
    refine(lO _ _ _ _).mono ?_
    rintro e _ ⟨rfl,rfl⟩
    have hb:=er W (.cells #[.slice x.A x.n x.c] 34)
    try replace hV:=au.stable _ _ _ _ _ hb hV
    try replace hQ:=au.stable _ _ _ _ _ hb hQ
    try replace hA:=au.stable _ _ _ _ _ hb hA
    try replace hB:=au.stable _ _ _ _ _ hb hB
    have hL:=au.new W 34 #[.slice x.A x.n x.c]
    obtain⟨gl,TA⟩:∃g,g=W.heap.size:=⟨_,rfl⟩
    rw[<-TA] at hL⊢;replace hE:=hE.step hb;clear hb
    generalize W.alloc (.cells #[.slice x.A x.n x.c] 34)=W at*
    clear TA;go_wp2_with fail
    refine hK.out _ _ hE.here (fun hHeld=> ?_);clear hK K hHeld;try simp only[PL]
   |
    go_at_call 70
    refine(uY x G N cap _ _ _ _ _ _ _ _ _).mono ?_
    rintro e _ ⟨rfl,rfl⟩
    obtain⟨hb,hV,hQ⟩:=uX W 80 (x.Q G N cap) 29 (az x.p.s x.p.A x.p.n x.p.c x.p.t x.p.B x.p.m x.p.d)
    try replace hL:=au.stable _ _ _ _ _ hb hL
    try replace hA:=au.stable _ _ _ _ _ hb hA
    try replace hB:=au.stable _ _ _ _ _ hb hB
    obtain⟨gv,TB⟩:∃g,g=W.heap.size:=⟨_,rfl⟩
    obtain⟨ga,TC⟩:∃g,g=gv+1:=⟨_,rfl⟩
    rw[<-TB] at hV hQ⊢;rw[<-TC] at hQ⊢;replace hE:=hE.step hb;clear hb
    generalize (W.alloc (.cells (x.Q G N cap) 80)).alloc (.cells (az x.p.s x.p.A x.p.n x.p.c x.p.t x.p.B x.p.m x.p.d) 29)=W at*
    clear TC TB;go_wp2_with fail
    refine hK.out _ _ hE.here (fun hHeld=> ?_);clear hK K hHeld;try simp only[PL]
   |
    have hlt:=hA.lt;have blt:=hE.g0.lt;have hb:=er W (.cells #[.nilFunc] 84)
    try replace hL:=au.stable _ _ _ _ _ hb hL
    try replace hV:=au.stable _ _ _ _ _ hb hV
    try replace hQ:=au.stable _ _ _ _ _ hb hQ
    try replace hA:=au.stable _ _ _ _ _ hb hA
    have hB:=au.new W 84 #[.nilFunc]
    obtain⟨gB,TD⟩:∃g,g=W.heap.size:=⟨_,rfl⟩
    rw[<-TD] at hlt blt hB⊢;replace hE:=hE.step hb;clear hb
    generalize W.alloc (.cells #[.nilFunc] 84)=W at*
    have nAB:gA≠gB:=by omega
    have nBA:gB≠gA:=by omega
    have bB:w.heap.size<gB:=blt;clear TD hlt blt;refine hK.out _ _ hE.here (fun hHeld=> ?_);clear hK K hHeld;try simp only[PL]
   |
    have blt:=hE.g0.lt;have hb:=er W (.cells #[.nilFunc] 84)
    try replace hL:=au.stable _ _ _ _ _ hb hL
    try replace hV:=au.stable _ _ _ _ _ hb hV
    try replace hQ:=au.stable _ _ _ _ _ hb hQ
    try replace hB:=au.stable _ _ _ _ _ hb hB
    have hA:=au.new W 84 #[.nilFunc]
    obtain⟨gA,TE⟩:∃g,g=W.heap.size:=⟨_,rfl⟩
    rw[<-TE] at blt hA⊢;replace hE:=hE.step hb;clear hb
    generalize W.alloc (.cells #[.nilFunc] 84)=W at*
    have bA:w.heap.size<gA:=blt;clear TE blt;refine hK.out _ _ hE.here (fun hHeld=> ?_);clear hK K hHeld;try simp only[PL]
  have s9:True:=trivial
  rotate_left 1
  have s10:True:=trivial
  rotate_left 1
  have s9:True:=trivial
  rotate_left 1
  have s9:True:=trivial
  rotate_left 1
  have s10:True:=trivial
  rotate_left 1
  have s10:True:=trivial
  rotate_left 1
  have s9:True:=trivial
  rotate_left 1
  have s9:True:=trivial
  rotate_left 1
  have s9:True:=trivial
  rotate_left 1
  have s10:True:=trivial
  rotate_left 1
  have s10:True:=trivial
  rotate_left 1
  have s10:True:=trivial
  rotate_left 1
  all_goals refine r1 11 (fun K hK=> ?_)
  all_goals first
   |
    have _sx:=s9;have x0:=hA.c1;have f0:=hA.frozen 0;obtain⟨iE,iL,iV,iQ,iX,iY⟩:=Cm hE hL hV hQ hA hB bA nBA rfl (.func (.func 104) #[] #[.pointer (some ⟨gl,0,none⟩)]);go_simp;refine hK.out _ _ iE.here (fun hHeld=> ?_);clear hK K hHeld x0 f0 hE hL hV hQ hA hB _sx
    generalize W.setCell ⟨gA,0,none⟩ (.func (.func 104) #[] #[.pointer (some ⟨gl,0,none⟩)])=W at*
    have hE:=iE;have hL:=iL;have hV:=iV;have hQ:=iQ;have hA:=iX;have hB:=iY;clear iE iL iV iQ iX iY;try simp only[PL]
   |
    have _sx:=s10;have x0:=hB.c1;have f0:=hB.frozen 0;obtain⟨iE,iL,iV,iQ,iX,iY⟩:=Cm hE hL hV hQ hB hA bB nAB rfl (.func (.func 104) #[] #[.pointer (some ⟨gl,0,none⟩)]);go_simp;refine hK.out _ _ iE.here (fun hHeld=> ?_);clear hK K hHeld x0 f0 hE hL hV hQ hA hB _sx
    generalize W.setCell ⟨gB,0,none⟩ (.func (.func 104) #[] #[.pointer (some ⟨gl,0,none⟩)])=W at*
    have hE:=iE;have hL:=iL;have hV:=iV;have hQ:=iQ;have hB:=iX;have hA:=iY;clear iE iL iV iQ iX iY;try simp only[PL]
  all_goals refine r1 12 (fun K hK=> ?_)
  all_goals first
   |
    have _sx:=s10;have x0:=hA.c1;have f0:=hA.frozen 0;obtain⟨iE,iL,iV,iQ,iX,iY⟩:=Cm hE hL hV hQ hA hB bA nBA rfl (.func (.func 112) #[] #[.pointer (some ⟨gv,0,none⟩),.pointer (some ⟨ga,0,none⟩)]);go_simp;refine hK.out _ _ iE.here (fun hHeld=> ?_);clear hK K hHeld x0 f0 hE hL hV hQ hA hB _sx
    generalize W.setCell ⟨gA,0,none⟩ (.func (.func 112) #[] #[.pointer (some ⟨gv,0,none⟩),.pointer (some ⟨ga,0,none⟩)])=W at*
    have hE:=iE;have hL:=iL;have hV:=iV;have hQ:=iQ;have hA:=iX;have hB:=iY;clear iE iL iV iQ iX iY;try simp only[PL]
   |
    have _sx:=s9;have x0:=hB.c1;have f0:=hB.frozen 0;obtain⟨iE,iL,iV,iQ,iX,iY⟩:=Cm hE hL hV hQ hB hA bB nAB rfl (.func (.func 112) #[] #[.pointer (some ⟨gv,0,none⟩),.pointer (some ⟨ga,0,none⟩)]);go_simp;refine hK.out _ _ iE.here (fun hHeld=> ?_);clear hK K hHeld x0 f0 hE hL hV hQ hA hB _sx
    generalize W.setCell ⟨gB,0,none⟩ (.func (.func 112) #[] #[.pointer (some ⟨gv,0,none⟩),.pointer (some ⟨ga,0,none⟩)])=W at*
    have hE:=iE;have hL:=iL;have hV:=iV;have hQ:=iQ;have hB:=iX;have hA:=iY;clear iE iL iV iQ iX iY;try simp only[PL]
  all_goals refine aX (by kernel_rfl) ?_ _
  all_goals go_wp2_with fail
  all_goals go_meet
  all_goals first
   |exact⟨gl,gv,ga,gA,gB,rfl,rfl,⟨bA,bB⟩,((((hE.ag hL).ag hV).ag hQ).ag hA).ag hB⟩
   |exact⟨gl,gv,ga,gB,gA,rfl,rfl,⟨bB,bA⟩,((((hE.ag hL).ag hV).ag hQ).ag hB).ag hA⟩
 case rest=>
 clear hE;obtain⟨gl,gv,ga,G3,G4,rfl,rfl,⟨b3,b4⟩,hE⟩:=hcut;go_wp2_with fail
 go_ret
 exact⟨gl,gv,ga,G3,G4,rfl,b3,b4,⟨hE.h4,hE.h3,hE.h2,hE.g1,hE.g0⟩,hE.ax⟩
theorem YR {x:Ct}{G N cap gl gv ga G3 G4:Nat}{w:World}(hN:aj0 x G N cap gl gv ga G3 G4 w)(hq:FV w x.p.q x.p.s x.p.A x.p.n x.p.t x.p.B x.p.m)(hT:0<=x.T)(hl:rR x.A x.n x.l w)(hlb:∀k,k<x.n->-9223372036854775808<=x.l k/\x.l k<=9223372036854775807)(M:Nat)(hM:M<=9223372036854775807)(h1:∀k,k<=M->fl (lY x.l x.n k)<=256)(h2:∀k,k<=M->fl (pH x.T.toNat x.p.q k)<=256)(h3:∀k,k<=M->fl (lY x.l x.n k-pH x.T.toNat x.p.q k)<=256):
  kS (.func (.func 103) #[] #[.pointer (some ⟨G3,0,none⟩),.pointer (some ⟨G4,0,none⟩)]) (fun k=>lY x.l x.n k-pH x.T.toNat x.p.q k) M w:=by
 obtain⟨hL,hV,hQ,hA,hB⟩:=hN;have DL:=wL (N:=M) hL hl hlb hM;have Ke:=SM (M:=M) hV hT hq hQ;exact⟨_,_,rfl,enters_of Tryz.func103 (by kernel_rfl) rfl,fun W hW k hk=>Yk (At.stable _ _ _ _ _ hW (At.iN hA 0 rfl)) (At.stable _ _ _ _ _ hW (At.iN hB 0 rfl)) (DL.below hW) (Ke.below hW) k hk (h1 k hk) (h2 k hk) (h3 k hk)⟩
theorem aem {x:Ct}{G N cap:Nat}{w:World}(hq:FV w x.p.q x.p.s x.p.A x.p.n x.p.t x.p.B x.p.m)(hT:0<=x.T)(hl:rR x.A x.n x.l w)(hlb:∀k,k<x.n->-9223372036854775808<=x.l k/\x.l k<=9223372036854775807)(M:Nat)(hM:M<=9223372036854775807)(h1:∀k,k<=M->fl (lY x.l x.n k)<=256)(h2:∀k,k<=M->fl (pH x.T.toNat x.p.q k)<=256)(h3:∀k,k<=M->fl (lY x.l x.n k-pH x.T.toNat x.p.q k)<=256):
  Calls Tryz.prog 53 #[.agg (x.Q G N cap)] w (ap2 (fun k=>lY x.l x.n k-pH x.T.toNat x.p.q k) M w):=
 (aeA hq).mono fun _ _ ⟨_,_,_,_,_,he,_,_,hN,hb⟩=>⟨_,he,YR hN (hq.below hb) hT (hl.below hb) hlb M hM h1 h2 h3,hb⟩
end Go.Proofs.YtclbiihcbfnjmaaGreat
