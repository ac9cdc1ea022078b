/-
  Parts.
-/
import Derived.Test.YtclbiihcbfnjmaaGreatE6A
set_option linter.unusedSimpArgs false
set_option maxRecDepth 100000
set_option maxHeartbeats 8000000
namespace Go.Proofs.YtclbiihcbfnjmaaGreat
open Go.RowKit

theorem vm {h:Nat->FH}{a b c:Rat}{w:World}(ha:FV w a (h 7).s (h 7).A (h 7).n (h 7).t (h 7).B (h 7).m)(hb:FV w b (h 8).s (h 8).A (h 8).n (h 8).t (h 8).B (h 8).m)(hc:FV w c (h 9).s (h 9).A (h 9).n (h 9).t (h 9).B (h 9).m)(la:fl a<=256)(lb:fl b<=256)(lc:fl c<=256)(l1:fl (a+b)<=256)(l2:fl (a+b+c)<=256):
  Calls Tryz.prog 37 #[.agg #[.bool (h 0).s,.slice (h 0).A (h 0).n (h 0).c,.bool (h 0).t,.slice (h 0).B (h 0).m (h 0).d,.bool (h 1).s,.slice (h 1).A (h 1).n (h 1).c,.bool (h 1).t,.slice (h 1).B (h 1).m (h 1).d,.bool (h 2).s,.slice (h 2).A (h 2).n (h 2).c,.bool (h 2).t,.slice (h 2).B (h 2).m (h 2).d,.bool (h 3).s,.slice (h 3).A (h 3).n (h 3).c,.bool (h 3).t,.slice (h 3).B (h 3).m (h 3).d,.bool (h 4).s,.slice (h 4).A (h 4).n (h 4).c,.bool (h 4).t,.slice (h 4).B (h 4).m (h 4).d,.bool (h 5).s,.slice (h 5).A (h 5).n (h 5).c,.bool (h 5).t,.slice (h 5).B (h 5).m (h 5).d,.bool (h 6).s,.slice (h 6).A (h 6).n (h 6).c,.bool (h 6).t,.slice (h 6).B (h 6).m (h 6).d,.bool (h 7).s,.slice (h 7).A (h 7).n (h 7).c,.bool (h 7).t,.slice (h 7).B (h 7).m (h 7).d,.bool (h 8).s,.slice (h 8).A (h 8).n (h 8).c,.bool (h 8).t,.slice (h 8).B (h 8).m (h 8).d,.bool (h 9).s,.slice (h 9).A (h 9).n (h 9).c,.bool (h 9).t,.slice (h 9).B (h 9).m (h 9).d,.bool (h 10).s,.slice (h 10).A (h 10).n (h 10).c,.bool (h 10).t,.slice (h 10).B (h 10).m (h 10).d]] w (IB (a+b+c) w):=by
 have hE:=(((((Env.start w).fv ha).fv hb).fv hc).blk 61 #[.bool (h 0).s,.slice (h 0).A (h 0).n (h 0).c,.bool (h 0).t,.slice (h 0).B (h 0).m (h 0).d,.bool (h 1).s,.slice (h 1).A (h 1).n (h 1).c,.bool (h 1).t,.slice (h 1).B (h 1).m (h 1).d,.bool (h 2).s,.slice (h 2).A (h 2).n (h 2).c,.bool (h 2).t,.slice (h 2).B (h 2).m (h 2).d,.bool (h 3).s,.slice (h 3).A (h 3).n (h 3).c,.bool (h 3).t,.slice (h 3).B (h 3).m (h 3).d,.bool (h 4).s,.slice (h 4).A (h 4).n (h 4).c,.bool (h 4).t,.slice (h 4).B (h 4).m (h 4).d,.bool (h 5).s,.slice (h 5).A (h 5).n (h 5).c,.bool (h 5).t,.slice (h 5).B (h 5).m (h 5).d,.bool (h 6).s,.slice (h 6).A (h 6).n (h 6).c,.bool (h 6).t,.slice (h 6).B (h 6).m (h 6).d,.bool (h 7).s,.slice (h 7).A (h 7).n (h 7).c,.bool (h 7).t,.slice (h 7).B (h 7).m (h 7).d,.bool (h 8).s,.slice (h 8).A (h 8).n (h 8).c,.bool (h 8).t,.slice (h 8).B (h 8).m (h 8).d,.bool (h 9).s,.slice (h 9).A (h 9).n (h 9).c,.bool (h 9).t,.slice (h 9).B (h 9).m (h 9).d,.bool (h 10).s,.slice (h 10).A (h 10).n (h 10).c,.bool (h 10).t,.slice (h 10).B (h 10).m (h 10).d] (g:=w.heap.size) rfl).blk 29 aW (g:=w.heap.size+1) (by simp)
 obtain⟨W0,aC⟩:∃W0,W0=(w.alloc (.cells #[.bool (h 0).s,.slice (h 0).A (h 0).n (h 0).c,.bool (h 0).t,.slice (h 0).B (h 0).m (h 0).d,.bool (h 1).s,.slice (h 1).A (h 1).n (h 1).c,.bool (h 1).t,.slice (h 1).B (h 1).m (h 1).d,.bool (h 2).s,.slice (h 2).A (h 2).n (h 2).c,.bool (h 2).t,.slice (h 2).B (h 2).m (h 2).d,.bool (h 3).s,.slice (h 3).A (h 3).n (h 3).c,.bool (h 3).t,.slice (h 3).B (h 3).m (h 3).d,.bool (h 4).s,.slice (h 4).A (h 4).n (h 4).c,.bool (h 4).t,.slice (h 4).B (h 4).m (h 4).d,.bool (h 5).s,.slice (h 5).A (h 5).n (h 5).c,.bool (h 5).t,.slice (h 5).B (h 5).m (h 5).d,.bool (h 6).s,.slice (h 6).A (h 6).n (h 6).c,.bool (h 6).t,.slice (h 6).B (h 6).m (h 6).d,.bool (h 7).s,.slice (h 7).A (h 7).n (h 7).c,.bool (h 7).t,.slice (h 7).B (h 7).m (h 7).d,.bool (h 8).s,.slice (h 8).A (h 8).n (h 8).c,.bool (h 8).t,.slice (h 8).B (h 8).m (h 8).d,.bool (h 9).s,.slice (h 9).A (h 9).n (h 9).c,.bool (h 9).t,.slice (h 9).B (h 9).m (h 9).d,.bool (h 10).s,.slice (h 10).A (h 10).n (h 10).c,.bool (h 10).t,.slice (h 10).B (h 10).m (h 10).d] 61)).alloc (.cells aW 29):=⟨_,rfl⟩
 rw[<-aC] at hE;have aZ:=af aC;clear aC
 go_enter Tryz.func37,Tryz.ntmps37
 go_upto_region 1 with(fail)
 rw[<-aZ.out];have k1:=(hE.g1).cell 28;have k2:=(hE.g1).cell 29;have k3:=(hE.g1).cell 30;have k4:=(hE.g1).cell 31;go_wp2_with fail
 refine hE.br (iO (c:=(h 7).c) (d:=(h 7).d) (hE.h4) la) ?_;clear hE k1 k2 k3 k4;intro w5 hE;have k6:=(hE.g1).cell 32;have k7:=(hE.g1).cell 33;have k8:=(hE.g1).cell 34;have k9:=(hE.g1).cell 35;go_wp2_with fail
 refine hE.br (iO (c:=(h 8).c) (d:=(h 8).d) (hE.h3) lb) ?_;clear hE k6 k7 k8 k9;intro rU hE;have dX:=(hE.g1).cell 36;have dY:=(hE.g1).cell 37;have eu:=(hE.g1).cell 38;have eF:=(hE.g1).cell 39;go_wp2_with fail
 refine hE.br (iO (c:=(h 9).c) (d:=(h 9).d) (hE.h2) lc) ?_;clear hE dX dY eu eF;intro wX hE
 go_upto_region 4 with(fail)
 obtain⟨g16,jG⟩:∃g16,g16=wX.heap.size:=⟨_,rfl⟩
 have Gk:w.heap.size<g16:=by rw[jG];exact(hE.g1).lt
 have Qe:w.heap.size+1<g16:=by rw[jG];exact(hE.g0).lt
 replace hE:=hE.blk 120 #[.int .i64 0] (g:=g16) jG.symm;generalize wX.alloc (.cells #[.int .i64 0] 120)=Pf at hE⊢;rw[<-jG];clear jG;replace hE:=hE.drew;refine bH (S:=fun V=>au 61 (w.heap.size) #[.bool (h 0).s,.slice (h 0).A (h 0).n (h 0).c,.bool (h 0).t,.slice (h 0).B (h 0).m (h 0).d,.bool (h 1).s,.slice (h 1).A (h 1).n (h 1).c,.bool (h 1).t,.slice (h 1).B (h 1).m (h 1).d,.bool (h 2).s,.slice (h 2).A (h 2).n (h 2).c,.bool (h 2).t,.slice (h 2).B (h 2).m (h 2).d,.bool (h 3).s,.slice (h 3).A (h 3).n (h 3).c,.bool (h 3).t,.slice (h 3).B (h 3).m (h 3).d,.bool (h 4).s,.slice (h 4).A (h 4).n (h 4).c,.bool (h 4).t,.slice (h 4).B (h 4).m (h 4).d,.bool (h 5).s,.slice (h 5).A (h 5).n (h 5).c,.bool (h 5).t,.slice (h 5).B (h 5).m (h 5).d,.bool (h 6).s,.slice (h 6).A (h 6).n (h 6).c,.bool (h 6).t,.slice (h 6).B (h 6).m (h 6).d,.bool (h 7).s,.slice (h 7).A (h 7).n (h 7).c,.bool (h 7).t,.slice (h 7).B (h 7).m (h 7).d,.bool (h 8).s,.slice (h 8).A (h 8).n (h 8).c,.bool (h 8).t,.slice (h 8).B (h 8).m (h 8).d,.bool (h 9).s,.slice (h 9).A (h 9).n (h 9).c,.bool (h 9).t,.slice (h 9).B (h 9).m (h 9).d,.bool (h 10).s,.slice (h 10).A (h 10).n (h 10).c,.bool (h 10).t,.slice (h 10).B (h 10).m (h 10).d] V) (by kernel_rfl) (hE.h2) (fun hHeld=> ?_)
 generalize Pf.drew=wd at*
 refine tk 0 ?_
 refine tk 1 ?_ (hy:=by
  intro w aG;have acn:=(aG).cell 28;have aco:=(aG).cell 29;have acp:=(aG).cell 30;have ah1:=(aG).cell 31;clear aG
  first|(go_simp;done)|(go_simp;with_reducible rfl))
 try simp only[PL]
 refine tk 2 ?_
 refine tk 3 ?_ (hy:=by
  intro w aG;have ah2:=(aG).cell 32;have ah3:=(aG).cell 33;have ah4:=(aG).cell 34;have ah5:=(aG).cell 35;clear aG
  first|(go_simp;done)|(go_simp;with_reducible rfl))
 try simp only[PL]
 refine tk 5 ?_
 refine tk 6 ?_ (hy:=by
  intro w aG;have ah6:=(aG).cell 36;have ah7:=(aG).cell 37;have ah8:=(aG).cell 38;have ah9:=(aG).cell 39;clear aG
  first|(go_simp;done)|(go_simp;with_reducible rfl))
 try simp only[PL]
 obtain⟨B4,Gp⟩:∃B,B=wd.heap.size:=⟨_,rfl⟩
 have ZN:w.heap.size<=B4:=by rw[Gp];exact hE.ax.size
 have aia:w.heap.size<B4:=by rw[Gp];exact(hE.h2).lt
 have aib:w.heap.size+1<B4:=by rw[Gp];exact(hE.g1).lt
 have aqT:g16<B4:=by rw[Gp];exact(hE.g0).lt
 refine fR (I:=ep w _ _ B4 [⟨4,27,ku (a+b)⟩,⟨7,30,ku (a+b+c)⟩,⟨8,5,kU 29 aW B4⟩]) [4,7,8] (f1:=1) (by kernel_rfl) (by kernel_rfl) (by kernel_rfl) rfl (by kernel_rfl) (by kernel_rfl) (by rfl) (ep.start hE Gp (by kernel_rfl)) ?Gf ?ana
 case Gf=>
  have hst:∀g∈([⟨4,27,ku (a+b)⟩,⟨7,30,ku (a+b+c)⟩,⟨8,5,kU 29 aW B4⟩]:List cO),∀x,ck (g.R x):=(fun g hg=>by simp only[List.mem_cons,List.not_mem_nil,or_false] at hg;rcases hg with rfl|rfl|rfl<;>first|exact ku.stable _|exact kU.stable _ _ _|exact OG.stable _|exact OH.stable _)
  clear hE hHeld Gp;refine bf.cons (ds:=[1,3]) rfl (by kernel_rfl) (fun D a W0 hI hD K hK=> ?_) ?_
  ·
   have hE:=hI.here;obtain⟨xs,rfl,-,hF,-,-⟩:=id hI;obtain⟨adj,xs,rfl,Lk,hF⟩:=hF.av;obtain⟨adk,xs,rfl,Qf,hF⟩:=hF.av;obtain⟨adl,xs,rfl,Qg,hF⟩:=hF.av;obtain rfl:=hF.nil;clear hF;try simp only[ct,Act.put,List.setIfInBounds_toArray,List.set_cons_zero,List.set_cons_succ,List.getElem_toArray,List.getElem_cons_succ,List.getElem_cons_zero]
   go_simp;refine(mC (ca:=(h 7).c) (da:=(h 7).d) (cb:=(h 8).c) (db:=(h 8).d) (⟨_,_,hE.g0,rfl⟩:jx g16 _) (hE.h5) (hE.h4) la lb l1).mono ?_
   rintro e W1 ⟨sx,Ax,nx,cx,tx,Bx,mx,dx,rfl,hv,hb⟩
   have dD:=hE.step hb;go_wp2_with fail
   refine hK.out _ _ (dD.here.1.1.2) ?_;exact hI.call (c:=cx) (d:=dx) 0 hst rfl (by kernel_rfl) (by kernel_rfl) (by kernel_rfl) hb hv
  refine bf.cons (ds:=[4,6,4]) rfl (by kernel_rfl) (fun D a W0 hI hD K hK=> ?_) ?_
  ·
   have hE:=hI.here;obtain⟨xs,rfl,-,hF,-,-⟩:=id hI;obtain⟨adj,xs,rfl,Lk,hF⟩:=hF.av;obtain⟨adk,xs,rfl,Qf,hF⟩:=hF.av;obtain⟨adl,xs,rfl,Qg,hF⟩:=hF.av;obtain rfl:=hF.nil;clear hF;try simp only[ct,Act.put,List.setIfInBounds_toArray,List.set_cons_zero,List.set_cons_succ,List.getElem_toArray,List.getElem_cons_succ,List.getElem_cons_zero]
   obtain⟨sx,Ax,nx,cx,tx,Bx,mx,dx,rfl,hq⟩:=Lk (hD 4 (by simp));replace hE:=hE.fv hq;clear hq;go_simp;refine(mC (ca:=cx) (da:=dx) (cb:=(h 9).c) (db:=(h 9).d) (⟨_,_,hE.g1,rfl⟩:jx g16 _) (hE.g0) (hE.h4) l1 lc l2).mono ?_
   rintro e W1 ⟨sy,Ay,ny,cy,ty,By,my,dy,rfl,hv,hb⟩
   have dD:=hE.step hb;go_wp2_with fail
   refine hK.out _ _ (dD.here.1.1.1.2) ?_;exact hI.call (c:=cy) (d:=dy) 1 hst rfl (by kernel_rfl) (by kernel_rfl) (by kernel_rfl) hb hv
  refine bf.cons (ds:=[]) rfl (by kernel_rfl) (fun D a W0 hI hD K hK=> ?_) ?_
  ·
   have hE:=hI.here;obtain⟨xs,rfl,-,hF,-,-⟩:=id hI;obtain⟨adj,xs,rfl,Lk,hF⟩:=hF.av;obtain⟨adk,xs,rfl,Qf,hF⟩:=hF.av;obtain⟨adl,xs,rfl,Qg,hF⟩:=hF.av;obtain rfl:=hF.nil;clear hF;try simp only[ct,Act.put,List.setIfInBounds_toArray,List.set_cons_zero,List.set_cons_succ,List.getElem_toArray,List.getElem_cons_succ,List.getElem_cons_zero]
   go_simp;have dD:=hE.alloc (.cells aW 29);refine hK.out _ _ (dD.here.1.1.2) ?_;exact hI.alloc 2 hst rfl (by kernel_rfl) (by kernel_rfl) (by kernel_rfl)
  exact bf.nil
 clear hE hHeld Gp;intro D a W4 hI hD;have hE:=hI.here;obtain⟨xs,rfl,-,hF,hA,-⟩:=id hI;clear hI;obtain⟨adj,xs,rfl,Lk,hF⟩:=hF.av;obtain⟨adk,xs,rfl,Qf,hF⟩:=hF.av;obtain⟨adl,xs,rfl,Qg,hF⟩:=hF.av;obtain rfl:=hF.nil;clear hF;obtain⟨sx,Ax,nx,cx,tx,Bx,mx,dx,rfl,hq4⟩:=Lk (hD 4 (by simp));obtain⟨sy,Ay,ny,cy,ty,By,my,dy,rfl,hq7⟩:=Qf (hD 7 (by simp));obtain⟨Qh,rfl,aqU,hq8⟩:=Qg (hD 8 (by simp));replace hE:=(((hE.fv hq4).fv hq7).ag hq8);clear hA hD hq4 Lk hq7 Qf hq8 Qg;try simp only[ct,Act.put,List.setIfInBounds_toArray,List.set_cons_zero,List.set_cons_succ,List.getElem_toArray,List.getElem_cons_succ,List.getElem_cons_zero]
 have hHeld:(fun V=>au 61 (w.heap.size) #[.bool (h 0).s,.slice (h 0).A (h 0).n (h 0).c,.bool (h 0).t,.slice (h 0).B (h 0).m (h 0).d,.bool (h 1).s,.slice (h 1).A (h 1).n (h 1).c,.bool (h 1).t,.slice (h 1).B (h 1).m (h 1).d,.bool (h 2).s,.slice (h 2).A (h 2).n (h 2).c,.bool (h 2).t,.slice (h 2).B (h 2).m (h 2).d,.bool (h 3).s,.slice (h 3).A (h 3).n (h 3).c,.bool (h 3).t,.slice (h 3).B (h 3).m (h 3).d,.bool (h 4).s,.slice (h 4).A (h 4).n (h 4).c,.bool (h 4).t,.slice (h 4).B (h 4).m (h 4).d,.bool (h 5).s,.slice (h 5).A (h 5).n (h 5).c,.bool (h 5).t,.slice (h 5).B (h 5).m (h 5).d,.bool (h 6).s,.slice (h 6).A (h 6).n (h 6).c,.bool (h 6).t,.slice (h 6).B (h 6).m (h 6).d,.bool (h 7).s,.slice (h 7).A (h 7).n (h 7).c,.bool (h 7).t,.slice (h 7).B (h 7).m (h 7).d,.bool (h 8).s,.slice (h 8).A (h 8).n (h 8).c,.bool (h 8).t,.slice (h 8).B (h 8).m (h 8).d,.bool (h 9).s,.slice (h 9).A (h 9).n (h 9).c,.bool (h 9).t,.slice (h 9).B (h 9).m (h 9).d,.bool (h 10).s,.slice (h 10).A (h 10).n (h 10).c,.bool (h 10).t,.slice (h 10).B (h 10).m (h 10).d] V) W4:=hE.h5;refine r1 9 (fun K hK=> ?_)
 have kF:w.heap.size<=Qh:=by omega
 obtain⟨vw,vz,Dy,Dz⟩:=(hE.g0).c4;obtain⟨vA,vB,DA,DB⟩:=hE.g0.f4;replace hE:=((((((((((Env.again (bW hE.ax kF (.bool sy) (.slice Ay ny cy) (.bool ty) (.slice By my dy))).fv ((hE.h8).ak hE.g0 rfl _ _ _ _ rfl rfl rfl)).fv ((hE.h7).ak hE.g0 rfl _ _ _ _ rfl rfl rfl)).fv ((hE.h6).ak hE.g0 rfl _ _ _ _ rfl rfl rfl)).ag ((hE.h5).aj (by omega) _ _ _ _)).ag ((hE.h4).aj (by omega) _ _ _ _)).ag ((hE.h3).aj (by omega) _ _ _ _)).fv ((hE.h2).ak hE.g0 rfl _ _ _ _ rfl rfl rfl)).fv ((hE.g1).ak hE.g0 rfl _ _ _ _ rfl rfl rfl)).ag ((hE.g0).s4 _ _ _ _));go_simp;clear vw vz Dy Dz vA vB DA DB kF;generalize ((((W4.setCell ⟨Qh,0,none⟩ (.bool sy)).setCell ⟨Qh,1,none⟩ (.slice Ay ny cy)).setCell ⟨Qh,2,none⟩ (.bool ty)).setCell ⟨Qh,3,none⟩ (.slice By my dy))=W17 at hE⊢;refine hK.out _ _ (hE.h5) (fun hHeld=> ?_);clear hK K;try simp only[PL]
 refine aX (by kernel_rfl) ?_ _;have jS:=(hE.h3).cell 0
 go_upto_region 7 with(fail)
 clear jS;obtain⟨kT,kB,lV,lW⟩:=(hE.g0).c4
 have cS:w.heap.size<=w.heap.size+1:=by omega
 obtain⟨WW,bn,hB,hV,aM⟩:=aR hE hE.h4 cS hE.g1 cy dy;obtain⟨x0,x1,x2,x3⟩:=(hE.h4).c4;obtain⟨fL,fM,fV,fW⟩:=hE.h4.f4;have bR:=af bn;clear bn;go_wp2_with fail
 clear kT kB lV lW;rw[<-bR.out];obtain⟨y0,y1,y2,y3⟩:=hB.c4;refine aK (v:= .tuple #[.agg (az sy Ay ny cy ty By my dy),.int .i64 0]) (by simp[results,Tryz.results37,go_sem,y0,y1,y2,y3]) rfl ?_;exact⟨sy,Ay,ny,cy,ty,By,my,dy,rfl,hV,aM⟩
end Go.Proofs.YtclbiihcbfnjmaaGreat
