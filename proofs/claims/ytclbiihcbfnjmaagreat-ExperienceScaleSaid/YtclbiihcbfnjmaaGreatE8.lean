/-
  Parts.
-/
import Derived.Test.YtclbiihcbfnjmaaGreatE6A
set_option linter.unusedSimpArgs false
set_option maxRecDepth 100000
set_option maxHeartbeats 8000000
namespace Go.Proofs.YtclbiihcbfnjmaaGreat
open Go.RowKit

theorem tI {h:Nat->FH}{a b c:Rat}{w:World}(ha:FV w a (h 7).s (h 7).A (h 7).n (h 7).t (h 7).B (h 7).m)(hb:FV w b (h 8).s (h 8).A (h 8).n (h 8).t (h 8).B (h 8).m)(hc:FV w c (h 9).s (h 9).A (h 9).n (h 9).t (h 9).B (h 9).m)(la:fl a<=256)(lb:fl b<=256)(lc:fl c<=256)(l1:fl (a+b)<=256)(l2:fl (a+b+c)<=256):
  Calls Tryz.prog 37 #[.agg #[.bool (h 0).s,.slice (h 0).A (h 0).n (h 0).c,.bool (h 0).t,.slice (h 0).B (h 0).m (h 0).d,.bool (h 1).s,.slice (h 1).A (h 1).n (h 1).c,.bool (h 1).t,.slice (h 1).B (h 1).m (h 1).d,.bool (h 2).s,.slice (h 2).A (h 2).n (h 2).c,.bool (h 2).t,.slice (h 2).B (h 2).m (h 2).d,.bool (h 3).s,.slice (h 3).A (h 3).n (h 3).c,.bool (h 3).t,.slice (h 3).B (h 3).m (h 3).d,.bool (h 4).s,.slice (h 4).A (h 4).n (h 4).c,.bool (h 4).t,.slice (h 4).B (h 4).m (h 4).d,.bool (h 5).s,.slice (h 5).A (h 5).n (h 5).c,.bool (h 5).t,.slice (h 5).B (h 5).m (h 5).d,.bool (h 6).s,.slice (h 6).A (h 6).n (h 6).c,.bool (h 6).t,.slice (h 6).B (h 6).m (h 6).d,.bool (h 7).s,.slice (h 7).A (h 7).n (h 7).c,.bool (h 7).t,.slice (h 7).B (h 7).m (h 7).d,.bool (h 8).s,.slice (h 8).A (h 8).n (h 8).c,.bool (h 8).t,.slice (h 8).B (h 8).m (h 8).d,.bool (h 9).s,.slice (h 9).A (h 9).n (h 9).c,.bool (h 9).t,.slice (h 9).B (h 9).m (h 9).d,.bool (h 10).s,.slice (h 10).A (h 10).n (h 10).c,.bool (h 10).t,.slice (h 10).B (h 10).m (h 10).d]] w (Kt (a+b+c) w):=by
 have hE:=(((((Env.start w).fv ha).fv hb).fv hc).blk 61 #[.bool (h 0).s,.slice (h 0).A (h 0).n (h 0).c,.bool (h 0).t,.slice (h 0).B (h 0).m (h 0).d,.bool (h 1).s,.slice (h 1).A (h 1).n (h 1).c,.bool (h 1).t,.slice (h 1).B (h 1).m (h 1).d,.bool (h 2).s,.slice (h 2).A (h 2).n (h 2).c,.bool (h 2).t,.slice (h 2).B (h 2).m (h 2).d,.bool (h 3).s,.slice (h 3).A (h 3).n (h 3).c,.bool (h 3).t,.slice (h 3).B (h 3).m (h 3).d,.bool (h 4).s,.slice (h 4).A (h 4).n (h 4).c,.bool (h 4).t,.slice (h 4).B (h 4).m (h 4).d,.bool (h 5).s,.slice (h 5).A (h 5).n (h 5).c,.bool (h 5).t,.slice (h 5).B (h 5).m (h 5).d,.bool (h 6).s,.slice (h 6).A (h 6).n (h 6).c,.bool (h 6).t,.slice (h 6).B (h 6).m (h 6).d,.bool (h 7).s,.slice (h 7).A (h 7).n (h 7).c,.bool (h 7).t,.slice (h 7).B (h 7).m (h 7).d,.bool (h 8).s,.slice (h 8).A (h 8).n (h 8).c,.bool (h 8).t,.slice (h 8).B (h 8).m (h 8).d,.bool (h 9).s,.slice (h 9).A (h 9).n (h 9).c,.bool (h 9).t,.slice (h 9).B (h 9).m (h 9).d,.bool (h 10).s,.slice (h 10).A (h 10).n (h 10).c,.bool (h 10).t,.slice (h 10).B (h 10).m (h 10).d] (g:=w.heap.size) rfl).blk 29 aY (g:=w.heap.size+1) (by simp)
 obtain⟨W0,aC⟩:∃W0,W0=(w.alloc (.cells #[.bool (h 0).s,.slice (h 0).A (h 0).n (h 0).c,.bool (h 0).t,.slice (h 0).B (h 0).m (h 0).d,.bool (h 1).s,.slice (h 1).A (h 1).n (h 1).c,.bool (h 1).t,.slice (h 1).B (h 1).m (h 1).d,.bool (h 2).s,.slice (h 2).A (h 2).n (h 2).c,.bool (h 2).t,.slice (h 2).B (h 2).m (h 2).d,.bool (h 3).s,.slice (h 3).A (h 3).n (h 3).c,.bool (h 3).t,.slice (h 3).B (h 3).m (h 3).d,.bool (h 4).s,.slice (h 4).A (h 4).n (h 4).c,.bool (h 4).t,.slice (h 4).B (h 4).m (h 4).d,.bool (h 5).s,.slice (h 5).A (h 5).n (h 5).c,.bool (h 5).t,.slice (h 5).B (h 5).m (h 5).d,.bool (h 6).s,.slice (h 6).A (h 6).n (h 6).c,.bool (h 6).t,.slice (h 6).B (h 6).m (h 6).d,.bool (h 7).s,.slice (h 7).A (h 7).n (h 7).c,.bool (h 7).t,.slice (h 7).B (h 7).m (h 7).d,.bool (h 8).s,.slice (h 8).A (h 8).n (h 8).c,.bool (h 8).t,.slice (h 8).B (h 8).m (h 8).d,.bool (h 9).s,.slice (h 9).A (h 9).n (h 9).c,.bool (h 9).t,.slice (h 9).B (h 9).m (h 9).d,.bool (h 10).s,.slice (h 10).A (h 10).n (h 10).c,.bool (h 10).t,.slice (h 10).B (h 10).m (h 10).d] 61)).alloc (.cells aY 29):=⟨_,rfl⟩
 rw[<-aC] at hE;have aU:=Lib.hid aC;clear aC
 go_enter Tryz.func37,Tryz.ntmps37
 go_upto_region 1 with(fail)
 rw[<-aU.out];have k1:=(hE.here.1.2).cell 28;have k2:=(hE.here.1.2).cell 29;have k3:=(hE.here.1.2).cell 30;have k4:=(hE.here.1.2).cell 31;go_wp2_with fail
 refine hE.br (mG (c:=(h 7).c) (d:=(h 7).d) (hE.h4) la) ?_;clear hE k1 k2 k3 k4;intro w5 hE;have k6:=(hE.here.1.2).cell 32;have k7:=(hE.here.1.2).cell 33;have k8:=(hE.here.1.2).cell 34;have k9:=(hE.here.1.2).cell 35;go_wp2_with fail
 refine hE.br (mG (c:=(h 8).c) (d:=(h 8).d) (hE.h3) lb) ?_;clear hE k6 k7 k8 k9;intro yx hE;have cS:=(hE.here.1.2).cell 36;have cZ:=(hE.here.1.2).cell 37;have dG:=(hE.here.1.2).cell 38;have dN:=(hE.here.1.2).cell 39;go_wp2_with fail
 refine hE.br (mG (c:=(h 9).c) (d:=(h 9).d) (hE.h2) lc) ?_;clear hE cS cZ dG dN;intro w15 hE
 go_upto_region 4 with(fail)
 obtain⟨g16,qw⟩:∃g16,g16=w15.heap.size:=⟨_,rfl⟩
 have aai:w.heap.size<g16:=by rw[qw];exact(hE.here.1.2).lt
 have al5:w.heap.size+1<g16:=by rw[qw];exact(hE.here.2).lt
 replace hE:=hE.blk 120 #[.int .i64 0] (g:=g16) qw.symm;generalize w15.alloc (.cells #[.int .i64 0] 120)=W16 at hE⊢;rw[<-qw];clear qw;replace hE:=hE.drew;refine wp_region_held_drew (S:=fun V=>ak 61 (w.heap.size) #[.bool (h 0).s,.slice (h 0).A (h 0).n (h 0).c,.bool (h 0).t,.slice (h 0).B (h 0).m (h 0).d,.bool (h 1).s,.slice (h 1).A (h 1).n (h 1).c,.bool (h 1).t,.slice (h 1).B (h 1).m (h 1).d,.bool (h 2).s,.slice (h 2).A (h 2).n (h 2).c,.bool (h 2).t,.slice (h 2).B (h 2).m (h 2).d,.bool (h 3).s,.slice (h 3).A (h 3).n (h 3).c,.bool (h 3).t,.slice (h 3).B (h 3).m (h 3).d,.bool (h 4).s,.slice (h 4).A (h 4).n (h 4).c,.bool (h 4).t,.slice (h 4).B (h 4).m (h 4).d,.bool (h 5).s,.slice (h 5).A (h 5).n (h 5).c,.bool (h 5).t,.slice (h 5).B (h 5).m (h 5).d,.bool (h 6).s,.slice (h 6).A (h 6).n (h 6).c,.bool (h 6).t,.slice (h 6).B (h 6).m (h 6).d,.bool (h 7).s,.slice (h 7).A (h 7).n (h 7).c,.bool (h 7).t,.slice (h 7).B (h 7).m (h 7).d,.bool (h 8).s,.slice (h 8).A (h 8).n (h 8).c,.bool (h 8).t,.slice (h 8).B (h 8).m (h 8).d,.bool (h 9).s,.slice (h 9).A (h 9).n (h 9).c,.bool (h 9).t,.slice (h 9).B (h 9).m (h 9).d,.bool (h 10).s,.slice (h 10).A (h 10).n (h 10).c,.bool (h 10).t,.slice (h 10).B (h 10).m (h 10).d] V) (by kernel_rfl) (hE.h2) (fun hHeld=> ?_)
 generalize W16.drew=wd at*
 refine tk 0 ?_
 refine tk 1 ?_ (hy:=by
  intro w ay;have alp:=(ay).cell 28;have alq:=(ay).cell 29;have alr:=(ay).cell 30;have aqw:=(ay).cell 31;clear ay
  first|(go_simp;done)|(go_simp;with_reducible rfl))
 try simp only[PL]
 refine tk 2 ?_
 refine tk 3 ?_ (hy:=by
  intro w ay;have aqx:=(ay).cell 32;have aqy:=(ay).cell 33;have aqz:=(ay).cell 34;have aqA:=(ay).cell 35;clear ay
  first|(go_simp;done)|(go_simp;with_reducible rfl))
 try simp only[PL]
 refine tk 5 ?_
 refine tk 6 ?_ (hy:=by
  intro w ay;have aqB:=(ay).cell 36;have aqC:=(ay).cell 37;have aqD:=(ay).cell 38;have aqE:=(ay).cell 39;clear ay
  first|(go_simp;done)|(go_simp;with_reducible rfl))
 try simp only[PL]
 obtain⟨B4,ED⟩:∃B,B=wd.heap.size:=⟨_,rfl⟩
 have WB:w.heap.size<=B4:=by rw[ED];exact hE.av.size
 have aoX:w.heap.size<B4:=by rw[ED];exact(hE.h2).lt
 have aoY:w.heap.size+1<B4:=by rw[ED];exact(hE.here.1.2).lt
 have aoZ:g16<B4:=by rw[ED];exact(hE.here.2).lt
 refine dP (I:=cN w _ _ B4 [⟨4,27,eH (a+b)⟩,⟨7,30,eH (a+b+c)⟩,⟨8,5,jv 29 aY B4⟩]) [4,7,8] (f1:=1) (by kernel_rfl) (by kernel_rfl) (by kernel_rfl) rfl (by kernel_rfl) (by kernel_rfl) (by rfl) (cN.start hE ED (by kernel_rfl)) ?Et ?akW
 case Et=>
  have hst:∀g∈([⟨4,27,eH (a+b)⟩,⟨7,30,eH (a+b+c)⟩,⟨8,5,jv 29 aY B4⟩]:List bz),∀x,bq (g.R x):=(fun g hg=>by simp only[List.mem_cons,List.not_mem_nil,or_false] at hg;rcases hg with rfl|rfl|rfl<;>first|exact eH.stable _|exact jv.stable _ _ _|exact Kv.stable _|exact Kw.stable _)
  clear hE hHeld ED;refine aH.cons (ds:=[1,3]) rfl (by kernel_rfl) (fun D a W0 hI hD K hK=> ?_) ?_
  ·
   have hE:=hI.here;obtain⟨xs,rfl,-,hF,-,-⟩:=id hI;obtain⟨aao,xs,rfl,Jg,hF⟩:=hF.ag;obtain⟨aap,xs,rfl,Nz,hF⟩:=hF.ag;obtain⟨aaq,xs,rfl,NA,hF⟩:=hF.ag;obtain rfl:=hF.nil;clear hF;try simp only[aT,Act.put,List.setIfInBounds_toArray,List.set_cons_zero,List.set_cons_succ,List.getElem_toArray,List.getElem_cons_succ,List.getElem_cons_zero]
   go_simp;refine(ou (ca:=(h 7).c) (da:=(h 7).d) (cb:=(h 8).c) (db:=(h 8).d) (⟨_,_,hE.here.2,rfl⟩:ji g16 _) (hE.h5) (hE.h4) la lb l1).mono ?_
   rintro e W1 ⟨sx,Ax,nx,cx,tx,Bx,mx,dx,rfl,hv,hb⟩
   have bG:=hE.step hb;go_wp2_with fail
   refine hK.out _ _ (bG.here.1.1.2) ?_;exact hI.call (c:=cx) (d:=dx) 0 hst rfl (by kernel_rfl) (by kernel_rfl) (by kernel_rfl) hb hv
  refine aH.cons (ds:=[4,6,4]) rfl (by kernel_rfl) (fun D a W0 hI hD K hK=> ?_) ?_
  ·
   have hE:=hI.here;obtain⟨xs,rfl,-,hF,-,-⟩:=id hI;obtain⟨aao,xs,rfl,Jg,hF⟩:=hF.ag;obtain⟨aap,xs,rfl,Nz,hF⟩:=hF.ag;obtain⟨aaq,xs,rfl,NA,hF⟩:=hF.ag;obtain rfl:=hF.nil;clear hF;try simp only[aT,Act.put,List.setIfInBounds_toArray,List.set_cons_zero,List.set_cons_succ,List.getElem_toArray,List.getElem_cons_succ,List.getElem_cons_zero]
   obtain⟨sx,Ax,nx,cx,tx,Bx,mx,dx,rfl,hq⟩:=Jg (hD 4 (by simp));replace hE:=hE.fv hq;clear hq;go_simp;refine(ou (ca:=cx) (da:=dx) (cb:=(h 9).c) (db:=(h 9).d) (⟨_,_,hE.here.1.2,rfl⟩:ji g16 _) (hE.here.2) (hE.h4) l1 lc l2).mono ?_
   rintro e W1 ⟨sy,Ay,ny,cy,ty,By,my,dy,rfl,hv,hb⟩
   have bG:=hE.step hb;go_wp2_with fail
   refine hK.out _ _ (bG.here.1.1.1.2) ?_;exact hI.call (c:=cy) (d:=dy) 1 hst rfl (by kernel_rfl) (by kernel_rfl) (by kernel_rfl) hb hv
  refine aH.cons (ds:=[]) rfl (by kernel_rfl) (fun D a W0 hI hD K hK=> ?_) ?_
  ·
   have hE:=hI.here;obtain⟨xs,rfl,-,hF,-,-⟩:=id hI;obtain⟨aao,xs,rfl,Jg,hF⟩:=hF.ag;obtain⟨aap,xs,rfl,Nz,hF⟩:=hF.ag;obtain⟨aaq,xs,rfl,NA,hF⟩:=hF.ag;obtain rfl:=hF.nil;clear hF;try simp only[aT,Act.put,List.setIfInBounds_toArray,List.set_cons_zero,List.set_cons_succ,List.getElem_toArray,List.getElem_cons_succ,List.getElem_cons_zero]
   go_simp;have bG:=hE.alloc (.cells aY 29);refine hK.out _ _ (bG.here.1.1.2) ?_;exact hI.alloc 2 hst rfl (by kernel_rfl) (by kernel_rfl) (by kernel_rfl)
  exact aH.nil
 clear hE hHeld ED;intro D a W4 hI hD;have hE:=hI.here;obtain⟨xs,rfl,-,hF,hA,-⟩:=id hI;clear hI;obtain⟨aao,xs,rfl,Jg,hF⟩:=hF.ag;obtain⟨aap,xs,rfl,Nz,hF⟩:=hF.ag;obtain⟨aaq,xs,rfl,NA,hF⟩:=hF.ag;obtain rfl:=hF.nil;clear hF;obtain⟨sx,Ax,nx,cx,tx,Bx,mx,dx,rfl,NB⟩:=Jg (hD 4 (by simp));obtain⟨sy,Ay,ny,cy,ty,By,my,dy,rfl,Nh⟩:=Nz (hD 7 (by simp));obtain⟨NC,rfl,ao0,hq8⟩:=NA (hD 8 (by simp));replace hE:=(((hE.fv NB).fv Nh).af hq8);clear hA hD NB Jg Nh Nz hq8 NA;try simp only[aT,Act.put,List.setIfInBounds_toArray,List.set_cons_zero,List.set_cons_succ,List.getElem_toArray,List.getElem_cons_succ,List.getElem_cons_zero]
 have hHeld:(fun V=>ak 61 (w.heap.size) #[.bool (h 0).s,.slice (h 0).A (h 0).n (h 0).c,.bool (h 0).t,.slice (h 0).B (h 0).m (h 0).d,.bool (h 1).s,.slice (h 1).A (h 1).n (h 1).c,.bool (h 1).t,.slice (h 1).B (h 1).m (h 1).d,.bool (h 2).s,.slice (h 2).A (h 2).n (h 2).c,.bool (h 2).t,.slice (h 2).B (h 2).m (h 2).d,.bool (h 3).s,.slice (h 3).A (h 3).n (h 3).c,.bool (h 3).t,.slice (h 3).B (h 3).m (h 3).d,.bool (h 4).s,.slice (h 4).A (h 4).n (h 4).c,.bool (h 4).t,.slice (h 4).B (h 4).m (h 4).d,.bool (h 5).s,.slice (h 5).A (h 5).n (h 5).c,.bool (h 5).t,.slice (h 5).B (h 5).m (h 5).d,.bool (h 6).s,.slice (h 6).A (h 6).n (h 6).c,.bool (h 6).t,.slice (h 6).B (h 6).m (h 6).d,.bool (h 7).s,.slice (h 7).A (h 7).n (h 7).c,.bool (h 7).t,.slice (h 7).B (h 7).m (h 7).d,.bool (h 8).s,.slice (h 8).A (h 8).n (h 8).c,.bool (h 8).t,.slice (h 8).B (h 8).m (h 8).d,.bool (h 9).s,.slice (h 9).A (h 9).n (h 9).c,.bool (h 9).t,.slice (h 9).B (h 9).m (h 9).d,.bool (h 10).s,.slice (h 10).A (h 10).n (h 10).c,.bool (h 10).t,.slice (h 10).B (h 10).m (h 10).d] V) W4:=hE.h5;refine r1 9 (fun K hK=> ?_)
 have rF:w.heap.size<=NC:=by omega
 obtain⟨BS,je,BU,jf⟩:=(hE.here.2).c4;obtain⟨BV,BW,BX,BZ⟩:=hE.here.2.f4;replace hE:=((((((((((Env.again (ck hE.av rF (.bool sy) (.slice Ay ny cy) (.bool ty) (.slice By my dy))).fv ((hE.h8).aq hE.here.2 rfl _ _ _ _ rfl rfl rfl)).fv ((hE.h7).aq hE.here.2 rfl _ _ _ _ rfl rfl rfl)).fv ((hE.h6).aq hE.here.2 rfl _ _ _ _ rfl rfl rfl)).af ((hE.h5).ai (by omega) _ _ _ _)).af ((hE.h4).ai (by omega) _ _ _ _)).af ((hE.h3).ai (by omega) _ _ _ _)).fv ((hE.h2).aq hE.here.2 rfl _ _ _ _ rfl rfl rfl)).fv ((hE.here.1.2).aq hE.here.2 rfl _ _ _ _ rfl rfl rfl)).af ((hE.here.2).s4 _ _ _ _));go_simp;clear BS je BU jf BV BW BX BZ rF;generalize ((((W4.setCell ⟨NC,0,none⟩ (.bool sy)).setCell ⟨NC,1,none⟩ (.slice Ay ny cy)).setCell ⟨NC,2,none⟩ (.bool ty)).setCell ⟨NC,3,none⟩ (.slice By my dy))=Wu at hE⊢;refine hK.out _ _ (hE.h5) (fun hHeld=> ?_);clear hK K;try simp only[PL]
 refine wpAnyH_done (by kernel_rfl) ?_ _;have jx:=(hE.h3).cell 0
 go_upto_region 7 with(fail)
 clear jx;obtain⟨lO,kI,og,mQ⟩:=(hE.here.2).c4
 have cA:w.heap.size<=w.heap.size+1:=by omega
 obtain⟨WW,bn,hB,hV,aQ⟩:=aO hE hE.h4 cA hE.here.1.2 cy dy;obtain⟨x0,x1,x2,x3⟩:=(hE.h4).c4;obtain⟨fQ,fR,gJ,gK⟩:=hE.h4.f4;have bJ:=Lib.hid bn;clear bn;go_wp2_with fail
 clear lO kI og mQ;rw[<-bJ.out];obtain⟨y0,y1,y2,y3⟩:=hB.c4;refine bodyPost_ret (v:= .tuple #[.agg (az sy Ay ny cy ty By my dy),.int .i64 0]) (by simp[results,Tryz.results37,go_sem,y0,y1,y2,y3]) rfl ?_;exact⟨sy,Ay,ny,cy,ty,By,my,dy,rfl,hV,aQ⟩
end Go.Proofs.YtclbiihcbfnjmaaGreat
