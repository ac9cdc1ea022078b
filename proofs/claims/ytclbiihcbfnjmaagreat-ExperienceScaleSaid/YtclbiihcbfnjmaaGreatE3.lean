/-
  Parts.
-/
import Derived.Test.YtclbiihcbfnjmaaGreatE2
import Derived.Test.YtclbiihcbfnjmaaGreatIv
set_option linter.unusedSimpArgs false
set_option maxRecDepth 100000
set_option maxHeartbeats 8000000
namespace Go.Proofs.YtclbiihcbfnjmaaGreat
open Go.RowKit

structure Ze (T:Prop):Prop where
 out:T
theorem yq {G T:Prop}(h:Ze T->G)(k:T):G:=h ⟨k⟩
theorem qh {p:Program}{f:FuncId}{args:Array Value}{w:World}{q r:Rat}(e:q=r)(h:Calls p f args w (Kt q w)):Calls p f args w (Kt r w):=e▸h
theorem Rv {x:Ct}{gw:Nat}{gA gD:Int}{b0 b1:Bh}{j:FH}{t:Nat}{w:World}(hb:b0.rd w)(hT:kL b0.n b0.r)(hR:b0.right x.E (x.Y+(t:Int)))(_:-9223372036854775808<=x.Y+(t:Int)/\x.Y+(t:Int)<=9223372036854775807)(hW:ak 125 gw (nO x (t:Int) gA gD b0 b1 j) w):
  Calls Tryz.prog 140 #[.pointer (some ⟨gw,0,none⟩)] w (FR (b0.rt x.E x.Y t) w):=by
 have uW:ak 125 gw #[.int .i64 0,.int .i64 x.E,.int .i64 x.Y,.int .i64 x.T,.bool x.p.s,.slice x.p.A x.p.n x.p.c,.bool x.p.t,.slice x.p.B x.p.m x.p.d,.slice x.A x.n x.c,.slice x.B x.m x.d,.int .i64 (t:Int),.int .i64 gA,.int .i64 gD,.int .i64 b0.F,.int .i64 b0.S,.slice b0.A b0.n b0.c,.bool b0.i.s,.slice b0.i.A b0.i.n b0.i.c,.bool b0.i.t,.slice b0.i.B b0.i.m b0.i.d,.int .i64 b1.F,.int .i64 b1.S,.slice b1.A b1.n b1.c,.bool b1.i.s,.slice b1.i.A b1.i.n b1.i.c,.bool b1.i.t,.slice b1.i.B b1.i.m b1.i.d,.bool j.s,.slice j.A j.n j.c,.bool j.t,.slice j.B j.m j.d] w:=hW;have tE:=uW.lt;have YY:=Lib.hid uW;clear uW hW
 have hmv:fr b0.F b0.S b0.n b0.r x.E (x.Y+(t:Int)) 0=b0.rt x.E x.Y t:=by rw[KI (k:=t) rfl];rfl
 have o1:IntKind.i64.wrap (x.Y+(t:Int))=x.Y+(t:Int):=by rw[IntKind.wrap_i64];omega
 have jG:=Lib.hid hb;clear hb;skip;have zK:=Lib.hid hT;clear hT;have D8:=Lib.hid hR;clear hR;have Rx:=Lib.hid hmv;clear hmv;have hE:=(Env.start w).af YY.out;have hE:=hE.blk 29 aY (g:=w.heap.size) rfl
 obtain⟨W0,aC⟩:∃W0,W0=(w.alloc (.cells aY 29)):=⟨_,rfl⟩
 rw[<-aC] at hE;have aU:=Lib.hid aC;clear aC
 go_enter Tryz.func140,Tryz.ntmps140
 go_upto_region 1 with(fail)
 rw[<-aU.out];have k1:=(hE.here.1.2).cell 0;have k2:=(hE.here.1.2).cell 1;have k3:=(hE.here.1.2).cell 2
 go_upto_region 4 with(fail)
 clear k1 k2 k3
 obtain⟨g4,FW⟩:∃g4,g4=W0.heap.size:=⟨_,rfl⟩
 have aoF:gw<g4:=by rw[FW];exact(hE.here.1.2).lt
 have aoG:w.heap.size<g4:=by rw[FW];exact(hE.here.2).lt
 replace hE:=hE.blk 33 #[.int .i64 x.E,.int .i64 x.Y] (g:=g4) FW.symm;generalize W0.alloc (.cells #[.int .i64 x.E,.int .i64 x.Y] 33)=W4 at hE⊢;rw[<-FW];clear FW;replace hE:=hE.drew;refine wp_region_held_drew (S:=fun V=>ak 125 (gw) #[.int .i64 0,.int .i64 x.E,.int .i64 x.Y,.int .i64 x.T,.bool x.p.s,.slice x.p.A x.p.n x.p.c,.bool x.p.t,.slice x.p.B x.p.m x.p.d,.slice x.A x.n x.c,.slice x.B x.m x.d,.int .i64 (t:Int),.int .i64 gA,.int .i64 gD,.int .i64 b0.F,.int .i64 b0.S,.slice b0.A b0.n b0.c,.bool b0.i.s,.slice b0.i.A b0.i.n b0.i.c,.bool b0.i.t,.slice b0.i.B b0.i.m b0.i.d,.int .i64 b1.F,.int .i64 b1.S,.slice b1.A b1.n b1.c,.bool b1.i.s,.slice b1.i.A b1.i.n b1.i.c,.bool b1.i.t,.slice b1.i.B b1.i.m b1.i.d,.bool j.s,.slice j.A j.n j.c,.bool j.t,.slice j.B j.m j.d] V/\ak 33 (g4) #[.int .i64 x.E,.int .i64 x.Y] V) (by kernel_rfl) (⟨hE.h2,hE.here.2⟩) (fun hHeld=> ?_)
 generalize W4.drew=wd at*
 apply yq;intro AQ
 ·
  refine tk 0 ?_;refine tk 1 ?_;refine tk 2 ?_;refine tk 3 ?_
  refine tk 4 ?_ (hy:=by
   intro w ay;have Mh:=(ay.1).cell 13;have Mi:=(ay.1).cell 14;have Mj:=(ay.1).cell 15;clear ay
   first|(go_simp;done)|(go_simp;with_reducible rfl))
  try simp only[PL]
  refine tk 5 ?_
  refine tk 6 ?_ (hy:=by
   intro w ay;have iM:=(ay.2).cell 0;clear ay
   first|(go_simp;done)|(go_simp;with_reducible rfl))
  try simp only[PL]
  refine tk 7 ?_
  refine tk 8 ?_ (hy:=by
   intro w ay;have iP:=(ay.2).cell 1;clear ay
   first|(go_simp;done)|(go_simp;with_reducible rfl))
  try simp only[PL]
  refine tk 9 ?_;refine tk 10 ?_;refine tk 11 ?_;refine tk 12 ?_
  refine tk 13 ?_ (hy:=by
   intro w ay;have uX:=(ay.1).cell 10;clear ay
   first|(go_simp;done)|(go_simp;with_reducible rfl))
  try simp only[PL]
  refine tk 14 ?_;refine tk 15 ?_;refine wpAnyH_ready (rs:=[16,20]) (by kernel_rfl) (by simp) (AllReadyH.cons rfl (fun K hK=> ?_) (AllReadyH.cons rfl (fun K hK=> ?_) (AllReadyH.nil)))
  ·
   go_simp;refine(qh Rx.out (oW (c:=b0.c) (jG.out.1.below hE.av) zK.out D8.out)).mono ?_
   rintro e w5 ⟨sq,Aq,nq,cq,tq,Bq,mq,dq,rfl,hq,hb⟩
   replace hE:=hE.step hb;clear hb;skip;replace hE:=hE.fv hq;clear hq;go_wp2_with fail
   refine hK.out _ _ (⟨hE.h3,hE.here.1.2⟩) (fun hHeld=> ?_);clear hK K;try simp only[PL]
   refine tk 17 ?_;refine tk 18 ?_;refine tk 19 ?_;refine r1 20 (fun K hK=> ?_);go_simp
   obtain⟨sQ,hG⟩:∃g,g=w5.heap.size:=⟨_,rfl⟩
   have Ry:w.heap.size<=sQ:=by rw[hG];exact hE.av.size
   have yt:gw<sQ:=by rw[hG];exact(hE.h3).lt
   have yu:w.heap.size<sQ:=by rw[hG];exact(hE.h2).lt
   have yw:g4<sQ:=by rw[hG];exact(hE.here.1.2).lt
   replace hE:=hE.blk 29 aY (g:=sQ) hG.symm;generalize w5.alloc (.cells aY 29)=WA at hE⊢;rw[<-hG];clear hG;refine hK.out _ _ (⟨hE.h4,hE.h2⟩) (fun hHeld=> ?_);clear hK K;try simp only[PL]
   refine r1 21 (fun K hK=> ?_)
   have tK:w.heap.size<=sQ:=by omega
   obtain⟨En,Mk,Ml,Mm⟩:=(hE.here.2).c4;obtain⟨Eo,Mn,Mo,Mp⟩:=hE.here.2.f4;replace hE:=((((((Env.again (ck hE.av tK (.bool sq) (.slice Aq nq cq) (.bool tq) (.slice Bq mq dq))).af ((hE.h4).ai (by omega) _ _ _ _)).af ((hE.h3).ai (by omega) _ _ _ _)).af ((hE.h2).ai (by omega) _ _ _ _)).fv ((hE.here.1.2).aq hE.here.2 rfl _ _ _ _ rfl rfl rfl)).af ((hE.here.2).s4 _ _ _ _));go_simp;clear En Mk Ml Mm Eo Mn Mo Mp tK;generalize ((((WA.setCell ⟨sQ,0,none⟩ (.bool sq)).setCell ⟨sQ,1,none⟩ (.slice Aq nq cq)).setCell ⟨sQ,2,none⟩ (.bool tq)).setCell ⟨sQ,3,none⟩ (.slice Bq mq dq))=W6 at hE⊢;refine hK.out _ _ (⟨hE.h4,hE.h2⟩) (fun hHeld=> ?_);clear hK K;try simp only[PL]
   have bG:=((((((Env.again hE.av).af (hE.h4)).af (hE.h3)).af (hE.h2)).fv (hE.here.1.2)).af (hE.here.2));clear hE hHeld
   revert bG;revert yw;revert yu;revert yt;revert Ry;revert W6;revert sQ;revert dq;revert mq;revert Bq;revert tq;revert cq;revert nq;revert Aq;revert sq
   exact AQ.out
  ·
   go_simp
   obtain⟨sQ,hG⟩:∃g,g=wd.heap.size:=⟨_,rfl⟩
   have Ry:w.heap.size<=sQ:=by rw[hG];exact hE.av.size
   have yt:gw<sQ:=by rw[hG];exact(hE.h2).lt
   have yu:w.heap.size<sQ:=by rw[hG];exact(hE.here.1.2).lt
   have yw:g4<sQ:=by rw[hG];exact(hE.here.2).lt
   replace hE:=hE.blk 29 aY (g:=sQ) hG.symm;generalize wd.alloc (.cells aY 29)=WA at hE⊢;rw[<-hG];clear hG;refine hK.out _ _ (⟨hE.h3,hE.here.1.2⟩) (fun hHeld=> ?_);clear hK K;try simp only[PL]
   refine r1 16 (fun K hK=> ?_);go_simp;refine(qh Rx.out (oW (c:=b0.c) (jG.out.1.below hE.av) zK.out D8.out)).mono ?_
   rintro e w7 ⟨sq,Aq,nq,cq,tq,Bq,mq,dq,rfl,hq,hb⟩
   replace hE:=hE.step hb;clear hb;skip;replace hE:=hE.fv hq;clear hq;go_wp2_with fail
   refine hK.out _ _ (⟨hE.h4,hE.h2⟩) (fun hHeld=> ?_);clear hK K;try simp only[PL]
   refine tk 17 ?_;refine tk 18 ?_;refine tk 19 ?_;refine r1 21 (fun K hK=> ?_)
   have ad1:w.heap.size<=sQ:=by omega
   obtain⟨akn,ako,akp,akq⟩:=(hE.here.1.2).c4;obtain⟨akr,aks,akt,aku⟩:=hE.here.1.2.f4;replace hE:=((((((Env.again (ck hE.av ad1 (.bool sq) (.slice Aq nq cq) (.bool tq) (.slice Bq mq dq))).af ((hE.h4).ai (by omega) _ _ _ _)).af ((hE.h3).ai (by omega) _ _ _ _)).af ((hE.h2).ai (by omega) _ _ _ _)).af ((hE.here.1.2).s4 _ _ _ _)).fv ((hE.here.2).aq hE.here.1.2 rfl _ _ _ _ rfl rfl rfl));go_simp;clear akn ako akp akq akr aks akt aku ad1;generalize ((((w7.setCell ⟨sQ,0,none⟩ (.bool sq)).setCell ⟨sQ,1,none⟩ (.slice Aq nq cq)).setCell ⟨sQ,2,none⟩ (.bool tq)).setCell ⟨sQ,3,none⟩ (.slice Bq mq dq))=W8 at hE⊢;refine hK.out _ _ (⟨hE.h4,hE.h2⟩) (fun hHeld=> ?_);clear hK K;try simp only[PL]
   have bG:=((((((Env.again hE.av).af (hE.h4)).af (hE.h3)).af (hE.h2)).fv (hE.here.2)).af (hE.here.1.2));clear hE hHeld;exact AQ.out sq Aq nq cq tq Bq mq dq sQ W8 Ry yt yu yw bG
 ·
  intro sq Aq nq cq tq Bq mq dq sQ wJ Ry yt yu yw hE;have hHeld:(fun V=>ak 125 (gw) #[.int .i64 0,.int .i64 x.E,.int .i64 x.Y,.int .i64 x.T,.bool x.p.s,.slice x.p.A x.p.n x.p.c,.bool x.p.t,.slice x.p.B x.p.m x.p.d,.slice x.A x.n x.c,.slice x.B x.m x.d,.int .i64 (t:Int),.int .i64 gA,.int .i64 gD,.int .i64 b0.F,.int .i64 b0.S,.slice b0.A b0.n b0.c,.bool b0.i.s,.slice b0.i.A b0.i.n b0.i.c,.bool b0.i.t,.slice b0.i.B b0.i.m b0.i.d,.int .i64 b1.F,.int .i64 b1.S,.slice b1.A b1.n b1.c,.bool b1.i.s,.slice b1.i.A b1.i.n b1.i.c,.bool b1.i.t,.slice b1.i.B b1.i.m b1.i.d,.bool j.s,.slice j.A j.n j.c,.bool j.t,.slice j.B j.m j.d] V/\ak 33 (g4) #[.int .i64 x.E,.int .i64 x.Y] V) wJ:=⟨hE.h4,hE.h2⟩;refine tk 22 ?_;refine wpAnyH_done (by kernel_rfl) ?_ _;have s0:=(hE.h4).cell 0;have s1:=(hE.h4).frozen 0
  go_upto_region 6 with(fail)
  rw[fW (show World.cell? _ ⟨gw,0,none⟩=some (.int .i64 0) from s0)];clear s0 s1;obtain⟨k9,eG,cS,cZ⟩:=(hE.here.2).c4
  have cA:w.heap.size<=w.heap.size:=by omega
  obtain⟨WW,bn,hB,hV,aQ⟩:=aO hE hE.h3 cA hE.here.1.2 cq dq;obtain⟨x0,x1,x2,x3⟩:=(hE.h3).c4;obtain⟨fQ,fR,gJ,gK⟩:=hE.h3.f4;have bJ:=Lib.hid bn;clear bn;go_wp2_with fail
  clear k9 eG cS cZ;rw[<-bJ.out];obtain⟨y0,y1,y2,y3⟩:=hB.c4;refine bodyPost_ret (v:= .agg (az sq Aq nq cq tq Bq mq dq)) (by simp[results,Tryz.results140,go_sem,y0,y1,y2,y3]) rfl ?_;exact⟨sq,Aq,nq,cq,tq,Bq,mq,dq,rfl,hV,aQ⟩
theorem tL {b:Bh}{E Y:Int}{w:World}(hb:b.rd w)(hT:kL b.n b.r)(hR:b.right E Y)(k:Nat)(hk:k<=9223372036854775807):
  Calls Tryz.prog 99 #[.agg b.C,.agg #[.int .i64 E,.int .i64 Y],.int .i64 (k:Int)] w (fY (pr (b.rt E Y) k≠0) w):=by
 have jG:=Lib.hid hb;clear hb;have zK:=Lib.hid hT;clear hT;have D8:=Lib.hid hR;clear hR;have hE:=((Env.start w).blk 31 b.C (g:=w.heap.size) rfl).blk 33 #[.int .i64 E,.int .i64 Y] (g:=w.heap.size+1) (by simp)
 obtain⟨W0,aC⟩:∃W0,W0=((w.alloc (.cells b.C 31)).alloc (.cells #[.int .i64 E,.int .i64 Y] 33)):=⟨_,rfl⟩
 rw[<-aC] at hE;have aU:=Lib.hid aC;clear aC
 go_enter Tryz.func99,Tryz.ntmps99
 go_upto_region 1 with(fail)
 rw[<-aU.out];obtain⟨k1,k2,k3,k4,k5,k6,k7⟩:=(hE.here.1.2).c7;obtain⟨k8,k9⟩:=(hE.here.2).c2;go_wp2_with fail
 refine hE.fr (Mq (c:=b.c) (jG.out.1.below hE.av) zK.out D8.out k hk) ?_;clear hE k1 k2 k3 k4 k5 k6 k7 k8 k9;intro sq Aq nq cq tq Bq mq dq yx hE
 go_upto_region 2 with(fail)
 obtain⟨g11,mD⟩:∃g11,g11=yx.heap.size:=⟨_,rfl⟩
 have Mr:w.heap.size<g11:=by rw[mD];exact(hE.h2).lt
 have akv:w.heap.size+1<g11:=by rw[mD];exact(hE.here.1.2).lt
 replace hE:=hE.blk 29 (az sq Aq nq cq tq Bq mq dq) (g:=g11) mD.symm;generalize yx.alloc (.cells (az sq Aq nq cq tq Bq mq dq) 29)=W11 at hE⊢;rw[<-mD];clear mD;obtain⟨cZ,dG,dN,fP⟩:=(hE.here.2).c4;go_wp2_with fail
 clear cZ dG dN fP;refine(IQ (ca:=cq) (da:=dq) (hE.here.1.2)).mono ?_
 rintro e w9 ⟨v,rfl,hv,hb⟩
 replace hE:=hE.step hb;clear hb;have VK:=Lib.hid hv;clear hv;go_wp2_with fail
 go_ret
 exact⟨!v,rfl,by have h1:=VK.out;rw[Rat.num_eq_zero] at h1;have h2:v=true↔pr (b.rt E Y) k=0:=h1;rw[ne_eq,<-h2];cases v<;>simp,hE.av⟩
end Go.Proofs.YtclbiihcbfnjmaaGreat
