/-
  Parts.
-/
import Derived.Test.YtclbiihcbfnjmaaGreatK23
import Derived.Test.YtclbiihcbfnjmaaGreatE1
set_option linter.unusedSimpArgs false
set_option maxRecDepth 100000
set_option maxHeartbeats 8000000
namespace Go.Proofs.YtclbiihcbfnjmaaGreat
open Go.RowKit

def nO (x:Ct)(gT gA gD:Int)(b0 b1:Bh)(j:FH):Array Value:=#[.int .i64 0,.int .i64 x.E,.int .i64 x.Y,.int .i64 x.T,.bool x.p.s,.slice x.p.A x.p.n x.p.c,.bool x.p.t,.slice x.p.B x.p.m x.p.d,.slice x.A x.n x.c,.slice x.B x.m x.d,.int .i64 gT,.int .i64 gA,.int .i64 gD,.int .i64 b0.F,.int .i64 b0.S,.slice b0.A b0.n b0.c,.bool b0.i.s,.slice b0.i.A b0.i.n b0.i.c,.bool b0.i.t,.slice b0.i.B b0.i.m b0.i.d,.int .i64 b1.F,.int .i64 b1.S,.slice b1.A b1.n b1.c,.bool b1.i.s,.slice b1.i.A b1.i.n b1.i.c,.bool b1.i.t,.slice b1.i.B b1.i.m b1.i.d,.bool j.s,.slice j.A j.n j.c,.bool j.t,.slice j.B j.m j.d]
theorem cD {x:Ct}{gT gA gD:Int}{b0 b1:Bh}{j:FH}{g:Nat}{W:World}(h:ak 125 g (nO x gT gA gD b0 b1 j) W):ji g W:=⟨_,_,h,rfl⟩
theorem ow {b:Bh}{x:Ct}{gw:Nat}{gT gA gD:Int}{b0 b1:Bh}{j:FH}{w:World}(hb:b.rd w)(lS:b.bd)(hx:x.rd w)(iB:x.bd)(hok:x.ok b)(N:Nat)(hN:kH b.v (b.rt x.E x.Y) N)(kM:N<=80)(hW:ak 125 gw (nO x gT gA gD b0 b1 j) w)(t:Nat)(uS:t<=9223372036854775807):
  Calls Tryz.prog 138 #[.pointer (some ⟨gw,0,none⟩),.agg b.C,.int .i64 (t:Int)] w (FR (b.val x N t) w):=by
 by_cases ht:t<N
 ·
  have jG:=Lib.hid hb;clear hb;have fS:=Lib.hid lS;clear lS;have mB:=Lib.hid hx;clear hx;have fZ:=Lib.hid iB;clear iB;have kQ:=Lib.hid hok;clear hok;have p6:=Lib.hid hN;clear hN;have uW:ak 125 gw #[.int .i64 0,.int .i64 x.E,.int .i64 x.Y,.int .i64 x.T,.bool x.p.s,.slice x.p.A x.p.n x.p.c,.bool x.p.t,.slice x.p.B x.p.m x.p.d,.slice x.A x.n x.c,.slice x.B x.m x.d,.int .i64 gT,.int .i64 gA,.int .i64 gD,.int .i64 b0.F,.int .i64 b0.S,.slice b0.A b0.n b0.c,.bool b0.i.s,.slice b0.i.A b0.i.n b0.i.c,.bool b0.i.t,.slice b0.i.B b0.i.m b0.i.d,.int .i64 b1.F,.int .i64 b1.S,.slice b1.A b1.n b1.c,.bool b1.i.s,.slice b1.i.A b1.i.n b1.i.c,.bool b1.i.t,.slice b1.i.B b1.i.m b1.i.d,.bool j.s,.slice j.A j.n j.c,.bool j.t,.slice j.B j.m j.d] w:=hW;have tE:=uW.lt;have YY:=Lib.hid uW;clear uW;have hE:=((Env.start w).af YY.out).blk 31 b.C (g:=w.heap.size) rfl;have hE:=hE.blk 29 aY (g:=w.heap.size+1) (by simp)
  obtain⟨W0,aC⟩:∃W0,W0=((w.alloc (.cells b.C 31)).alloc (.cells aY 29)):=⟨_,rfl⟩
  rw[<-aC] at hE;have aU:=Lib.hid aC;clear aC
  go_enter Tryz.func138,Tryz.ntmps138
  go_upto_region 1 with(fail)
  rw[<-aU.out];have k1:=(hE.h2).cell 0
  go_upto_region 3 with(fail)
  clear k1
  go_cut [7,8] from 9 to 27 (fun p p2 wx=>∃G7 sq Aq nq cq tq Bq mq dq,p= .pointer (some ⟨G7,0,none⟩)/\p2= .int .i64 0/\(gw<G7/\w.heap.size<G7/\w.heap.size+1<G7)/\Env w (fun V=>(((((True/\ak 125 (gw) #[.int .i64 0,.int .i64 x.E,.int .i64 x.Y,.int .i64 x.T,.bool x.p.s,.slice x.p.A x.p.n x.p.c,.bool x.p.t,.slice x.p.B x.p.m x.p.d,.slice x.A x.n x.c,.slice x.B x.m x.d,.int .i64 gT,.int .i64 gA,.int .i64 gD,.int .i64 b0.F,.int .i64 b0.S,.slice b0.A b0.n b0.c,.bool b0.i.s,.slice b0.i.A b0.i.n b0.i.c,.bool b0.i.t,.slice b0.i.B b0.i.m b0.i.d,.int .i64 b1.F,.int .i64 b1.S,.slice b1.A b1.n b1.c,.bool b1.i.s,.slice b1.i.A b1.i.n b1.i.c,.bool b1.i.t,.slice b1.i.B b1.i.m b1.i.d,.bool j.s,.slice j.A j.n j.c,.bool j.t,.slice j.B j.m j.d] V)/\ak 31 (w.heap.size) b.C V)/\ak 29 (w.heap.size+1) aY V)/\FV V (b.val x N t) sq Aq nq tq Bq mq)/\ak 29 (G7) (az sq Aq nq cq tq Bq mq dq) V)) wx)
  case first=>
   replace hE:=hE.drew;refine wp_region_held_drew (S:=fun V=>ak 31 (w.heap.size) b.C V/\ak 125 (gw) #[.int .i64 0,.int .i64 x.E,.int .i64 x.Y,.int .i64 x.T,.bool x.p.s,.slice x.p.A x.p.n x.p.c,.bool x.p.t,.slice x.p.B x.p.m x.p.d,.slice x.A x.n x.c,.slice x.B x.m x.d,.int .i64 gT,.int .i64 gA,.int .i64 gD,.int .i64 b0.F,.int .i64 b0.S,.slice b0.A b0.n b0.c,.bool b0.i.s,.slice b0.i.A b0.i.n b0.i.c,.bool b0.i.t,.slice b0.i.B b0.i.m b0.i.d,.int .i64 b1.F,.int .i64 b1.S,.slice b1.A b1.n b1.c,.bool b1.i.s,.slice b1.i.A b1.i.n b1.i.c,.bool b1.i.t,.slice b1.i.B b1.i.m b1.i.d,.bool j.s,.slice j.A j.n j.c,.bool j.t,.slice j.B j.m j.d] V) (by kernel_rfl) (⟨hE.here.1.2,hE.h2⟩) (fun hHeld=> ?_)
   generalize W0.drew=wd at*
   refine tk 0 ?_ (hy:=by
    intro w ay;have iM:=(ay.1).cell 0;have iP:=(ay.1).cell 1;have jb:=(ay.1).cell 2;have jc:=(ay.1).cell 3;have IX:=(ay.1).cell 4;have IY:=(ay.1).cell 5;have IZ:=(ay.1).cell 6;clear ay
    first|(go_simp;done)|(go_simp;with_reducible rfl))
   try simp only[PL]
   refine tk 1 ?_;refine tk 2 ?_;refine tk 3 ?_;refine tk 4 ?_
   refine tk 5 ?_ (hy:=by
    intro w ay;have iP:=(ay.2).cell 1;have jb:=(ay.2).cell 2;have jc:=(ay.2).cell 3;have IX:=(ay.2).cell 4;have IY:=(ay.2).cell 5;have IZ:=(ay.2).cell 6;have VZ:=(ay.2).cell 7;have QI:=(ay.2).cell 8;have Rt:=(ay.2).cell 9;clear ay
    first|(go_simp;done)|(go_simp;with_reducible rfl))
   try simp only[PL]
   refine tk 6 ?_;refine wpAnyH_ready (rs:=[7,11]) (by kernel_rfl) (by simp) (AllReadyH.cons rfl (fun K hK=> ?_) (AllReadyH.cons rfl (fun K hK=> ?_) (AllReadyH.nil)))
   ·
    go_simp;refine hE.fr (FX (Bh.aA jG.out hE.av) fS.out (Ct.aA mB.out hE.av) fZ.out kQ.out N p6.out kM t ht) ?_;clear hE;intro sq Aq nq cq tq Bq mq dq w2 hE;go_wp2_with fail
    refine hK.out _ _ (⟨hE.h2,hE.h3⟩) (fun hHeld=> ?_);clear hK K;try simp only[PL]
    refine tk 8 ?_;refine tk 9 ?_;refine tk 10 ?_;refine r1 11 (fun K hK=> ?_);go_simp
    obtain⟨g3,kK⟩:∃g3,g3=w2.heap.size:=⟨_,rfl⟩
    have Ak:gw<g3:=by rw[kK];exact(hE.h3).lt
    have V3:w.heap.size<g3:=by rw[kK];exact(hE.h2).lt
    have Wa:w.heap.size+1<g3:=by rw[kK];exact(hE.here.1.2).lt
    replace hE:=hE.blk 29 aY (g:=g3) kK.symm;generalize w2.alloc (.cells aY 29)=W3 at hE⊢;rw[<-kK];clear kK;refine hK.out _ _ (⟨hE.h3,hE.h4⟩) (fun hHeld=> ?_);clear hK K;try simp only[PL]
    refine r1 12 (fun K hK=> ?_)
    have AO:w.heap.size<=g3:=by omega
    obtain⟨YZ,Y0,Y2,Y3⟩:=(hE.here.2).c4;obtain⟨Y4,Y5,Y6,Y7⟩:=hE.here.2.f4;replace hE:=((((((Env.again (ck hE.av AO (.bool sq) (.slice Aq nq cq) (.bool tq) (.slice Bq mq dq))).af ((hE.h4).ai (by omega) _ _ _ _)).af ((hE.h3).ai (by omega) _ _ _ _)).af ((hE.h2).ai (by omega) _ _ _ _)).fv ((hE.here.1.2).aq hE.here.2 rfl _ _ _ _ rfl rfl rfl)).af ((hE.here.2).s4 _ _ _ _));go_simp;clear YZ Y0 Y2 Y3 Y4 Y5 Y6 Y7 AO;generalize ((((W3.setCell ⟨g3,0,none⟩ (.bool sq)).setCell ⟨g3,1,none⟩ (.slice Aq nq cq)).setCell ⟨g3,2,none⟩ (.bool tq)).setCell ⟨g3,3,none⟩ (.slice Bq mq dq))=W4 at hE⊢;refine hK.out _ _ (⟨hE.h3,hE.h4⟩) (fun hHeld=> ?_);clear hK K;try simp only[PL]
    refine tk 13 ?_;refine wpAnyH_done (by kernel_rfl) ?_ _;go_wp2_with fail
    go_meet
    exact⟨g3,sq,Aq,nq,cq,tq,Bq,mq,dq,rfl,rfl,⟨by omega,by omega,by omega⟩,((((((Env.again hE.av).af (hE.h4)).af (hE.h3)).af (hE.h2)).fv (hE.here.1.2)).af (hE.here.2))⟩
   ·
    go_simp
    obtain⟨g5,mT⟩:∃g5,g5=wd.heap.size:=⟨_,rfl⟩
    have Me:gw<g5:=by rw[mT];exact(hE.h2).lt
    have Wb:w.heap.size<g5:=by rw[mT];exact(hE.here.1.2).lt
    have Wc:w.heap.size+1<g5:=by rw[mT];exact(hE.here.2).lt
    replace hE:=hE.blk 29 aY (g:=g5) mT.symm;generalize wd.alloc (.cells aY 29)=W5 at hE⊢;rw[<-mT];clear mT;refine hK.out _ _ (⟨hE.h2,hE.h3⟩) (fun hHeld=> ?_);clear hK K;try simp only[PL]
    refine r1 7 (fun K hK=> ?_);go_simp;refine hE.fr (FX (Bh.aA jG.out hE.av) fS.out (Ct.aA mB.out hE.av) fZ.out kQ.out N p6.out kM t ht) ?_;clear hE;intro sq Aq nq cq tq Bq mq dq w6 hE;go_wp2_with fail
    refine hK.out _ _ (⟨hE.h3,hE.h4⟩) (fun hHeld=> ?_);clear hK K;try simp only[PL]
    refine tk 8 ?_;refine tk 9 ?_;refine tk 10 ?_;refine r1 12 (fun K hK=> ?_)
    have AP:w.heap.size<=g5:=by omega
    obtain⟨Mf,Y8,Y9,Za⟩:=(hE.here.1.2).c4;obtain⟨Mg,Zb,Zc,Zd⟩:=hE.here.1.2.f4;replace hE:=((((((Env.again (ck hE.av AP (.bool sq) (.slice Aq nq cq) (.bool tq) (.slice Bq mq dq))).af ((hE.h4).ai (by omega) _ _ _ _)).af ((hE.h3).ai (by omega) _ _ _ _)).af ((hE.h2).ai (by omega) _ _ _ _)).af ((hE.here.1.2).s4 _ _ _ _)).fv ((hE.here.2).aq hE.here.1.2 rfl _ _ _ _ rfl rfl rfl));go_simp;clear Mf Y8 Y9 Za Mg Zb Zc Zd AP;generalize ((((w6.setCell ⟨g5,0,none⟩ (.bool sq)).setCell ⟨g5,1,none⟩ (.slice Aq nq cq)).setCell ⟨g5,2,none⟩ (.bool tq)).setCell ⟨g5,3,none⟩ (.slice Bq mq dq))=W7 at hE⊢;refine hK.out _ _ (⟨hE.h3,hE.h4⟩) (fun hHeld=> ?_);clear hK K;try simp only[PL]
    refine tk 13 ?_;refine wpAnyH_done (by kernel_rfl) ?_ _;go_wp2_with fail
    go_meet
    exact⟨g5,sq,Aq,nq,cq,tq,Bq,mq,dq,rfl,rfl,⟨by omega,by omega,by omega⟩,((((((Env.again hE.av).af (hE.h4)).af (hE.h3)).af (hE.h2)).fv (hE.here.2)).af (hE.here.1.2))⟩
  case rest=>
  clear hE;obtain⟨G7,sq,Aq,nq,cq,tq,Bq,mq,dq,rfl,rfl,⟨hg0,Ru,yp⟩,hE⟩:=hcut;generalize wc=wk3 at hE⊢;have s0:=(hE.h4).cell 0;have s1:=(hE.h4).frozen 0
  go_upto_region 7 with(fail)
  rw[fW (show wk3.cell? ⟨gw,0,none⟩=some (.int .i64 0) from s0)];clear s0 s1;obtain⟨k8,k9,eG,cS⟩:=(hE.here.2).c4
  have cA:w.heap.size<=w.heap.size+1:=by omega
  obtain⟨WW,bn,hB,hV,aQ⟩:=aO hE hE.h2 cA hE.here.1.2 cq dq;obtain⟨x0,x1,x2,x3⟩:=(hE.h2).c4;obtain⟨fQ,fR,gJ,gK⟩:=hE.h2.f4;have bJ:=Lib.hid bn;clear bn;go_wp2_with fail
  clear k8 k9 eG cS;rw[<-bJ.out];obtain⟨y0,y1,y2,y3⟩:=hB.c4;refine bodyPost_ret (v:= .agg (az sq Aq nq cq tq Bq mq dq)) (by simp[results,Tryz.results138,go_sem,y0,y1,y2,y3]) rfl ?_;exact⟨sq,Aq,nq,cq,tq,Bq,mq,dq,rfl,hV,aQ⟩
 ·
  have jG:=Lib.hid hb;clear hb;have fS:=Lib.hid lS;clear lS;have mB:=Lib.hid hx;clear hx;have fZ:=Lib.hid iB;clear iB;have kQ:=Lib.hid hok;clear hok;have p6:=Lib.hid hN;clear hN;have uW:ak 125 gw #[.int .i64 0,.int .i64 x.E,.int .i64 x.Y,.int .i64 x.T,.bool x.p.s,.slice x.p.A x.p.n x.p.c,.bool x.p.t,.slice x.p.B x.p.m x.p.d,.slice x.A x.n x.c,.slice x.B x.m x.d,.int .i64 gT,.int .i64 gA,.int .i64 gD,.int .i64 b0.F,.int .i64 b0.S,.slice b0.A b0.n b0.c,.bool b0.i.s,.slice b0.i.A b0.i.n b0.i.c,.bool b0.i.t,.slice b0.i.B b0.i.m b0.i.d,.int .i64 b1.F,.int .i64 b1.S,.slice b1.A b1.n b1.c,.bool b1.i.s,.slice b1.i.A b1.i.n b1.i.c,.bool b1.i.t,.slice b1.i.B b1.i.m b1.i.d,.bool j.s,.slice j.A j.n j.c,.bool j.t,.slice j.B j.m j.d] w:=hW;have tE:=uW.lt;have YY:=Lib.hid uW;clear uW;have hE:=((Env.start w).af YY.out).blk 31 b.C (g:=w.heap.size) rfl;have hE:=hE.blk 29 aY (g:=w.heap.size+1) (by simp)
  obtain⟨W0,aC⟩:∃W0,W0=((w.alloc (.cells b.C 31)).alloc (.cells aY 29)):=⟨_,rfl⟩
  rw[<-aC] at hE;have aU:=Lib.hid aC;clear aC
  go_enter Tryz.func138,Tryz.ntmps138
  go_upto_region 1 with(fail)
  rw[<-aU.out];have k1:=(hE.h2).cell 0
  go_upto_region 3 with(fail)
  clear k1
  go_cut [7,8] from 9 to 27 (fun p p2 wx=>∃G7,p= .pointer (some ⟨G7,0,none⟩)/\p2= .int .i64 320/\(gw<G7/\w.heap.size<G7/\w.heap.size+1<G7)/\Env w (fun V=>((((True/\ak 125 (gw) #[.int .i64 0,.int .i64 x.E,.int .i64 x.Y,.int .i64 x.T,.bool x.p.s,.slice x.p.A x.p.n x.p.c,.bool x.p.t,.slice x.p.B x.p.m x.p.d,.slice x.A x.n x.c,.slice x.B x.m x.d,.int .i64 gT,.int .i64 gA,.int .i64 gD,.int .i64 b0.F,.int .i64 b0.S,.slice b0.A b0.n b0.c,.bool b0.i.s,.slice b0.i.A b0.i.n b0.i.c,.bool b0.i.t,.slice b0.i.B b0.i.m b0.i.d,.int .i64 b1.F,.int .i64 b1.S,.slice b1.A b1.n b1.c,.bool b1.i.s,.slice b1.i.A b1.i.n b1.i.c,.bool b1.i.t,.slice b1.i.B b1.i.m b1.i.d,.bool j.s,.slice j.A j.n j.c,.bool j.t,.slice j.B j.m j.d] V)/\ak 31 (w.heap.size) b.C V)/\ak 29 (w.heap.size+1) aY V)/\ak 29 (G7) aY V)) wx)
  case first=>
   replace hE:=hE.drew;refine wp_region_held_drew (S:=fun V=>ak 31 (w.heap.size) b.C V/\ak 125 (gw) #[.int .i64 0,.int .i64 x.E,.int .i64 x.Y,.int .i64 x.T,.bool x.p.s,.slice x.p.A x.p.n x.p.c,.bool x.p.t,.slice x.p.B x.p.m x.p.d,.slice x.A x.n x.c,.slice x.B x.m x.d,.int .i64 gT,.int .i64 gA,.int .i64 gD,.int .i64 b0.F,.int .i64 b0.S,.slice b0.A b0.n b0.c,.bool b0.i.s,.slice b0.i.A b0.i.n b0.i.c,.bool b0.i.t,.slice b0.i.B b0.i.m b0.i.d,.int .i64 b1.F,.int .i64 b1.S,.slice b1.A b1.n b1.c,.bool b1.i.s,.slice b1.i.A b1.i.n b1.i.c,.bool b1.i.t,.slice b1.i.B b1.i.m b1.i.d,.bool j.s,.slice j.A j.n j.c,.bool j.t,.slice j.B j.m j.d] V) (by kernel_rfl) (⟨hE.here.1.2,hE.h2⟩) (fun hHeld=> ?_)
   generalize W0.drew=wd at*
   refine tk 0 ?_ (hy:=by
    intro w ay;have iM:=(ay.1).cell 0;have iP:=(ay.1).cell 1;have jb:=(ay.1).cell 2;have jc:=(ay.1).cell 3;have IX:=(ay.1).cell 4;have IY:=(ay.1).cell 5;have IZ:=(ay.1).cell 6;clear ay
    first|(go_simp;done)|(go_simp;with_reducible rfl))
   try simp only[PL]
   refine tk 1 ?_;refine tk 2 ?_;refine tk 3 ?_;refine tk 4 ?_
   refine tk 5 ?_ (hy:=by
    intro w ay;have iP:=(ay.2).cell 1;have jb:=(ay.2).cell 2;have jc:=(ay.2).cell 3;have IX:=(ay.2).cell 4;have IY:=(ay.2).cell 5;have IZ:=(ay.2).cell 6;have VZ:=(ay.2).cell 7;have QI:=(ay.2).cell 8;have Rt:=(ay.2).cell 9;clear ay
    first|(go_simp;done)|(go_simp;with_reducible rfl))
   try simp only[PL]
   refine tk 6 ?_;refine wpAnyH_ready (rs:=[7,11]) (by kernel_rfl) (by simp) (AllReadyH.cons rfl (fun K hK=> ?_) (AllReadyH.cons rfl (fun K hK=> ?_) (AllReadyH.nil)))
   ·
    go_simp;refine hE.br (tJ (Bh.aA jG.out hE.av) fS.out (Ct.aA mB.out hE.av) fZ.out kQ.out N p6.out kM t (by omega) uS) ?_;clear hE;intro w2 hE;go_wp2_with fail
    refine hK.out _ _ (⟨hE.here.1.2,hE.h2⟩) (fun hHeld=> ?_);clear hK K;try simp only[PL]
    refine tk 8 ?_;refine tk 9 ?_;refine tk 10 ?_;refine r1 11 (fun K hK=> ?_);go_simp
    obtain⟨g3,kK⟩:∃g3,g3=w2.heap.size:=⟨_,rfl⟩
    have Ak:gw<g3:=by rw[kK];exact(hE.h2).lt
    have V3:w.heap.size<g3:=by rw[kK];exact(hE.here.1.2).lt
    have Wa:w.heap.size+1<g3:=by rw[kK];exact(hE.here.2).lt
    replace hE:=hE.blk 29 aY (g:=g3) kK.symm;generalize w2.alloc (.cells aY 29)=W3 at hE⊢;rw[<-kK];clear kK;refine hK.out _ _ (⟨hE.h2,hE.h3⟩) (fun hHeld=> ?_);clear hK K;try simp only[PL]
    refine r1 12 (fun K hK=> ?_)
    have AO:w.heap.size<=g3:=by omega
    obtain⟨YZ,Y0,Y2,Y3⟩:=(hE.here.2).c4;obtain⟨Y4,Y5,Y6,Y7⟩:=hE.here.2.f4;replace hE:=(((((Env.again (ck hE.av AO (.bool false) (.slice none 0 0) (.bool false) (.slice none 0 0))).af ((hE.h3).ai (by omega) _ _ _ _)).af ((hE.h2).ai (by omega) _ _ _ _)).af ((hE.here.1.2).ai (by omega) _ _ _ _)).af ((hE.here.2).s4 _ _ _ _));go_simp;clear YZ Y0 Y2 Y3 Y4 Y5 Y6 Y7 AO;generalize ((((W3.setCell ⟨g3,0,none⟩ (.bool false)).setCell ⟨g3,1,none⟩ (.slice none 0 0)).setCell ⟨g3,2,none⟩ (.bool false)).setCell ⟨g3,3,none⟩ (.slice none 0 0))=W4 at hE⊢;refine hK.out _ _ (⟨hE.h2,hE.h3⟩) (fun hHeld=> ?_);clear hK K;try simp only[PL]
    refine tk 13 ?_;refine wpAnyH_done (by kernel_rfl) ?_ _;go_wp2_with fail
    go_meet
    exact⟨g3,rfl,rfl,⟨by omega,by omega,by omega⟩,(((((Env.again hE.av).af (hE.h3)).af (hE.h2)).af (hE.here.1.2)).af (hE.here.2))⟩
   ·
    go_simp
    obtain⟨g5,mT⟩:∃g5,g5=wd.heap.size:=⟨_,rfl⟩
    have Me:gw<g5:=by rw[mT];exact(hE.h2).lt
    have Wb:w.heap.size<g5:=by rw[mT];exact(hE.here.1.2).lt
    have Wc:w.heap.size+1<g5:=by rw[mT];exact(hE.here.2).lt
    replace hE:=hE.blk 29 aY (g:=g5) mT.symm;generalize wd.alloc (.cells aY 29)=W5 at hE⊢;rw[<-mT];clear mT;refine hK.out _ _ (⟨hE.h2,hE.h3⟩) (fun hHeld=> ?_);clear hK K;try simp only[PL]
    refine r1 7 (fun K hK=> ?_);go_simp;refine hE.br (tJ (Bh.aA jG.out hE.av) fS.out (Ct.aA mB.out hE.av) fZ.out kQ.out N p6.out kM t (by omega) uS) ?_;clear hE;intro w6 hE;go_wp2_with fail
    refine hK.out _ _ (⟨hE.h2,hE.h3⟩) (fun hHeld=> ?_);clear hK K;try simp only[PL]
    refine tk 8 ?_;refine tk 9 ?_;refine tk 10 ?_;refine r1 12 (fun K hK=> ?_)
    have AP:w.heap.size<=g5:=by omega
    obtain⟨Mf,Y8,Y9,Za⟩:=(hE.here.2).c4;obtain⟨Mg,Zb,Zc,Zd⟩:=hE.here.2.f4;replace hE:=(((((Env.again (ck hE.av AP (.bool false) (.slice none 0 0) (.bool false) (.slice none 0 0))).af ((hE.h3).ai (by omega) _ _ _ _)).af ((hE.h2).ai (by omega) _ _ _ _)).af ((hE.here.1.2).ai (by omega) _ _ _ _)).af ((hE.here.2).s4 _ _ _ _));go_simp;clear Mf Y8 Y9 Za Mg Zb Zc Zd AP;generalize ((((w6.setCell ⟨g5,0,none⟩ (.bool false)).setCell ⟨g5,1,none⟩ (.slice none 0 0)).setCell ⟨g5,2,none⟩ (.bool false)).setCell ⟨g5,3,none⟩ (.slice none 0 0))=W7 at hE⊢;refine hK.out _ _ (⟨hE.h2,hE.h3⟩) (fun hHeld=> ?_);clear hK K;try simp only[PL]
    refine tk 13 ?_;refine wpAnyH_done (by kernel_rfl) ?_ _;go_wp2_with fail
    go_meet
    exact⟨g5,rfl,rfl,⟨by omega,by omega,by omega⟩,(((((Env.again hE.av).af (hE.h3)).af (hE.h2)).af (hE.here.1.2)).af (hE.here.2))⟩
  case rest=>
  clear hE;obtain⟨G7,rfl,rfl,⟨hg0,Ru,yp⟩,hE⟩:=hcut;generalize wc=wk3 at hE⊢;go_wp2_with fail
  have hv0:(0:Rat)=b.val x N t:=(sP (v:=b.v) (f:=b.rt x.E x.Y) (L:=x.L) (K:=x.K) (show N<=t by omega)).symm;have hc:=aR 0 wk3 (by decide) (by decide);change Calls _ _ _ _ (FR 0 _) at hc;rw[hv0] at hc;clear hv0;refine hE.fr (hc) ?_;clear hE;intro sq Aq nq cq tq Bq mq dq w8 hE;clear hc
  have cA:w.heap.size<=w.heap.size+1:=by omega
  obtain⟨WW,bn,hB,hV,aQ⟩:=aO hE hE.h2 cA hE.here.2 cq dq;obtain⟨x0,x1,x2,x3⟩:=(hE.h2).c4;obtain⟨fQ,fR,gJ,gK⟩:=hE.h2.f4;have bJ:=Lib.hid bn;clear bn;go_wp2_with fail
  clear x0 x1 x2 x3;rw[<-bJ.out];obtain⟨y0,y1,y2,y3⟩:=hB.c4;refine bodyPost_ret (v:= .agg (az sq Aq nq cq tq Bq mq dq)) (by simp[results,Tryz.results138,go_sem,y0,y1,y2,y3]) rfl ?_;exact⟨sq,Aq,nq,cq,tq,Bq,mq,dq,rfl,hV,aQ⟩
end Go.Proofs.YtclbiihcbfnjmaaGreat
