/-
  Parts.
-/
import Derived.Test.YtclbiihcbfnjmaaGreatK2
import Derived.Test.YtclbiihcbfnjmaaGreatK8
import Derived.Test.YtclbiihcbfnjmaaGreatK23
import Derived.Test.YtclbiihcbfnjmaaGreatE1
set_option linter.unusedSimpArgs false
set_option maxRecDepth 100000
set_option maxHeartbeats 8000000
namespace Go.Proofs.YtclbiihcbfnjmaaGreat
open Go.RowKit

def wkC (x:Ct)(gT gA gD:Int)(b0 b1:Bh)(j:FH):Array Value:=#[.int .i64 0,.int .i64 x.E,.int .i64 x.Y,.int .i64 x.T,.bool x.p.s,.slice x.p.A x.p.n x.p.c,.bool x.p.t,.slice x.p.B x.p.m x.p.d,.slice x.A x.n x.c,.slice x.B x.m x.d,.int .i64 gT,.int .i64 gA,.int .i64 gD,.int .i64 b0.F,.int .i64 b0.S,.slice b0.A b0.n b0.c,.bool b0.i.s,.slice b0.i.A b0.i.n b0.i.c,.bool b0.i.t,.slice b0.i.B b0.i.m b0.i.d,.int .i64 b1.F,.int .i64 b1.S,.slice b1.A b1.n b1.c,.bool b1.i.s,.slice b1.i.A b1.i.n b1.i.c,.bool b1.i.t,.slice b1.i.B b1.i.m b1.i.d,.bool j.s,.slice j.A j.n j.c,.bool j.t,.slice j.B j.m j.d]
theorem wkC_sum {x:Ct}{gT gA gD:Int}{b0 b1:Bh}{j:FH}{g:Nat}{W:World}(h:Blk 125 g (wkC x gT gA gD b0 b1 j) W):SumC g W:=⟨_,_,h,rfl⟩
theorem ereserve_v {b:Bh}{x:Ct}{gw:Nat}{gT gA gD:Int}{b0 b1:Bh}{j:FH}{w:World}(hb:b.rd w)(hbb:b.bd)(hx:x.rd w)(hxb:x.bd)(hok:x.ok b)(N:Nat)(hN:Cnt b.v (b.rt x.E x.Y) N)(h80:N<=80)(hW:Blk 125 gw (wkC x gT gA gD b0 b1 j) w)(t:Nat)(h64:t<=9223372036854775807):
  Calls Tryz.prog 138 #[.pointer (some ⟨gw,0,none⟩),.agg b.C,.int .i64 (t:Int)] w (FR (b.val x N t) w):=by
 by_cases ht:t<N
 ·
  have Hhb:=Lib.hid hb;clear hb;have Hhbb:=Lib.hid hbb;clear hbb;have Hhx:=Lib.hid hx;clear hx;have Hhxb:=Lib.hid hxb;clear hxb;have Hhok:=Lib.hid hok;clear hok;have HhN:=Lib.hid hN;clear hN;have hW1:Blk 125 gw #[.int .i64 0,.int .i64 x.E,.int .i64 x.Y,.int .i64 x.T,.bool x.p.s,.slice x.p.A x.p.n x.p.c,.bool x.p.t,.slice x.p.B x.p.m x.p.d,.slice x.A x.n x.c,.slice x.B x.m x.d,.int .i64 gT,.int .i64 gA,.int .i64 gD,.int .i64 b0.F,.int .i64 b0.S,.slice b0.A b0.n b0.c,.bool b0.i.s,.slice b0.i.A b0.i.n b0.i.c,.bool b0.i.t,.slice b0.i.B b0.i.m b0.i.d,.int .i64 b1.F,.int .i64 b1.S,.slice b1.A b1.n b1.c,.bool b1.i.s,.slice b1.i.A b1.i.n b1.i.c,.bool b1.i.t,.slice b1.i.B b1.i.m b1.i.d,.bool j.s,.slice j.A j.n j.c,.bool j.t,.slice j.B j.m j.d] w:=hW;have hgw:=hW1.lt;have HhW:=Lib.hid hW1;clear hW1;have hE:=((Env.start w).blkI HhW.out).blk 31 b.C (g:=w.heap.size) rfl;have hE:=hE.blk 29 qz4 (g:=w.heap.size+1) (by simp)
  obtain⟨W0,hW0⟩:∃W0,W0=((w.alloc (.cells b.C 31)).alloc (.cells qz4 29)):=⟨_,rfl⟩
  rw[<-hW0] at hE;have HW0:=Lib.hid hW0;clear hW0
  go_enter Tryz.func138,Tryz.ntmps138
  go_upto_region 1 with(fail)
  rw[<-HW0.out];have k1:=(hE.h2).cell 0
  go_upto_region 3 with(fail)
  clear k1
  go_cut [7,8] from 9 to 27 (fun p p2 wx=>∃G7 sq Aq nq cq tq Bq mq dq,p= .pointer (some ⟨G7,0,none⟩)/\p2= .int .i64 0/\(gw<G7/\w.heap.size<G7/\w.heap.size+1<G7)/\Env w (fun V=>(((((True/\Blk 125 (gw) #[.int .i64 0,.int .i64 x.E,.int .i64 x.Y,.int .i64 x.T,.bool x.p.s,.slice x.p.A x.p.n x.p.c,.bool x.p.t,.slice x.p.B x.p.m x.p.d,.slice x.A x.n x.c,.slice x.B x.m x.d,.int .i64 gT,.int .i64 gA,.int .i64 gD,.int .i64 b0.F,.int .i64 b0.S,.slice b0.A b0.n b0.c,.bool b0.i.s,.slice b0.i.A b0.i.n b0.i.c,.bool b0.i.t,.slice b0.i.B b0.i.m b0.i.d,.int .i64 b1.F,.int .i64 b1.S,.slice b1.A b1.n b1.c,.bool b1.i.s,.slice b1.i.A b1.i.n b1.i.c,.bool b1.i.t,.slice b1.i.B b1.i.m b1.i.d,.bool j.s,.slice j.A j.n j.c,.bool j.t,.slice j.B j.m j.d] V)/\Blk 31 (w.heap.size) b.C V)/\Blk 29 (w.heap.size+1) qz4 V)/\FV V (b.val x N t) sq Aq nq tq Bq mq)/\Blk 29 (G7) (qf4 sq Aq nq cq tq Bq mq dq) V)) wx)
  case first=>
   replace hE:=hE.drew;refine wp_region_held_drew (S:=fun V=>Blk 31 (w.heap.size) b.C V/\Blk 125 (gw) #[.int .i64 0,.int .i64 x.E,.int .i64 x.Y,.int .i64 x.T,.bool x.p.s,.slice x.p.A x.p.n x.p.c,.bool x.p.t,.slice x.p.B x.p.m x.p.d,.slice x.A x.n x.c,.slice x.B x.m x.d,.int .i64 gT,.int .i64 gA,.int .i64 gD,.int .i64 b0.F,.int .i64 b0.S,.slice b0.A b0.n b0.c,.bool b0.i.s,.slice b0.i.A b0.i.n b0.i.c,.bool b0.i.t,.slice b0.i.B b0.i.m b0.i.d,.int .i64 b1.F,.int .i64 b1.S,.slice b1.A b1.n b1.c,.bool b1.i.s,.slice b1.i.A b1.i.n b1.i.c,.bool b1.i.t,.slice b1.i.B b1.i.m b1.i.d,.bool j.s,.slice j.A j.n j.c,.bool j.t,.slice j.B j.m j.d] V) (by kernel_rfl) (⟨hE.here.1.2,hE.h2⟩) (fun hHeld=> ?_)
   generalize W0.drew=wd at*
   refine tk 0 ?_ (hy:=by
    intro w hSw;have kc0:=(hSw.1).cell 0;have kc1:=(hSw.1).cell 1;have kc2:=(hSw.1).cell 2;have kc3:=(hSw.1).cell 3;have kc4:=(hSw.1).cell 4;have kc5:=(hSw.1).cell 5;have kc6:=(hSw.1).cell 6;clear hSw
    first|(go_simp;done)|(go_simp;with_reducible rfl))
   try simp only[PL]
   refine tk 1 ?_;refine tk 2 ?_;refine tk 3 ?_;refine tk 4 ?_
   refine tk 5 ?_ (hy:=by
    intro w hSw;have kc1:=(hSw.2).cell 1;have kc2:=(hSw.2).cell 2;have kc3:=(hSw.2).cell 3;have kc4:=(hSw.2).cell 4;have kc5:=(hSw.2).cell 5;have kc6:=(hSw.2).cell 6;have kc7:=(hSw.2).cell 7;have kc8:=(hSw.2).cell 8;have kc9:=(hSw.2).cell 9;clear hSw
    first|(go_simp;done)|(go_simp;with_reducible rfl))
   try simp only[PL]
   refine tk 6 ?_;refine wpAnyH_ready (rs:=[7,11]) (by kernel_rfl) (by simp) (AllReadyH.cons rfl (fun K hK=> ?_) (AllReadyH.cons rfl (fun K hK=> ?_) (AllReadyH.nil)))
   ·
    go_simp;refine hE.fr (vpros_v (Bh.rd_below Hhb.out hE.bel) Hhbb.out (Ct.rd_below Hhx.out hE.bel) Hhxb.out Hhok.out N HhN.out h80 t ht) ?_;clear hE;intro sq Aq nq cq tq Bq mq dq w2 hE;go_wp2_with fail
    refine hK.out _ _ (⟨hE.h2,hE.h3⟩) (fun hHeld=> ?_);clear hK K;try simp only[PL]
    refine tk 8 ?_;refine tk 9 ?_;refine tk 10 ?_;refine r1 11 (fun K hK=> ?_);go_simp
    obtain⟨g3,hg3⟩:∃g3,g3=w2.heap.size:=⟨_,rfl⟩
    have hl3_0:gw<g3:=by rw[hg3];exact(hE.h3).lt
    have hl3_1:w.heap.size<g3:=by rw[hg3];exact(hE.h2).lt
    have hl3_2:w.heap.size+1<g3:=by rw[hg3];exact(hE.here.1.2).lt
    replace hE:=hE.blk 29 qz4 (g:=g3) hg3.symm;generalize w2.alloc (.cells qz4 29)=W3 at hE⊢;rw[<-hg3];clear hg3;refine hK.out _ _ (⟨hE.h3,hE.h4⟩) (fun hHeld=> ?_);clear hK K;try simp only[PL]
    refine r1 12 (fun K hK=> ?_)
    have hgl4:w.heap.size<=g3:=by omega
    obtain⟨x4_0,x4_1,x4_2,x4_3⟩:=(hE.here.2).c4;obtain⟨f4_0,f4_1,f4_2,f4_3⟩:=hE.here.2.f4;replace hE:=((((((Env.again (bel4 hE.bel hgl4 (.bool sq) (.slice Aq nq cq) (.bool tq) (.slice Bq mq dq))).blkI ((hE.h4).far4 (by omega) _ _ _ _)).blkI ((hE.h3).far4 (by omega) _ _ _ _)).blkI ((hE.h2).far4 (by omega) _ _ _ _)).fv ((hE.here.1.2).sep4 hE.here.2 rfl _ _ _ _ rfl rfl rfl)).blkI ((hE.here.2).s4 _ _ _ _));go_simp;clear x4_0 x4_1 x4_2 x4_3 f4_0 f4_1 f4_2 f4_3 hgl4;generalize ((((W3.setCell ⟨g3,0,none⟩ (.bool sq)).setCell ⟨g3,1,none⟩ (.slice Aq nq cq)).setCell ⟨g3,2,none⟩ (.bool tq)).setCell ⟨g3,3,none⟩ (.slice Bq mq dq))=W4 at hE⊢;refine hK.out _ _ (⟨hE.h3,hE.h4⟩) (fun hHeld=> ?_);clear hK K;try simp only[PL]
    refine tk 13 ?_;refine wpAnyH_done (by kernel_rfl) ?_ _;go_wp2_with fail
    go_meet
    exact⟨g3,sq,Aq,nq,cq,tq,Bq,mq,dq,rfl,rfl,⟨by omega,by omega,by omega⟩,((((((Env.again hE.bel).blkI (hE.h4)).blkI (hE.h3)).blkI (hE.h2)).fv (hE.here.1.2)).blkI (hE.here.2))⟩
   ·
    go_simp
    obtain⟨g5,hg5⟩:∃g5,g5=wd.heap.size:=⟨_,rfl⟩
    have hl5_0:gw<g5:=by rw[hg5];exact(hE.h2).lt
    have hl5_1:w.heap.size<g5:=by rw[hg5];exact(hE.here.1.2).lt
    have hl5_2:w.heap.size+1<g5:=by rw[hg5];exact(hE.here.2).lt
    replace hE:=hE.blk 29 qz4 (g:=g5) hg5.symm;generalize wd.alloc (.cells qz4 29)=W5 at hE⊢;rw[<-hg5];clear hg5;refine hK.out _ _ (⟨hE.h2,hE.h3⟩) (fun hHeld=> ?_);clear hK K;try simp only[PL]
    refine r1 7 (fun K hK=> ?_);go_simp;refine hE.fr (vpros_v (Bh.rd_below Hhb.out hE.bel) Hhbb.out (Ct.rd_below Hhx.out hE.bel) Hhxb.out Hhok.out N HhN.out h80 t ht) ?_;clear hE;intro sq Aq nq cq tq Bq mq dq w6 hE;go_wp2_with fail
    refine hK.out _ _ (⟨hE.h3,hE.h4⟩) (fun hHeld=> ?_);clear hK K;try simp only[PL]
    refine tk 8 ?_;refine tk 9 ?_;refine tk 10 ?_;refine r1 12 (fun K hK=> ?_)
    have hgl7:w.heap.size<=g5:=by omega
    obtain⟨x7_0,x7_1,x7_2,x7_3⟩:=(hE.here.1.2).c4;obtain⟨f7_0,f7_1,f7_2,f7_3⟩:=hE.here.1.2.f4;replace hE:=((((((Env.again (bel4 hE.bel hgl7 (.bool sq) (.slice Aq nq cq) (.bool tq) (.slice Bq mq dq))).blkI ((hE.h4).far4 (by omega) _ _ _ _)).blkI ((hE.h3).far4 (by omega) _ _ _ _)).blkI ((hE.h2).far4 (by omega) _ _ _ _)).blkI ((hE.here.1.2).s4 _ _ _ _)).fv ((hE.here.2).sep4 hE.here.1.2 rfl _ _ _ _ rfl rfl rfl));go_simp;clear x7_0 x7_1 x7_2 x7_3 f7_0 f7_1 f7_2 f7_3 hgl7;generalize ((((w6.setCell ⟨g5,0,none⟩ (.bool sq)).setCell ⟨g5,1,none⟩ (.slice Aq nq cq)).setCell ⟨g5,2,none⟩ (.bool tq)).setCell ⟨g5,3,none⟩ (.slice Bq mq dq))=W7 at hE⊢;refine hK.out _ _ (⟨hE.h3,hE.h4⟩) (fun hHeld=> ?_);clear hK K;try simp only[PL]
    refine tk 13 ?_;refine wpAnyH_done (by kernel_rfl) ?_ _;go_wp2_with fail
    go_meet
    exact⟨g5,sq,Aq,nq,cq,tq,Bq,mq,dq,rfl,rfl,⟨by omega,by omega,by omega⟩,((((((Env.again hE.bel).blkI (hE.h4)).blkI (hE.h3)).blkI (hE.h2)).fv (hE.here.2)).blkI (hE.here.1.2))⟩
  case rest=>
  clear hE;obtain⟨G7,sq,Aq,nq,cq,tq,Bq,mq,dq,rfl,rfl,⟨hg0,hg1,hg2⟩,hE⟩:=hcut;generalize wc=wk3 at hE⊢;have s0:=(hE.h4).cell 0;have s1:=(hE.h4).frozen 0
  go_upto_region 7 with(fail)
  rw[setCell_self (show wk3.cell? ⟨gw,0,none⟩=some (.int .i64 0) from s0)];clear s0 s1;obtain⟨k8,k9,k10,k11⟩:=(hE.here.2).c4
  have hRl:w.heap.size<=w.heap.size+1:=by omega
  obtain⟨WW,hWW,hB,hV,hBel⟩:=ret_frac hE hE.h2 hRl hE.here.1.2 cq dq;obtain⟨x0,x1,x2,x3⟩:=(hE.h2).c4;obtain⟨fz0,fz1,fz2,fz3⟩:=hE.h2.f4;have HWW:=Lib.hid hWW;clear hWW;go_wp2_with fail
  clear k8 k9 k10 k11;rw[<-HWW.out];obtain⟨y0,y1,y2,y3⟩:=hB.c4;refine bodyPost_ret (v:= .agg (qf4 sq Aq nq cq tq Bq mq dq)) (by simp[results,Tryz.results138,go_sem,y0,y1,y2,y3]) rfl ?_;exact⟨sq,Aq,nq,cq,tq,Bq,mq,dq,rfl,hV,hBel⟩
 ·
  have Hhb:=Lib.hid hb;clear hb;have Hhbb:=Lib.hid hbb;clear hbb;have Hhx:=Lib.hid hx;clear hx;have Hhxb:=Lib.hid hxb;clear hxb;have Hhok:=Lib.hid hok;clear hok;have HhN:=Lib.hid hN;clear hN;have hW1:Blk 125 gw #[.int .i64 0,.int .i64 x.E,.int .i64 x.Y,.int .i64 x.T,.bool x.p.s,.slice x.p.A x.p.n x.p.c,.bool x.p.t,.slice x.p.B x.p.m x.p.d,.slice x.A x.n x.c,.slice x.B x.m x.d,.int .i64 gT,.int .i64 gA,.int .i64 gD,.int .i64 b0.F,.int .i64 b0.S,.slice b0.A b0.n b0.c,.bool b0.i.s,.slice b0.i.A b0.i.n b0.i.c,.bool b0.i.t,.slice b0.i.B b0.i.m b0.i.d,.int .i64 b1.F,.int .i64 b1.S,.slice b1.A b1.n b1.c,.bool b1.i.s,.slice b1.i.A b1.i.n b1.i.c,.bool b1.i.t,.slice b1.i.B b1.i.m b1.i.d,.bool j.s,.slice j.A j.n j.c,.bool j.t,.slice j.B j.m j.d] w:=hW;have hgw:=hW1.lt;have HhW:=Lib.hid hW1;clear hW1;have hE:=((Env.start w).blkI HhW.out).blk 31 b.C (g:=w.heap.size) rfl;have hE:=hE.blk 29 qz4 (g:=w.heap.size+1) (by simp)
  obtain⟨W0,hW0⟩:∃W0,W0=((w.alloc (.cells b.C 31)).alloc (.cells qz4 29)):=⟨_,rfl⟩
  rw[<-hW0] at hE;have HW0:=Lib.hid hW0;clear hW0
  go_enter Tryz.func138,Tryz.ntmps138
  go_upto_region 1 with(fail)
  rw[<-HW0.out];have k1:=(hE.h2).cell 0
  go_upto_region 3 with(fail)
  clear k1
  go_cut [7,8] from 9 to 27 (fun p p2 wx=>∃G7,p= .pointer (some ⟨G7,0,none⟩)/\p2= .int .i64 320/\(gw<G7/\w.heap.size<G7/\w.heap.size+1<G7)/\Env w (fun V=>((((True/\Blk 125 (gw) #[.int .i64 0,.int .i64 x.E,.int .i64 x.Y,.int .i64 x.T,.bool x.p.s,.slice x.p.A x.p.n x.p.c,.bool x.p.t,.slice x.p.B x.p.m x.p.d,.slice x.A x.n x.c,.slice x.B x.m x.d,.int .i64 gT,.int .i64 gA,.int .i64 gD,.int .i64 b0.F,.int .i64 b0.S,.slice b0.A b0.n b0.c,.bool b0.i.s,.slice b0.i.A b0.i.n b0.i.c,.bool b0.i.t,.slice b0.i.B b0.i.m b0.i.d,.int .i64 b1.F,.int .i64 b1.S,.slice b1.A b1.n b1.c,.bool b1.i.s,.slice b1.i.A b1.i.n b1.i.c,.bool b1.i.t,.slice b1.i.B b1.i.m b1.i.d,.bool j.s,.slice j.A j.n j.c,.bool j.t,.slice j.B j.m j.d] V)/\Blk 31 (w.heap.size) b.C V)/\Blk 29 (w.heap.size+1) qz4 V)/\Blk 29 (G7) qz4 V)) wx)
  case first=>
   replace hE:=hE.drew;refine wp_region_held_drew (S:=fun V=>Blk 31 (w.heap.size) b.C V/\Blk 125 (gw) #[.int .i64 0,.int .i64 x.E,.int .i64 x.Y,.int .i64 x.T,.bool x.p.s,.slice x.p.A x.p.n x.p.c,.bool x.p.t,.slice x.p.B x.p.m x.p.d,.slice x.A x.n x.c,.slice x.B x.m x.d,.int .i64 gT,.int .i64 gA,.int .i64 gD,.int .i64 b0.F,.int .i64 b0.S,.slice b0.A b0.n b0.c,.bool b0.i.s,.slice b0.i.A b0.i.n b0.i.c,.bool b0.i.t,.slice b0.i.B b0.i.m b0.i.d,.int .i64 b1.F,.int .i64 b1.S,.slice b1.A b1.n b1.c,.bool b1.i.s,.slice b1.i.A b1.i.n b1.i.c,.bool b1.i.t,.slice b1.i.B b1.i.m b1.i.d,.bool j.s,.slice j.A j.n j.c,.bool j.t,.slice j.B j.m j.d] V) (by kernel_rfl) (⟨hE.here.1.2,hE.h2⟩) (fun hHeld=> ?_)
   generalize W0.drew=wd at*
   refine tk 0 ?_ (hy:=by
    intro w hSw;have kc0:=(hSw.1).cell 0;have kc1:=(hSw.1).cell 1;have kc2:=(hSw.1).cell 2;have kc3:=(hSw.1).cell 3;have kc4:=(hSw.1).cell 4;have kc5:=(hSw.1).cell 5;have kc6:=(hSw.1).cell 6;clear hSw
    first|(go_simp;done)|(go_simp;with_reducible rfl))
   try simp only[PL]
   refine tk 1 ?_;refine tk 2 ?_;refine tk 3 ?_;refine tk 4 ?_
   refine tk 5 ?_ (hy:=by
    intro w hSw;have kc1:=(hSw.2).cell 1;have kc2:=(hSw.2).cell 2;have kc3:=(hSw.2).cell 3;have kc4:=(hSw.2).cell 4;have kc5:=(hSw.2).cell 5;have kc6:=(hSw.2).cell 6;have kc7:=(hSw.2).cell 7;have kc8:=(hSw.2).cell 8;have kc9:=(hSw.2).cell 9;clear hSw
    first|(go_simp;done)|(go_simp;with_reducible rfl))
   try simp only[PL]
   refine tk 6 ?_;refine wpAnyH_ready (rs:=[7,11]) (by kernel_rfl) (by simp) (AllReadyH.cons rfl (fun K hK=> ?_) (AllReadyH.cons rfl (fun K hK=> ?_) (AllReadyH.nil)))
   ·
    go_simp;refine hE.br (vpros_dead (Bh.rd_below Hhb.out hE.bel) Hhbb.out (Ct.rd_below Hhx.out hE.bel) Hhxb.out Hhok.out N HhN.out h80 t (by omega) h64) ?_;clear hE;intro w2 hE;go_wp2_with fail
    refine hK.out _ _ (⟨hE.here.1.2,hE.h2⟩) (fun hHeld=> ?_);clear hK K;try simp only[PL]
    refine tk 8 ?_;refine tk 9 ?_;refine tk 10 ?_;refine r1 11 (fun K hK=> ?_);go_simp
    obtain⟨g3,hg3⟩:∃g3,g3=w2.heap.size:=⟨_,rfl⟩
    have hl3_0:gw<g3:=by rw[hg3];exact(hE.h2).lt
    have hl3_1:w.heap.size<g3:=by rw[hg3];exact(hE.here.1.2).lt
    have hl3_2:w.heap.size+1<g3:=by rw[hg3];exact(hE.here.2).lt
    replace hE:=hE.blk 29 qz4 (g:=g3) hg3.symm;generalize w2.alloc (.cells qz4 29)=W3 at hE⊢;rw[<-hg3];clear hg3;refine hK.out _ _ (⟨hE.h2,hE.h3⟩) (fun hHeld=> ?_);clear hK K;try simp only[PL]
    refine r1 12 (fun K hK=> ?_)
    have hgl4:w.heap.size<=g3:=by omega
    obtain⟨x4_0,x4_1,x4_2,x4_3⟩:=(hE.here.2).c4;obtain⟨f4_0,f4_1,f4_2,f4_3⟩:=hE.here.2.f4;replace hE:=(((((Env.again (bel4 hE.bel hgl4 (.bool false) (.slice none 0 0) (.bool false) (.slice none 0 0))).blkI ((hE.h3).far4 (by omega) _ _ _ _)).blkI ((hE.h2).far4 (by omega) _ _ _ _)).blkI ((hE.here.1.2).far4 (by omega) _ _ _ _)).blkI ((hE.here.2).s4 _ _ _ _));go_simp;clear x4_0 x4_1 x4_2 x4_3 f4_0 f4_1 f4_2 f4_3 hgl4;generalize ((((W3.setCell ⟨g3,0,none⟩ (.bool false)).setCell ⟨g3,1,none⟩ (.slice none 0 0)).setCell ⟨g3,2,none⟩ (.bool false)).setCell ⟨g3,3,none⟩ (.slice none 0 0))=W4 at hE⊢;refine hK.out _ _ (⟨hE.h2,hE.h3⟩) (fun hHeld=> ?_);clear hK K;try simp only[PL]
    refine tk 13 ?_;refine wpAnyH_done (by kernel_rfl) ?_ _;go_wp2_with fail
    go_meet
    exact⟨g3,rfl,rfl,⟨by omega,by omega,by omega⟩,(((((Env.again hE.bel).blkI (hE.h3)).blkI (hE.h2)).blkI (hE.here.1.2)).blkI (hE.here.2))⟩
   ·
    go_simp
    obtain⟨g5,hg5⟩:∃g5,g5=wd.heap.size:=⟨_,rfl⟩
    have hl5_0:gw<g5:=by rw[hg5];exact(hE.h2).lt
    have hl5_1:w.heap.size<g5:=by rw[hg5];exact(hE.here.1.2).lt
    have hl5_2:w.heap.size+1<g5:=by rw[hg5];exact(hE.here.2).lt
    replace hE:=hE.blk 29 qz4 (g:=g5) hg5.symm;generalize wd.alloc (.cells qz4 29)=W5 at hE⊢;rw[<-hg5];clear hg5;refine hK.out _ _ (⟨hE.h2,hE.h3⟩) (fun hHeld=> ?_);clear hK K;try simp only[PL]
    refine r1 7 (fun K hK=> ?_);go_simp;refine hE.br (vpros_dead (Bh.rd_below Hhb.out hE.bel) Hhbb.out (Ct.rd_below Hhx.out hE.bel) Hhxb.out Hhok.out N HhN.out h80 t (by omega) h64) ?_;clear hE;intro w6 hE;go_wp2_with fail
    refine hK.out _ _ (⟨hE.h2,hE.h3⟩) (fun hHeld=> ?_);clear hK K;try simp only[PL]
    refine tk 8 ?_;refine tk 9 ?_;refine tk 10 ?_;refine r1 12 (fun K hK=> ?_)
    have hgl7:w.heap.size<=g5:=by omega
    obtain⟨x7_0,x7_1,x7_2,x7_3⟩:=(hE.here.2).c4;obtain⟨f7_0,f7_1,f7_2,f7_3⟩:=hE.here.2.f4;replace hE:=(((((Env.again (bel4 hE.bel hgl7 (.bool false) (.slice none 0 0) (.bool false) (.slice none 0 0))).blkI ((hE.h3).far4 (by omega) _ _ _ _)).blkI ((hE.h2).far4 (by omega) _ _ _ _)).blkI ((hE.here.1.2).far4 (by omega) _ _ _ _)).blkI ((hE.here.2).s4 _ _ _ _));go_simp;clear x7_0 x7_1 x7_2 x7_3 f7_0 f7_1 f7_2 f7_3 hgl7;generalize ((((w6.setCell ⟨g5,0,none⟩ (.bool false)).setCell ⟨g5,1,none⟩ (.slice none 0 0)).setCell ⟨g5,2,none⟩ (.bool false)).setCell ⟨g5,3,none⟩ (.slice none 0 0))=W7 at hE⊢;refine hK.out _ _ (⟨hE.h2,hE.h3⟩) (fun hHeld=> ?_);clear hK K;try simp only[PL]
    refine tk 13 ?_;refine wpAnyH_done (by kernel_rfl) ?_ _;go_wp2_with fail
    go_meet
    exact⟨g5,rfl,rfl,⟨by omega,by omega,by omega⟩,(((((Env.again hE.bel).blkI (hE.h3)).blkI (hE.h2)).blkI (hE.here.1.2)).blkI (hE.here.2))⟩
  case rest=>
  clear hE;obtain⟨G7,rfl,rfl,⟨hg0,hg1,hg2⟩,hE⟩:=hcut;generalize wc=wk3 at hE⊢;go_wp2_with fail
  have hv0:(0:Rat)=b.val x N t:=(va_last (v:=b.v) (f:=b.rt x.E x.Y) (L:=x.L) (K:=x.K) (show N<=t by omega)).symm;have hc:=ffromInt_v 0 wk3 (by decide) (by decide);change Calls _ _ _ _ (FR 0 _) at hc;rw[hv0] at hc;clear hv0;refine hE.fr (hc) ?_;clear hE;intro sq Aq nq cq tq Bq mq dq w8 hE;clear hc
  have hRl:w.heap.size<=w.heap.size+1:=by omega
  obtain⟨WW,hWW,hB,hV,hBel⟩:=ret_frac hE hE.h2 hRl hE.here.2 cq dq;obtain⟨x0,x1,x2,x3⟩:=(hE.h2).c4;obtain⟨fz0,fz1,fz2,fz3⟩:=hE.h2.f4;have HWW:=Lib.hid hWW;clear hWW;go_wp2_with fail
  clear x0 x1 x2 x3;rw[<-HWW.out];obtain⟨y0,y1,y2,y3⟩:=hB.c4;refine bodyPost_ret (v:= .agg (qf4 sq Aq nq cq tq Bq mq dq)) (by simp[results,Tryz.results138,go_sem,y0,y1,y2,y3]) rfl ?_;exact⟨sq,Aq,nq,cq,tq,Bq,mq,dq,rfl,hV,hBel⟩
end Go.Proofs.YtclbiihcbfnjmaaGreat
