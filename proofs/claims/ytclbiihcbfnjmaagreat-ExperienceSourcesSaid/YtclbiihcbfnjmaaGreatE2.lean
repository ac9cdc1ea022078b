/-
  Parts.
-/
import Derived.Test.YtclbiihcbfnjmaaGreatK23
import Derived.Test.YtclbiihcbfnjmaaGreatE1
set_option linter.unusedSimpArgs false
set_option maxRecDepth 100000
set_option maxHeartbeats 8000000
namespace Go.Proofs.YtclbiihcbfnjmaaGreat
open Go.RowKit

def pG (x:Ct)(gT gA gD:Int)(b0 b1:Bh)(j:FH):Array Value:=#[.int .i64 0,.int .i64 x.E,.int .i64 x.Y,.int .i64 x.T,.bool x.p.s,.slice x.p.A x.p.n x.p.c,.bool x.p.t,.slice x.p.B x.p.m x.p.d,.slice x.A x.n x.c,.slice x.B x.m x.d,.int .i64 gT,.int .i64 gA,.int .i64 gD,.int .i64 b0.F,.int .i64 b0.S,.slice b0.A b0.n b0.c,.bool b0.i.s,.slice b0.i.A b0.i.n b0.i.c,.bool b0.i.t,.slice b0.i.B b0.i.m b0.i.d,.int .i64 b1.F,.int .i64 b1.S,.slice b1.A b1.n b1.c,.bool b1.i.s,.slice b1.i.A b1.i.n b1.i.c,.bool b1.i.t,.slice b1.i.B b1.i.m b1.i.d,.bool j.s,.slice j.A j.n j.c,.bool j.t,.slice j.B j.m j.d]
theorem dI {x:Ct}{gT gA gD:Int}{b0 b1:Bh}{j:FH}{g:Nat}{W:World}(h:au 125 g (pG x gT gA gD b0 b1 j) W):jx g W:=⟨_,_,h,rfl⟩
theorem pW {b:Bh}{x:Ct}{gw:Nat}{gT gA gD:Int}{b0 b1:Bh}{j:FH}{w:World}(hb:b.rd w)(nS:b.bd)(hx:x.rd w)(jw:x.bd)(hok:x.ok b)(N:Nat)(hN:lT b.v (b.rt x.E x.Y) N)(lZ:N<=80)(hW:au 125 gw (pG x gT gA gD b0 b1 j) w)(t:Nat)(h64:t<=9223372036854775807):
  Calls Tryz.prog 138 #[.pointer (some ⟨gw,0,none⟩),.agg b.C,.int .i64 (t:Int)] w (FR (b.val x N t) w):=by
 by_cases ht:t<N
 ·
  have kX:=af hb;clear hb;have iy:=af nS;clear nS;have og:=af hx;clear hx;have iI:=af jw;clear jw;have mG:=af hok;clear hok;have rV:=af hN;clear hN;have xo:au 125 gw #[.int .i64 0,.int .i64 x.E,.int .i64 x.Y,.int .i64 x.T,.bool x.p.s,.slice x.p.A x.p.n x.p.c,.bool x.p.t,.slice x.p.B x.p.m x.p.d,.slice x.A x.n x.c,.slice x.B x.m x.d,.int .i64 gT,.int .i64 gA,.int .i64 gD,.int .i64 b0.F,.int .i64 b0.S,.slice b0.A b0.n b0.c,.bool b0.i.s,.slice b0.i.A b0.i.n b0.i.c,.bool b0.i.t,.slice b0.i.B b0.i.m b0.i.d,.int .i64 b1.F,.int .i64 b1.S,.slice b1.A b1.n b1.c,.bool b1.i.s,.slice b1.i.A b1.i.n b1.i.c,.bool b1.i.t,.slice b1.i.B b1.i.m b1.i.d,.bool j.s,.slice j.A j.n j.c,.bool j.t,.slice j.B j.m j.d] w:=hW;have vg:=xo.lt;have HhW:=af xo;clear xo;have hE:=((Env.start w).ag HhW.out).blk 31 b.C (g:=w.heap.size) rfl;have hE:=hE.blk 29 aW (g:=w.heap.size+1) (by simp)
  obtain⟨W0,aC⟩:∃W0,W0=((w.alloc (.cells b.C 31)).alloc (.cells aW 29)):=⟨_,rfl⟩
  rw[<-aC] at hE;have aZ:=af aC;clear aC
  go_enter Tryz.func138,Tryz.ntmps138
  go_upto_region 1 with(fail)
  rw[<-aZ.out];have k1:=(hE.h2).cell 0
  go_upto_region 3 with(fail)
  clear k1
  go_cut [7,8] from 9 to 27 (fun p p2 wx=>∃G7 sq Aq nq cq tq Bq mq dq,p= .pointer (some ⟨G7,0,none⟩)/\p2= .int .i64 0/\(gw<G7/\w.heap.size<G7/\w.heap.size+1<G7)/\Env w (fun V=>(((((True/\au 125 (gw) #[.int .i64 0,.int .i64 x.E,.int .i64 x.Y,.int .i64 x.T,.bool x.p.s,.slice x.p.A x.p.n x.p.c,.bool x.p.t,.slice x.p.B x.p.m x.p.d,.slice x.A x.n x.c,.slice x.B x.m x.d,.int .i64 gT,.int .i64 gA,.int .i64 gD,.int .i64 b0.F,.int .i64 b0.S,.slice b0.A b0.n b0.c,.bool b0.i.s,.slice b0.i.A b0.i.n b0.i.c,.bool b0.i.t,.slice b0.i.B b0.i.m b0.i.d,.int .i64 b1.F,.int .i64 b1.S,.slice b1.A b1.n b1.c,.bool b1.i.s,.slice b1.i.A b1.i.n b1.i.c,.bool b1.i.t,.slice b1.i.B b1.i.m b1.i.d,.bool j.s,.slice j.A j.n j.c,.bool j.t,.slice j.B j.m j.d] V)/\au 31 (w.heap.size) b.C V)/\au 29 (w.heap.size+1) aW V)/\FV V (b.val x N t) sq Aq nq tq Bq mq)/\au 29 (G7) (az sq Aq nq cq tq Bq mq dq) V)) wx)
  case first=>
   replace hE:=hE.drew;refine bH (S:=fun V=>au 31 (w.heap.size) b.C V/\au 125 (gw) #[.int .i64 0,.int .i64 x.E,.int .i64 x.Y,.int .i64 x.T,.bool x.p.s,.slice x.p.A x.p.n x.p.c,.bool x.p.t,.slice x.p.B x.p.m x.p.d,.slice x.A x.n x.c,.slice x.B x.m x.d,.int .i64 gT,.int .i64 gA,.int .i64 gD,.int .i64 b0.F,.int .i64 b0.S,.slice b0.A b0.n b0.c,.bool b0.i.s,.slice b0.i.A b0.i.n b0.i.c,.bool b0.i.t,.slice b0.i.B b0.i.m b0.i.d,.int .i64 b1.F,.int .i64 b1.S,.slice b1.A b1.n b1.c,.bool b1.i.s,.slice b1.i.A b1.i.n b1.i.c,.bool b1.i.t,.slice b1.i.B b1.i.m b1.i.d,.bool j.s,.slice j.A j.n j.c,.bool j.t,.slice j.B j.m j.d] V) (by kernel_rfl) (⟨hE.g1,hE.h2⟩) (fun hHeld=> ?_)
   generalize W0.drew=wd at*
   refine tk 0 ?_ (hy:=by
    intro w aG;have nR:=(aG.1).cell 0;have qL:=(aG.1).cell 1;have rS:=(aG.1).cell 2;have qR:=(aG.1).cell 3;have Zi:=(aG.1).cell 4;have Zj:=(aG.1).cell 5;have Zk:=(aG.1).cell 6;clear aG
    first|(go_simp;done)|(go_simp;with_reducible rfl))
   try simp only[PL]
   refine tk 1 ?_;refine tk 2 ?_;refine tk 3 ?_;refine tk 4 ?_
   refine tk 5 ?_ (hy:=by
    intro w aG;have qL:=(aG.2).cell 1;have rS:=(aG.2).cell 2;have qR:=(aG.2).cell 3;have Zi:=(aG.2).cell 4;have Zj:=(aG.2).cell 5;have Zk:=(aG.2).cell 6;have kc7:=(aG.2).cell 7;have kc8:=(aG.2).cell 8;have kc9:=(aG.2).cell 9;clear aG
    first|(go_simp;done)|(go_simp;with_reducible rfl))
   try simp only[PL]
   refine tk 6 ?_;refine cC (rs:=[7,11]) (by kernel_rfl) (by simp) (bq rfl (fun K hK=> ?_) (bq rfl (fun K hK=> ?_) (cD)))
   ·
    go_simp;refine hE.fr (IA (Bh.aN kX.out hE.ax) iy.out (Ct.aN og.out hE.ax) iI.out mG.out N rV.out lZ t ht) ?_;clear hE;intro sq Aq nq cq tq Bq mq dq w2 hE;go_wp2_with fail
    refine hK.out _ _ (⟨hE.h2,hE.h3⟩) (fun hHeld=> ?_);clear hK K;try simp only[PL]
    refine tk 8 ?_;refine tk 9 ?_;refine tk 10 ?_;refine r1 11 (fun K hK=> ?_);go_simp
    obtain⟨g3,lX⟩:∃g3,g3=w2.heap.size:=⟨_,rfl⟩
    have CE:gw<g3:=by rw[lX];exact(hE.h3).lt
    have Zl:w.heap.size<g3:=by rw[lX];exact(hE.h2).lt
    have Zm:w.heap.size+1<g3:=by rw[lX];exact(hE.g1).lt
    replace hE:=hE.blk 29 aW (g:=g3) lX.symm;generalize w2.alloc (.cells aW 29)=W3 at hE⊢;rw[<-lX];clear lX;refine hK.out _ _ (⟨hE.h3,hE.h4⟩) (fun hHeld=> ?_);clear hK K;try simp only[PL]
    refine r1 12 (fun K hK=> ?_)
    have Oq:w.heap.size<=g3:=by omega
    obtain⟨abD,abE,abF,abG⟩:=(hE.g0).c4;obtain⟨abH,abI,abJ,abK⟩:=hE.g0.f4;replace hE:=((((((Env.again (bW hE.ax Oq (.bool sq) (.slice Aq nq cq) (.bool tq) (.slice Bq mq dq))).ag ((hE.h4).aj (by omega) _ _ _ _)).ag ((hE.h3).aj (by omega) _ _ _ _)).ag ((hE.h2).aj (by omega) _ _ _ _)).fv ((hE.g1).ak hE.g0 rfl _ _ _ _ rfl rfl rfl)).ag ((hE.g0).s4 _ _ _ _));go_simp;clear abD abE abF abG abH abI abJ abK Oq;generalize ((((W3.setCell ⟨g3,0,none⟩ (.bool sq)).setCell ⟨g3,1,none⟩ (.slice Aq nq cq)).setCell ⟨g3,2,none⟩ (.bool tq)).setCell ⟨g3,3,none⟩ (.slice Bq mq dq))=W4 at hE⊢;refine hK.out _ _ (⟨hE.h3,hE.h4⟩) (fun hHeld=> ?_);clear hK K;try simp only[PL]
    refine tk 13 ?_;refine aX (by kernel_rfl) ?_ _;go_wp2_with fail
    go_meet
    exact⟨g3,sq,Aq,nq,cq,tq,Bq,mq,dq,rfl,rfl,⟨by omega,by omega,by omega⟩,((((((Env.again hE.ax).ag (hE.h4)).ag (hE.h3)).ag (hE.h2)).fv (hE.g1)).ag (hE.g0))⟩
   ·
    go_simp
    obtain⟨g5,rT⟩:∃g5,g5=wd.heap.size:=⟨_,rfl⟩
    have Zn:gw<g5:=by rw[rT];exact(hE.h2).lt
    have Zo:w.heap.size<g5:=by rw[rT];exact(hE.g1).lt
    have Zp:w.heap.size+1<g5:=by rw[rT];exact(hE.g0).lt
    replace hE:=hE.blk 29 aW (g:=g5) rT.symm;generalize wd.alloc (.cells aW 29)=W5 at hE⊢;rw[<-rT];clear rT;refine hK.out _ _ (⟨hE.h2,hE.h3⟩) (fun hHeld=> ?_);clear hK K;try simp only[PL]
    refine r1 7 (fun K hK=> ?_);go_simp;refine hE.fr (IA (Bh.aN kX.out hE.ax) iy.out (Ct.aN og.out hE.ax) iI.out mG.out N rV.out lZ t ht) ?_;clear hE;intro sq Aq nq cq tq Bq mq dq w6 hE;go_wp2_with fail
    refine hK.out _ _ (⟨hE.h3,hE.h4⟩) (fun hHeld=> ?_);clear hK K;try simp only[PL]
    refine tk 8 ?_;refine tk 9 ?_;refine tk 10 ?_;refine r1 12 (fun K hK=> ?_)
    have Ot:w.heap.size<=g5:=by omega
    obtain⟨abL,abM,abN,abO⟩:=(hE.g1).c4;obtain⟨abP,abQ,abR,abS⟩:=hE.g1.f4;replace hE:=((((((Env.again (bW hE.ax Ot (.bool sq) (.slice Aq nq cq) (.bool tq) (.slice Bq mq dq))).ag ((hE.h4).aj (by omega) _ _ _ _)).ag ((hE.h3).aj (by omega) _ _ _ _)).ag ((hE.h2).aj (by omega) _ _ _ _)).ag ((hE.g1).s4 _ _ _ _)).fv ((hE.g0).ak hE.g1 rfl _ _ _ _ rfl rfl rfl));go_simp;clear abL abM abN abO abP abQ abR abS Ot;generalize ((((w6.setCell ⟨g5,0,none⟩ (.bool sq)).setCell ⟨g5,1,none⟩ (.slice Aq nq cq)).setCell ⟨g5,2,none⟩ (.bool tq)).setCell ⟨g5,3,none⟩ (.slice Bq mq dq))=W7 at hE⊢;refine hK.out _ _ (⟨hE.h3,hE.h4⟩) (fun hHeld=> ?_);clear hK K;try simp only[PL]
    refine tk 13 ?_;refine aX (by kernel_rfl) ?_ _;go_wp2_with fail
    go_meet
    exact⟨g5,sq,Aq,nq,cq,tq,Bq,mq,dq,rfl,rfl,⟨by omega,by omega,by omega⟩,((((((Env.again hE.ax).ag (hE.h4)).ag (hE.h3)).ag (hE.h2)).fv (hE.g0)).ag (hE.g1))⟩
  case rest=>
  clear hE;obtain⟨G7,sq,Aq,nq,cq,tq,Bq,mq,dq,rfl,rfl,⟨hg0,Uo,zX⟩,hE⟩:=hcut;generalize wc=wk3 at hE⊢;have s0:=(hE.h4).cell 0;have s1:=(hE.h4).frozen 0
  go_upto_region 7 with(fail)
  rw[iG (show wk3.cell? ⟨gw,0,none⟩=some (.int .i64 0) from s0)];clear s0 s1;obtain⟨k8,k9,fU,dX⟩:=(hE.g0).c4
  have cS:w.heap.size<=w.heap.size+1:=by omega
  obtain⟨WW,bn,hB,hV,aM⟩:=aR hE hE.h2 cS hE.g1 cq dq;obtain⟨x0,x1,x2,x3⟩:=(hE.h2).c4;obtain⟨fL,fM,fV,fW⟩:=hE.h2.f4;have bR:=af bn;clear bn;go_wp2_with fail
  clear k8 k9 fU dX;rw[<-bR.out];obtain⟨y0,y1,y2,y3⟩:=hB.c4;refine aK (v:= .agg (az sq Aq nq cq tq Bq mq dq)) (by simp[results,Tryz.results138,go_sem,y0,y1,y2,y3]) rfl ?_;exact⟨sq,Aq,nq,cq,tq,Bq,mq,dq,rfl,hV,aM⟩
 ·
  have kX:=af hb;clear hb;have iy:=af nS;clear nS;have og:=af hx;clear hx;have iI:=af jw;clear jw;have mG:=af hok;clear hok;have rV:=af hN;clear hN;have xo:au 125 gw #[.int .i64 0,.int .i64 x.E,.int .i64 x.Y,.int .i64 x.T,.bool x.p.s,.slice x.p.A x.p.n x.p.c,.bool x.p.t,.slice x.p.B x.p.m x.p.d,.slice x.A x.n x.c,.slice x.B x.m x.d,.int .i64 gT,.int .i64 gA,.int .i64 gD,.int .i64 b0.F,.int .i64 b0.S,.slice b0.A b0.n b0.c,.bool b0.i.s,.slice b0.i.A b0.i.n b0.i.c,.bool b0.i.t,.slice b0.i.B b0.i.m b0.i.d,.int .i64 b1.F,.int .i64 b1.S,.slice b1.A b1.n b1.c,.bool b1.i.s,.slice b1.i.A b1.i.n b1.i.c,.bool b1.i.t,.slice b1.i.B b1.i.m b1.i.d,.bool j.s,.slice j.A j.n j.c,.bool j.t,.slice j.B j.m j.d] w:=hW;have vg:=xo.lt;have HhW:=af xo;clear xo;have hE:=((Env.start w).ag HhW.out).blk 31 b.C (g:=w.heap.size) rfl;have hE:=hE.blk 29 aW (g:=w.heap.size+1) (by simp)
  obtain⟨W0,aC⟩:∃W0,W0=((w.alloc (.cells b.C 31)).alloc (.cells aW 29)):=⟨_,rfl⟩
  rw[<-aC] at hE;have aZ:=af aC;clear aC
  go_enter Tryz.func138,Tryz.ntmps138
  go_upto_region 1 with(fail)
  rw[<-aZ.out];have k1:=(hE.h2).cell 0
  go_upto_region 3 with(fail)
  clear k1
  go_cut [7,8] from 9 to 27 (fun p p2 wx=>∃G7,p= .pointer (some ⟨G7,0,none⟩)/\p2= .int .i64 320/\(gw<G7/\w.heap.size<G7/\w.heap.size+1<G7)/\Env w (fun V=>((((True/\au 125 (gw) #[.int .i64 0,.int .i64 x.E,.int .i64 x.Y,.int .i64 x.T,.bool x.p.s,.slice x.p.A x.p.n x.p.c,.bool x.p.t,.slice x.p.B x.p.m x.p.d,.slice x.A x.n x.c,.slice x.B x.m x.d,.int .i64 gT,.int .i64 gA,.int .i64 gD,.int .i64 b0.F,.int .i64 b0.S,.slice b0.A b0.n b0.c,.bool b0.i.s,.slice b0.i.A b0.i.n b0.i.c,.bool b0.i.t,.slice b0.i.B b0.i.m b0.i.d,.int .i64 b1.F,.int .i64 b1.S,.slice b1.A b1.n b1.c,.bool b1.i.s,.slice b1.i.A b1.i.n b1.i.c,.bool b1.i.t,.slice b1.i.B b1.i.m b1.i.d,.bool j.s,.slice j.A j.n j.c,.bool j.t,.slice j.B j.m j.d] V)/\au 31 (w.heap.size) b.C V)/\au 29 (w.heap.size+1) aW V)/\au 29 (G7) aW V)) wx)
  case first=>
   replace hE:=hE.drew;refine bH (S:=fun V=>au 31 (w.heap.size) b.C V/\au 125 (gw) #[.int .i64 0,.int .i64 x.E,.int .i64 x.Y,.int .i64 x.T,.bool x.p.s,.slice x.p.A x.p.n x.p.c,.bool x.p.t,.slice x.p.B x.p.m x.p.d,.slice x.A x.n x.c,.slice x.B x.m x.d,.int .i64 gT,.int .i64 gA,.int .i64 gD,.int .i64 b0.F,.int .i64 b0.S,.slice b0.A b0.n b0.c,.bool b0.i.s,.slice b0.i.A b0.i.n b0.i.c,.bool b0.i.t,.slice b0.i.B b0.i.m b0.i.d,.int .i64 b1.F,.int .i64 b1.S,.slice b1.A b1.n b1.c,.bool b1.i.s,.slice b1.i.A b1.i.n b1.i.c,.bool b1.i.t,.slice b1.i.B b1.i.m b1.i.d,.bool j.s,.slice j.A j.n j.c,.bool j.t,.slice j.B j.m j.d] V) (by kernel_rfl) (⟨hE.g1,hE.h2⟩) (fun hHeld=> ?_)
   generalize W0.drew=wd at*
   refine tk 0 ?_ (hy:=by
    intro w aG;have nR:=(aG.1).cell 0;have qL:=(aG.1).cell 1;have rS:=(aG.1).cell 2;have qR:=(aG.1).cell 3;have Zi:=(aG.1).cell 4;have Zj:=(aG.1).cell 5;have Zk:=(aG.1).cell 6;clear aG
    first|(go_simp;done)|(go_simp;with_reducible rfl))
   try simp only[PL]
   refine tk 1 ?_;refine tk 2 ?_;refine tk 3 ?_;refine tk 4 ?_
   refine tk 5 ?_ (hy:=by
    intro w aG;have qL:=(aG.2).cell 1;have rS:=(aG.2).cell 2;have qR:=(aG.2).cell 3;have Zi:=(aG.2).cell 4;have Zj:=(aG.2).cell 5;have Zk:=(aG.2).cell 6;have kc7:=(aG.2).cell 7;have kc8:=(aG.2).cell 8;have kc9:=(aG.2).cell 9;clear aG
    first|(go_simp;done)|(go_simp;with_reducible rfl))
   try simp only[PL]
   refine tk 6 ?_;refine cC (rs:=[7,11]) (by kernel_rfl) (by simp) (bq rfl (fun K hK=> ?_) (bq rfl (fun K hK=> ?_) (cD)))
   ·
    go_simp;refine hE.br (vn (Bh.aN kX.out hE.ax) iy.out (Ct.aN og.out hE.ax) iI.out mG.out N rV.out lZ t (by omega) h64) ?_;clear hE;intro w2 hE;go_wp2_with fail
    refine hK.out _ _ (⟨hE.g1,hE.h2⟩) (fun hHeld=> ?_);clear hK K;try simp only[PL]
    refine tk 8 ?_;refine tk 9 ?_;refine tk 10 ?_;refine r1 11 (fun K hK=> ?_);go_simp
    obtain⟨g3,lX⟩:∃g3,g3=w2.heap.size:=⟨_,rfl⟩
    have CE:gw<g3:=by rw[lX];exact(hE.h2).lt
    have Zl:w.heap.size<g3:=by rw[lX];exact(hE.g1).lt
    have Zm:w.heap.size+1<g3:=by rw[lX];exact(hE.g0).lt
    replace hE:=hE.blk 29 aW (g:=g3) lX.symm;generalize w2.alloc (.cells aW 29)=W3 at hE⊢;rw[<-lX];clear lX;refine hK.out _ _ (⟨hE.h2,hE.h3⟩) (fun hHeld=> ?_);clear hK K;try simp only[PL]
    refine r1 12 (fun K hK=> ?_)
    have Oq:w.heap.size<=g3:=by omega
    obtain⟨abD,abE,abF,abG⟩:=(hE.g0).c4;obtain⟨abH,abI,abJ,abK⟩:=hE.g0.f4;replace hE:=(((((Env.again (bW hE.ax Oq (.bool false) (.slice none 0 0) (.bool false) (.slice none 0 0))).ag ((hE.h3).aj (by omega) _ _ _ _)).ag ((hE.h2).aj (by omega) _ _ _ _)).ag ((hE.g1).aj (by omega) _ _ _ _)).ag ((hE.g0).s4 _ _ _ _));go_simp;clear abD abE abF abG abH abI abJ abK Oq;generalize ((((W3.setCell ⟨g3,0,none⟩ (.bool false)).setCell ⟨g3,1,none⟩ (.slice none 0 0)).setCell ⟨g3,2,none⟩ (.bool false)).setCell ⟨g3,3,none⟩ (.slice none 0 0))=W4 at hE⊢;refine hK.out _ _ (⟨hE.h2,hE.h3⟩) (fun hHeld=> ?_);clear hK K;try simp only[PL]
    refine tk 13 ?_;refine aX (by kernel_rfl) ?_ _;go_wp2_with fail
    go_meet
    exact⟨g3,rfl,rfl,⟨by omega,by omega,by omega⟩,(((((Env.again hE.ax).ag (hE.h3)).ag (hE.h2)).ag (hE.g1)).ag (hE.g0))⟩
   ·
    go_simp
    obtain⟨g5,rT⟩:∃g5,g5=wd.heap.size:=⟨_,rfl⟩
    have Zn:gw<g5:=by rw[rT];exact(hE.h2).lt
    have Zo:w.heap.size<g5:=by rw[rT];exact(hE.g1).lt
    have Zp:w.heap.size+1<g5:=by rw[rT];exact(hE.g0).lt
    replace hE:=hE.blk 29 aW (g:=g5) rT.symm;generalize wd.alloc (.cells aW 29)=W5 at hE⊢;rw[<-rT];clear rT;refine hK.out _ _ (⟨hE.h2,hE.h3⟩) (fun hHeld=> ?_);clear hK K;try simp only[PL]
    refine r1 7 (fun K hK=> ?_);go_simp;refine hE.br (vn (Bh.aN kX.out hE.ax) iy.out (Ct.aN og.out hE.ax) iI.out mG.out N rV.out lZ t (by omega) h64) ?_;clear hE;intro w6 hE;go_wp2_with fail
    refine hK.out _ _ (⟨hE.h2,hE.h3⟩) (fun hHeld=> ?_);clear hK K;try simp only[PL]
    refine tk 8 ?_;refine tk 9 ?_;refine tk 10 ?_;refine r1 12 (fun K hK=> ?_)
    have Ot:w.heap.size<=g5:=by omega
    obtain⟨abL,abM,abN,abO⟩:=(hE.g0).c4;obtain⟨abP,abQ,abR,abS⟩:=hE.g0.f4;replace hE:=(((((Env.again (bW hE.ax Ot (.bool false) (.slice none 0 0) (.bool false) (.slice none 0 0))).ag ((hE.h3).aj (by omega) _ _ _ _)).ag ((hE.h2).aj (by omega) _ _ _ _)).ag ((hE.g1).aj (by omega) _ _ _ _)).ag ((hE.g0).s4 _ _ _ _));go_simp;clear abL abM abN abO abP abQ abR abS Ot;generalize ((((w6.setCell ⟨g5,0,none⟩ (.bool false)).setCell ⟨g5,1,none⟩ (.slice none 0 0)).setCell ⟨g5,2,none⟩ (.bool false)).setCell ⟨g5,3,none⟩ (.slice none 0 0))=W7 at hE⊢;refine hK.out _ _ (⟨hE.h2,hE.h3⟩) (fun hHeld=> ?_);clear hK K;try simp only[PL]
    refine tk 13 ?_;refine aX (by kernel_rfl) ?_ _;go_wp2_with fail
    go_meet
    exact⟨g5,rfl,rfl,⟨by omega,by omega,by omega⟩,(((((Env.again hE.ax).ag (hE.h3)).ag (hE.h2)).ag (hE.g1)).ag (hE.g0))⟩
  case rest=>
  clear hE;obtain⟨G7,rfl,rfl,⟨hg0,Uo,zX⟩,hE⟩:=hcut;generalize wc=wk3 at hE⊢;go_wp2_with fail
  have hv0:(0:Rat)=b.val x N t:=(uK (v:=b.v) (f:=b.rt x.E x.Y) (L:=x.L) (K:=x.K) (show N<=t by omega)).symm;have hc:=bg 0 wk3 (by decide) (by decide);change Calls _ _ _ _ (FR 0 _) at hc;rw[hv0] at hc;clear hv0;refine hE.fr (hc) ?_;clear hE;intro sq Aq nq cq tq Bq mq dq w8 hE;clear hc
  have cS:w.heap.size<=w.heap.size+1:=by omega
  obtain⟨WW,bn,hB,hV,aM⟩:=aR hE hE.h2 cS hE.g0 cq dq;obtain⟨x0,x1,x2,x3⟩:=(hE.h2).c4;obtain⟨fL,fM,fV,fW⟩:=hE.h2.f4;have bR:=af bn;clear bn;go_wp2_with fail
  clear x0 x1 x2 x3;rw[<-bR.out];obtain⟨y0,y1,y2,y3⟩:=hB.c4;refine aK (v:= .agg (az sq Aq nq cq tq Bq mq dq)) (by simp[results,Tryz.results138,go_sem,y0,y1,y2,y3]) rfl ?_;exact⟨sq,Aq,nq,cq,tq,Bq,mq,dq,rfl,hV,aM⟩
end Go.Proofs.YtclbiihcbfnjmaaGreat
