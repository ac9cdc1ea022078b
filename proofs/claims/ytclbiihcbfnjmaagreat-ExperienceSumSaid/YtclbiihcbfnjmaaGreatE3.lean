/-
  Parts.
-/
import Derived.Test.YtclbiihcbfnjmaaGreatK2
import Derived.Test.YtclbiihcbfnjmaaGreatK8
import Derived.Test.YtclbiihcbfnjmaaGreatE2
import Derived.Test.YtclbiihcbfnjmaaGreatK17
import Derived.Test.YtclbiihcbfnjmaaGreatIv
set_option linter.unusedSimpArgs false
set_option maxRecDepth 100000
set_option maxHeartbeats 8000000
namespace Go.Proofs.YtclbiihcbfnjmaaGreat
open Go.RowKit

structure KeyBox (T:Prop):Prop where
 out:T
theorem viaKey {G T:Prop}(h:KeyBox T->G)(k:T):G:=h ⟨k⟩
theorem calls_fok {p:Program}{f:FuncId}{args:Array Value}{w:World}{q r:Rat}(e:q=r)(h:Calls p f args w (FOK q w)):Calls p f args w (FOK r w):=e▸h
theorem erate_v {x:Ct}{gw:Nat}{gA gD:Int}{b0 b1:Bh}{j:FH}{t:Nat}{w:World}(hb:b0.rd w)(hT:TabB b0.n b0.r)(hR:b0.right x.E (x.Y+(t:Int)))(_:-9223372036854775808<=x.Y+(t:Int)/\x.Y+(t:Int)<=9223372036854775807)(hW:Blk 125 gw (wkC x (t:Int) gA gD b0 b1 j) w):
  Calls Tryz.prog 140 #[.pointer (some ⟨gw,0,none⟩)] w (FR (b0.rt x.E x.Y t) w):=by
 have hW1:Blk 125 gw #[.int .i64 0,.int .i64 x.E,.int .i64 x.Y,.int .i64 x.T,.bool x.p.s,.slice x.p.A x.p.n x.p.c,.bool x.p.t,.slice x.p.B x.p.m x.p.d,.slice x.A x.n x.c,.slice x.B x.m x.d,.int .i64 (t:Int),.int .i64 gA,.int .i64 gD,.int .i64 b0.F,.int .i64 b0.S,.slice b0.A b0.n b0.c,.bool b0.i.s,.slice b0.i.A b0.i.n b0.i.c,.bool b0.i.t,.slice b0.i.B b0.i.m b0.i.d,.int .i64 b1.F,.int .i64 b1.S,.slice b1.A b1.n b1.c,.bool b1.i.s,.slice b1.i.A b1.i.n b1.i.c,.bool b1.i.t,.slice b1.i.B b1.i.m b1.i.d,.bool j.s,.slice j.A j.n j.c,.bool j.t,.slice j.B j.m j.d] w:=hW;have hgw:=hW1.lt;have HhW:=Lib.hid hW1;clear hW1 hW
 have hmv:fr b0.F b0.S b0.n b0.r x.E (x.Y+(t:Int)) 0=b0.rt x.E x.Y t:=by rw[fr_at (k:=t) rfl];rfl
 have o1:IntKind.i64.wrap (x.Y+(t:Int))=x.Y+(t:Int):=by rw[IntKind.wrap_i64];omega
 have Hhb:=Lib.hid hb;clear hb;skip;have HhT:=Lib.hid hT;clear hT;have HhR:=Lib.hid hR;clear hR;have Hhmv:=Lib.hid hmv;clear hmv;have hE:=(Env.start w).blkI HhW.out;have hE:=hE.blk 29 qz4 (g:=w.heap.size) rfl
 obtain⟨W0,hW0⟩:∃W0,W0=(w.alloc (.cells qz4 29)):=⟨_,rfl⟩
 rw[<-hW0] at hE;have HW0:=Lib.hid hW0;clear hW0
 go_enter Tryz.func140,Tryz.ntmps140
 go_upto_region 1 with(fail)
 rw[<-HW0.out];have k1:=(hE.here.1.2).cell 0;have k2:=(hE.here.1.2).cell 1;have k3:=(hE.here.1.2).cell 2
 go_upto_region 4 with(fail)
 clear k1 k2 k3
 obtain⟨g4,hg4⟩:∃g4,g4=W0.heap.size:=⟨_,rfl⟩
 have hl4_0:gw<g4:=by rw[hg4];exact(hE.here.1.2).lt
 have hl4_1:w.heap.size<g4:=by rw[hg4];exact(hE.here.2).lt
 replace hE:=hE.blk 33 #[.int .i64 x.E,.int .i64 x.Y] (g:=g4) hg4.symm;generalize W0.alloc (.cells #[.int .i64 x.E,.int .i64 x.Y] 33)=W4 at hE⊢;rw[<-hg4];clear hg4;replace hE:=hE.drew;refine wp_region_held_drew (S:=fun V=>Blk 125 (gw) #[.int .i64 0,.int .i64 x.E,.int .i64 x.Y,.int .i64 x.T,.bool x.p.s,.slice x.p.A x.p.n x.p.c,.bool x.p.t,.slice x.p.B x.p.m x.p.d,.slice x.A x.n x.c,.slice x.B x.m x.d,.int .i64 (t:Int),.int .i64 gA,.int .i64 gD,.int .i64 b0.F,.int .i64 b0.S,.slice b0.A b0.n b0.c,.bool b0.i.s,.slice b0.i.A b0.i.n b0.i.c,.bool b0.i.t,.slice b0.i.B b0.i.m b0.i.d,.int .i64 b1.F,.int .i64 b1.S,.slice b1.A b1.n b1.c,.bool b1.i.s,.slice b1.i.A b1.i.n b1.i.c,.bool b1.i.t,.slice b1.i.B b1.i.m b1.i.d,.bool j.s,.slice j.A j.n j.c,.bool j.t,.slice j.B j.m j.d] V/\Blk 33 (g4) #[.int .i64 x.E,.int .i64 x.Y] V) (by kernel_rfl) (⟨hE.h2,hE.here.2⟩) (fun hHeld=> ?_)
 generalize W4.drew=wd at*
 apply viaKey;intro hk4_0
 ·
  refine tk 0 ?_;refine tk 1 ?_;refine tk 2 ?_;refine tk 3 ?_
  refine tk 4 ?_ (hy:=by
   intro w hSw;have kc13:=(hSw.1).cell 13;have kc14:=(hSw.1).cell 14;have kc15:=(hSw.1).cell 15;clear hSw
   first|(go_simp;done)|(go_simp;with_reducible rfl))
  try simp only[PL]
  refine tk 5 ?_
  refine tk 6 ?_ (hy:=by
   intro w hSw;have kc0:=(hSw.2).cell 0;clear hSw
   first|(go_simp;done)|(go_simp;with_reducible rfl))
  try simp only[PL]
  refine tk 7 ?_
  refine tk 8 ?_ (hy:=by
   intro w hSw;have kc1:=(hSw.2).cell 1;clear hSw
   first|(go_simp;done)|(go_simp;with_reducible rfl))
  try simp only[PL]
  refine tk 9 ?_;refine tk 10 ?_;refine tk 11 ?_;refine tk 12 ?_
  refine tk 13 ?_ (hy:=by
   intro w hSw;have kc10:=(hSw.1).cell 10;clear hSw
   first|(go_simp;done)|(go_simp;with_reducible rfl))
  try simp only[PL]
  refine tk 14 ?_;refine tk 15 ?_;refine wpAnyH_ready (rs:=[16,20]) (by kernel_rfl) (by simp) (AllReadyH.cons rfl (fun K hK=> ?_) (AllReadyH.cons rfl (fun K hK=> ?_) (AllReadyH.nil)))
  ·
   go_simp;refine(calls_fok Hhmv.out (lRate_v (c:=b0.c) (Hhb.out.1.below hE.bel) HhT.out HhR.out)).mono ?_
   rintro e w5 ⟨sq,Aq,nq,cq,tq,Bq,mq,dq,rfl,hq,hb⟩
   replace hE:=hE.step hb;clear hb;skip;replace hE:=hE.fv hq;clear hq;go_wp2_with fail
   refine hK.out _ _ (⟨hE.h3,hE.here.1.2⟩) (fun hHeld=> ?_);clear hK K;try simp only[PL]
   refine tk 17 ?_;refine tk 18 ?_;refine tk 19 ?_;refine r1 20 (fun K hK=> ?_);go_simp
   obtain⟨G20,hG⟩:∃g,g=w5.heap.size:=⟨_,rfl⟩
   have hw20:w.heap.size<=G20:=by rw[hG];exact hE.bel.size
   have hb20_0:gw<G20:=by rw[hG];exact(hE.h3).lt
   have hb20_1:w.heap.size<G20:=by rw[hG];exact(hE.h2).lt
   have hb20_2:g4<G20:=by rw[hG];exact(hE.here.1.2).lt
   replace hE:=hE.blk 29 qz4 (g:=G20) hG.symm;generalize w5.alloc (.cells qz4 29)=WA at hE⊢;rw[<-hG];clear hG;refine hK.out _ _ (⟨hE.h4,hE.h2⟩) (fun hHeld=> ?_);clear hK K;try simp only[PL]
   refine r1 21 (fun K hK=> ?_)
   have hgl6:w.heap.size<=G20:=by omega
   obtain⟨x6_0,x6_1,x6_2,x6_3⟩:=(hE.here.2).c4;obtain⟨f6_0,f6_1,f6_2,f6_3⟩:=hE.here.2.f4;replace hE:=((((((Env.again (bel4 hE.bel hgl6 (.bool sq) (.slice Aq nq cq) (.bool tq) (.slice Bq mq dq))).blkI ((hE.h4).far4 (by omega) _ _ _ _)).blkI ((hE.h3).far4 (by omega) _ _ _ _)).blkI ((hE.h2).far4 (by omega) _ _ _ _)).fv ((hE.here.1.2).sep4 hE.here.2 rfl _ _ _ _ rfl rfl rfl)).blkI ((hE.here.2).s4 _ _ _ _));go_simp;clear x6_0 x6_1 x6_2 x6_3 f6_0 f6_1 f6_2 f6_3 hgl6;generalize ((((WA.setCell ⟨G20,0,none⟩ (.bool sq)).setCell ⟨G20,1,none⟩ (.slice Aq nq cq)).setCell ⟨G20,2,none⟩ (.bool tq)).setCell ⟨G20,3,none⟩ (.slice Bq mq dq))=W6 at hE⊢;refine hK.out _ _ (⟨hE.h4,hE.h2⟩) (fun hHeld=> ?_);clear hK K;try simp only[PL]
   have hE2:=((((((Env.again hE.bel).blkI (hE.h4)).blkI (hE.h3)).blkI (hE.h2)).fv (hE.here.1.2)).blkI (hE.here.2));clear hE hHeld
   revert hE2;revert hb20_2;revert hb20_1;revert hb20_0;revert hw20;revert W6;revert G20;revert dq;revert mq;revert Bq;revert tq;revert cq;revert nq;revert Aq;revert sq
   exact hk4_0.out
  ·
   go_simp
   obtain⟨G20,hG⟩:∃g,g=wd.heap.size:=⟨_,rfl⟩
   have hw20:w.heap.size<=G20:=by rw[hG];exact hE.bel.size
   have hb20_0:gw<G20:=by rw[hG];exact(hE.h2).lt
   have hb20_1:w.heap.size<G20:=by rw[hG];exact(hE.here.1.2).lt
   have hb20_2:g4<G20:=by rw[hG];exact(hE.here.2).lt
   replace hE:=hE.blk 29 qz4 (g:=G20) hG.symm;generalize wd.alloc (.cells qz4 29)=WA at hE⊢;rw[<-hG];clear hG;refine hK.out _ _ (⟨hE.h3,hE.here.1.2⟩) (fun hHeld=> ?_);clear hK K;try simp only[PL]
   refine r1 16 (fun K hK=> ?_);go_simp;refine(calls_fok Hhmv.out (lRate_v (c:=b0.c) (Hhb.out.1.below hE.bel) HhT.out HhR.out)).mono ?_
   rintro e w7 ⟨sq,Aq,nq,cq,tq,Bq,mq,dq,rfl,hq,hb⟩
   replace hE:=hE.step hb;clear hb;skip;replace hE:=hE.fv hq;clear hq;go_wp2_with fail
   refine hK.out _ _ (⟨hE.h4,hE.h2⟩) (fun hHeld=> ?_);clear hK K;try simp only[PL]
   refine tk 17 ?_;refine tk 18 ?_;refine tk 19 ?_;refine r1 21 (fun K hK=> ?_)
   have hgl8:w.heap.size<=G20:=by omega
   obtain⟨x8_0,x8_1,x8_2,x8_3⟩:=(hE.here.1.2).c4;obtain⟨f8_0,f8_1,f8_2,f8_3⟩:=hE.here.1.2.f4;replace hE:=((((((Env.again (bel4 hE.bel hgl8 (.bool sq) (.slice Aq nq cq) (.bool tq) (.slice Bq mq dq))).blkI ((hE.h4).far4 (by omega) _ _ _ _)).blkI ((hE.h3).far4 (by omega) _ _ _ _)).blkI ((hE.h2).far4 (by omega) _ _ _ _)).blkI ((hE.here.1.2).s4 _ _ _ _)).fv ((hE.here.2).sep4 hE.here.1.2 rfl _ _ _ _ rfl rfl rfl));go_simp;clear x8_0 x8_1 x8_2 x8_3 f8_0 f8_1 f8_2 f8_3 hgl8;generalize ((((w7.setCell ⟨G20,0,none⟩ (.bool sq)).setCell ⟨G20,1,none⟩ (.slice Aq nq cq)).setCell ⟨G20,2,none⟩ (.bool tq)).setCell ⟨G20,3,none⟩ (.slice Bq mq dq))=W8 at hE⊢;refine hK.out _ _ (⟨hE.h4,hE.h2⟩) (fun hHeld=> ?_);clear hK K;try simp only[PL]
   have hE2:=((((((Env.again hE.bel).blkI (hE.h4)).blkI (hE.h3)).blkI (hE.h2)).fv (hE.here.2)).blkI (hE.here.1.2));clear hE hHeld;exact hk4_0.out sq Aq nq cq tq Bq mq dq G20 W8 hw20 hb20_0 hb20_1 hb20_2 hE2
 ·
  intro sq Aq nq cq tq Bq mq dq G20 wJ hw20 hb20_0 hb20_1 hb20_2 hE;have hHeld:(fun V=>Blk 125 (gw) #[.int .i64 0,.int .i64 x.E,.int .i64 x.Y,.int .i64 x.T,.bool x.p.s,.slice x.p.A x.p.n x.p.c,.bool x.p.t,.slice x.p.B x.p.m x.p.d,.slice x.A x.n x.c,.slice x.B x.m x.d,.int .i64 (t:Int),.int .i64 gA,.int .i64 gD,.int .i64 b0.F,.int .i64 b0.S,.slice b0.A b0.n b0.c,.bool b0.i.s,.slice b0.i.A b0.i.n b0.i.c,.bool b0.i.t,.slice b0.i.B b0.i.m b0.i.d,.int .i64 b1.F,.int .i64 b1.S,.slice b1.A b1.n b1.c,.bool b1.i.s,.slice b1.i.A b1.i.n b1.i.c,.bool b1.i.t,.slice b1.i.B b1.i.m b1.i.d,.bool j.s,.slice j.A j.n j.c,.bool j.t,.slice j.B j.m j.d] V/\Blk 33 (g4) #[.int .i64 x.E,.int .i64 x.Y] V) wJ:=⟨hE.h4,hE.h2⟩;refine tk 22 ?_;refine wpAnyH_done (by kernel_rfl) ?_ _;have s0:=(hE.h4).cell 0;have s1:=(hE.h4).frozen 0
  go_upto_region 6 with(fail)
  rw[setCell_self (show World.cell? _ ⟨gw,0,none⟩=some (.int .i64 0) from s0)];clear s0 s1;obtain⟨k9,k10,k11,k12⟩:=(hE.here.2).c4
  have hRl:w.heap.size<=w.heap.size:=by omega
  obtain⟨WW,hWW,hB,hV,hBel⟩:=ret_frac hE hE.h3 hRl hE.here.1.2 cq dq;obtain⟨x0,x1,x2,x3⟩:=(hE.h3).c4;obtain⟨fz0,fz1,fz2,fz3⟩:=hE.h3.f4;have HWW:=Lib.hid hWW;clear hWW;go_wp2_with fail
  clear k9 k10 k11 k12;rw[<-HWW.out];obtain⟨y0,y1,y2,y3⟩:=hB.c4;refine bodyPost_ret (v:= .agg (qf4 sq Aq nq cq tq Bq mq dq)) (by simp[results,Tryz.results140,go_sem,y0,y1,y2,y3]) rfl ?_;exact⟨sq,Aq,nq,cq,tq,Bq,mq,dq,rfl,hV,hBel⟩
theorem elives_v {b:Bh}{E Y:Int}{w:World}(hb:b.rd w)(hT:TabB b.n b.r)(hR:b.right E Y)(k:Nat)(hk:k<=9223372036854775807):
  Calls Tryz.prog 99 #[.agg b.C,.agg #[.int .i64 E,.int .i64 Y],.int .i64 (k:Int)] w (BoolIff (pr (b.rt E Y) k≠0) w):=by
 have Hhb:=Lib.hid hb;clear hb;have HhT:=Lib.hid hT;clear hT;have HhR:=Lib.hid hR;clear hR;have hE:=((Env.start w).blk 31 b.C (g:=w.heap.size) rfl).blk 33 #[.int .i64 E,.int .i64 Y] (g:=w.heap.size+1) (by simp)
 obtain⟨W0,hW0⟩:∃W0,W0=((w.alloc (.cells b.C 31)).alloc (.cells #[.int .i64 E,.int .i64 Y] 33)):=⟨_,rfl⟩
 rw[<-hW0] at hE;have HW0:=Lib.hid hW0;clear hW0
 go_enter Tryz.func99,Tryz.ntmps99
 go_upto_region 1 with(fail)
 rw[<-HW0.out];obtain⟨k1,k2,k3,k4,k5,k6,k7⟩:=(hE.here.1.2).c7;obtain⟨k8,k9⟩:=(hE.here.2).c2;go_wp2_with fail
 refine hE.fr (lAlive_v (c:=b.c) (Hhb.out.1.below hE.bel) HhT.out HhR.out k hk) ?_;clear hE k1 k2 k3 k4 k5 k6 k7 k8 k9;intro sq Aq nq cq tq Bq mq dq w10 hE
 go_upto_region 2 with(fail)
 obtain⟨g11,hg11⟩:∃g11,g11=w10.heap.size:=⟨_,rfl⟩
 have hl11_0:w.heap.size<g11:=by rw[hg11];exact(hE.h2).lt
 have hl11_1:w.heap.size+1<g11:=by rw[hg11];exact(hE.here.1.2).lt
 replace hE:=hE.blk 29 (qf4 sq Aq nq cq tq Bq mq dq) (g:=g11) hg11.symm;generalize w10.alloc (.cells (qf4 sq Aq nq cq tq Bq mq dq) 29)=W11 at hE⊢;rw[<-hg11];clear hg11;obtain⟨k12,k13,k14,k15⟩:=(hE.here.2).c4;go_wp2_with fail
 clear k12 k13 k14 k15;refine(eisZero_v (ca:=cq) (da:=dq) (hE.here.1.2)).mono ?_
 rintro e w9 ⟨v,rfl,hv,hb⟩
 replace hE:=hE.step hb;clear hb;have Hhv:=Lib.hid hv;clear hv;go_wp2_with fail
 go_ret
 exact⟨!v,rfl,by have h1:=Hhv.out;rw[Rat.num_eq_zero] at h1;have h2:v=true↔pr (b.rt E Y) k=0:=h1;rw[ne_eq,<-h2];cases v<;>simp,hE.bel⟩
end Go.Proofs.YtclbiihcbfnjmaaGreat
