/-
  Parts.
-/
import Derived.Test.YtclbiihcbfnjmaaGreatE2
import Derived.Test.YtclbiihcbfnjmaaGreatIv
set_option linter.unusedSimpArgs false
set_option maxRecDepth 100000
set_option maxHeartbeats 8000000
namespace Go.Proofs.YtclbiihcbfnjmaaGreat
open Go.RowKit

structure abT (T:Prop):Prop where
 out:T
theorem Gd {G T:Prop}(h:abT T->G)(k:T):G:=h ⟨k⟩
theorem xT {p:Program}{f:FuncId}{args:Array Value}{w:World}{q r:Rat}(e:q=r)(h:Calls p f args w (IB q w)):Calls p f args w (IB r w):=e▸h
theorem Up {x:Ct}{gw:Nat}{gA gD:Int}{b0 b1:Bh}{j:FH}{t:Nat}{w:World}(hb:b0.rd w)(hT:nJ b0.n b0.r)(hR:b0.right x.E (x.Y+(t:Int)))(_:-9223372036854775808<=x.Y+(t:Int)/\x.Y+(t:Int)<=9223372036854775807)(hW:au 125 gw (pG x (t:Int) gA gD b0 b1 j) w):
  Calls Tryz.prog 140 #[.pointer (some ⟨gw,0,none⟩)] w (FR (b0.rt x.E x.Y t) w):=by
 have xo:au 125 gw #[.int .i64 0,.int .i64 x.E,.int .i64 x.Y,.int .i64 x.T,.bool x.p.s,.slice x.p.A x.p.n x.p.c,.bool x.p.t,.slice x.p.B x.p.m x.p.d,.slice x.A x.n x.c,.slice x.B x.m x.d,.int .i64 (t:Int),.int .i64 gA,.int .i64 gD,.int .i64 b0.F,.int .i64 b0.S,.slice b0.A b0.n b0.c,.bool b0.i.s,.slice b0.i.A b0.i.n b0.i.c,.bool b0.i.t,.slice b0.i.B b0.i.m b0.i.d,.int .i64 b1.F,.int .i64 b1.S,.slice b1.A b1.n b1.c,.bool b1.i.s,.slice b1.i.A b1.i.n b1.i.c,.bool b1.i.t,.slice b1.i.B b1.i.m b1.i.d,.bool j.s,.slice j.A j.n j.c,.bool j.t,.slice j.B j.m j.d] w:=hW;have vg:=xo.lt;have HhW:=af xo;clear xo hW
 have hmv:fr b0.F b0.S b0.n b0.r x.E (x.Y+(t:Int)) 0=b0.rt x.E x.Y t:=by rw[YY (k:=t) rfl];rfl
 have o1:IntKind.i64.wrap (x.Y+(t:Int))=x.Y+(t:Int):=by rw[cL];omega
 have kX:=af hb;clear hb;skip;have Co:=af hT;clear hT;have FJ:=af hR;clear hR;have agI:=af hmv;clear hmv;have hE:=(Env.start w).ag HhW.out;have hE:=hE.blk 29 aW (g:=w.heap.size) rfl
 obtain⟨W0,aC⟩:∃W0,W0=(w.alloc (.cells aW 29)):=⟨_,rfl⟩
 rw[<-aC] at hE;have aZ:=af aC;clear aC
 go_enter Tryz.func140,Tryz.ntmps140
 go_upto_region 1 with(fail)
 rw[<-aZ.out];have k1:=(hE.g1).cell 0;have k2:=(hE.g1).cell 1;have k3:=(hE.g1).cell 2
 go_upto_region 4 with(fail)
 clear k1 k2 k3
 obtain⟨g4,xh⟩:∃g4,g4=W0.heap.size:=⟨_,rfl⟩
 have aqB:gw<g4:=by rw[xh];exact(hE.g1).lt
 have aqC:w.heap.size<g4:=by rw[xh];exact(hE.g0).lt
 replace hE:=hE.blk 33 #[.int .i64 x.E,.int .i64 x.Y] (g:=g4) xh.symm;generalize W0.alloc (.cells #[.int .i64 x.E,.int .i64 x.Y] 33)=W4 at hE⊢;rw[<-xh];clear xh;replace hE:=hE.drew;refine bH (S:=fun V=>au 125 (gw) #[.int .i64 0,.int .i64 x.E,.int .i64 x.Y,.int .i64 x.T,.bool x.p.s,.slice x.p.A x.p.n x.p.c,.bool x.p.t,.slice x.p.B x.p.m x.p.d,.slice x.A x.n x.c,.slice x.B x.m x.d,.int .i64 (t:Int),.int .i64 gA,.int .i64 gD,.int .i64 b0.F,.int .i64 b0.S,.slice b0.A b0.n b0.c,.bool b0.i.s,.slice b0.i.A b0.i.n b0.i.c,.bool b0.i.t,.slice b0.i.B b0.i.m b0.i.d,.int .i64 b1.F,.int .i64 b1.S,.slice b1.A b1.n b1.c,.bool b1.i.s,.slice b1.i.A b1.i.n b1.i.c,.bool b1.i.t,.slice b1.i.B b1.i.m b1.i.d,.bool j.s,.slice j.A j.n j.c,.bool j.t,.slice j.B j.m j.d] V/\au 33 (g4) #[.int .i64 x.E,.int .i64 x.Y] V) (by kernel_rfl) (⟨hE.h2,hE.g0⟩) (fun hHeld=> ?_)
 generalize W4.drew=wd at*
 apply Gd;intro CQ
 ·
  refine tk 0 ?_;refine tk 1 ?_;refine tk 2 ?_;refine tk 3 ?_
  refine tk 4 ?_ (hy:=by
   intro w aG;have agJ:=(aG.1).cell 13;have agK:=(aG.1).cell 14;have agL:=(aG.1).cell 15;clear aG
   first|(go_simp;done)|(go_simp;with_reducible rfl))
  try simp only[PL]
  refine tk 5 ?_
  refine tk 6 ?_ (hy:=by
   intro w aG;have nR:=(aG.2).cell 0;clear aG
   first|(go_simp;done)|(go_simp;with_reducible rfl))
  try simp only[PL]
  refine tk 7 ?_
  refine tk 8 ?_ (hy:=by
   intro w aG;have qL:=(aG.2).cell 1;clear aG
   first|(go_simp;done)|(go_simp;with_reducible rfl))
  try simp only[PL]
  refine tk 9 ?_;refine tk 10 ?_;refine tk 11 ?_;refine tk 12 ?_
  refine tk 13 ?_ (hy:=by
   intro w aG;have KO:=(aG.1).cell 10;clear aG
   first|(go_simp;done)|(go_simp;with_reducible rfl))
  try simp only[PL]
  refine tk 14 ?_;refine tk 15 ?_;refine cC (rs:=[16,20]) (by kernel_rfl) (by simp) (bq rfl (fun K hK=> ?_) (bq rfl (fun K hK=> ?_) (cD)))
  ·
   go_simp;refine(xT agI.out (uH (c:=b0.c) (kX.out.1.below hE.ax) Co.out FJ.out)).mono ?_
   rintro e w5 ⟨sq,Aq,nq,cq,tq,Bq,mq,dq,rfl,hq,hb⟩
   replace hE:=hE.step hb;clear hb;skip;replace hE:=hE.fv hq;clear hq;go_wp2_with fail
   refine hK.out _ _ (⟨hE.h3,hE.g1⟩) (fun hHeld=> ?_);clear hK K;try simp only[PL]
   refine tk 17 ?_;refine tk 18 ?_;refine tk 19 ?_;refine r1 20 (fun K hK=> ?_);go_simp
   obtain⟨uL,hG⟩:∃g,g=w5.heap.size:=⟨_,rfl⟩
   have Uq:w.heap.size<=uL:=by rw[hG];exact hE.ax.size
   have zY:gw<uL:=by rw[hG];exact(hE.h3).lt
   have zZ:w.heap.size<uL:=by rw[hG];exact(hE.h2).lt
   have Ak:g4<uL:=by rw[hG];exact(hE.g1).lt
   replace hE:=hE.blk 29 aW (g:=uL) hG.symm;generalize w5.alloc (.cells aW 29)=WA at hE⊢;rw[<-hG];clear hG;refine hK.out _ _ (⟨hE.h4,hE.h2⟩) (fun hHeld=> ?_);clear hK K;try simp only[PL]
   refine r1 21 (fun K hK=> ?_)
   have Ou:w.heap.size<=uL:=by omega
   obtain⟨abU,abV,abW,abX⟩:=(hE.g0).c4;obtain⟨abY,abZ,ab0,ab1⟩:=hE.g0.f4;replace hE:=((((((Env.again (bW hE.ax Ou (.bool sq) (.slice Aq nq cq) (.bool tq) (.slice Bq mq dq))).ag ((hE.h4).aj (by omega) _ _ _ _)).ag ((hE.h3).aj (by omega) _ _ _ _)).ag ((hE.h2).aj (by omega) _ _ _ _)).fv ((hE.g1).ak hE.g0 rfl _ _ _ _ rfl rfl rfl)).ag ((hE.g0).s4 _ _ _ _));go_simp;clear abU abV abW abX abY abZ ab0 ab1 Ou;generalize ((((WA.setCell ⟨uL,0,none⟩ (.bool sq)).setCell ⟨uL,1,none⟩ (.slice Aq nq cq)).setCell ⟨uL,2,none⟩ (.bool tq)).setCell ⟨uL,3,none⟩ (.slice Bq mq dq))=W6 at hE⊢;refine hK.out _ _ (⟨hE.h4,hE.h2⟩) (fun hHeld=> ?_);clear hK K;try simp only[PL]
   have dD:=((((((Env.again hE.ax).ag (hE.h4)).ag (hE.h3)).ag (hE.h2)).fv (hE.g1)).ag (hE.g0));clear hE hHeld
   revert dD;revert Ak;revert zZ;revert zY;revert Uq;revert W6;revert uL;revert dq;revert mq;revert Bq;revert tq;revert cq;revert nq;revert Aq;revert sq
   exact CQ.out
  ·
   go_simp
   obtain⟨uL,hG⟩:∃g,g=wd.heap.size:=⟨_,rfl⟩
   have Uq:w.heap.size<=uL:=by rw[hG];exact hE.ax.size
   have zY:gw<uL:=by rw[hG];exact(hE.h2).lt
   have zZ:w.heap.size<uL:=by rw[hG];exact(hE.g1).lt
   have Ak:g4<uL:=by rw[hG];exact(hE.g0).lt
   replace hE:=hE.blk 29 aW (g:=uL) hG.symm;generalize wd.alloc (.cells aW 29)=WA at hE⊢;rw[<-hG];clear hG;refine hK.out _ _ (⟨hE.h3,hE.g1⟩) (fun hHeld=> ?_);clear hK K;try simp only[PL]
   refine r1 16 (fun K hK=> ?_);go_simp;refine(xT agI.out (uH (c:=b0.c) (kX.out.1.below hE.ax) Co.out FJ.out)).mono ?_
   rintro e w7 ⟨sq,Aq,nq,cq,tq,Bq,mq,dq,rfl,hq,hb⟩
   replace hE:=hE.step hb;clear hb;skip;replace hE:=hE.fv hq;clear hq;go_wp2_with fail
   refine hK.out _ _ (⟨hE.h4,hE.h2⟩) (fun hHeld=> ?_);clear hK K;try simp only[PL]
   refine tk 17 ?_;refine tk 18 ?_;refine tk 19 ?_;refine r1 21 (fun K hK=> ?_)
   have Ov:w.heap.size<=uL:=by omega
   obtain⟨ab2,ab3,amC,amD⟩:=(hE.g1).c4;obtain⟨ab4,ab5,amE,amF⟩:=hE.g1.f4;replace hE:=((((((Env.again (bW hE.ax Ov (.bool sq) (.slice Aq nq cq) (.bool tq) (.slice Bq mq dq))).ag ((hE.h4).aj (by omega) _ _ _ _)).ag ((hE.h3).aj (by omega) _ _ _ _)).ag ((hE.h2).aj (by omega) _ _ _ _)).ag ((hE.g1).s4 _ _ _ _)).fv ((hE.g0).ak hE.g1 rfl _ _ _ _ rfl rfl rfl));go_simp;clear ab2 ab3 amC amD ab4 ab5 amE amF Ov;generalize ((((w7.setCell ⟨uL,0,none⟩ (.bool sq)).setCell ⟨uL,1,none⟩ (.slice Aq nq cq)).setCell ⟨uL,2,none⟩ (.bool tq)).setCell ⟨uL,3,none⟩ (.slice Bq mq dq))=W8 at hE⊢;refine hK.out _ _ (⟨hE.h4,hE.h2⟩) (fun hHeld=> ?_);clear hK K;try simp only[PL]
   have dD:=((((((Env.again hE.ax).ag (hE.h4)).ag (hE.h3)).ag (hE.h2)).fv (hE.g0)).ag (hE.g1));clear hE hHeld;exact CQ.out sq Aq nq cq tq Bq mq dq uL W8 Uq zY zZ Ak dD
 ·
  intro sq Aq nq cq tq Bq mq dq uL wJ Uq zY zZ Ak hE;have hHeld:(fun V=>au 125 (gw) #[.int .i64 0,.int .i64 x.E,.int .i64 x.Y,.int .i64 x.T,.bool x.p.s,.slice x.p.A x.p.n x.p.c,.bool x.p.t,.slice x.p.B x.p.m x.p.d,.slice x.A x.n x.c,.slice x.B x.m x.d,.int .i64 (t:Int),.int .i64 gA,.int .i64 gD,.int .i64 b0.F,.int .i64 b0.S,.slice b0.A b0.n b0.c,.bool b0.i.s,.slice b0.i.A b0.i.n b0.i.c,.bool b0.i.t,.slice b0.i.B b0.i.m b0.i.d,.int .i64 b1.F,.int .i64 b1.S,.slice b1.A b1.n b1.c,.bool b1.i.s,.slice b1.i.A b1.i.n b1.i.c,.bool b1.i.t,.slice b1.i.B b1.i.m b1.i.d,.bool j.s,.slice j.A j.n j.c,.bool j.t,.slice j.B j.m j.d] V/\au 33 (g4) #[.int .i64 x.E,.int .i64 x.Y] V) wJ:=⟨hE.h4,hE.h2⟩;refine tk 22 ?_;refine aX (by kernel_rfl) ?_ _;have s0:=(hE.h4).cell 0;have s1:=(hE.h4).frozen 0
  go_upto_region 6 with(fail)
  rw[iG (show World.cell? _ ⟨gw,0,none⟩=some (.int .i64 0) from s0)];clear s0 s1;obtain⟨k9,fU,dX,dY⟩:=(hE.g0).c4
  have cS:w.heap.size<=w.heap.size:=by omega
  obtain⟨WW,bn,hB,hV,aM⟩:=aR hE hE.h3 cS hE.g1 cq dq;obtain⟨x0,x1,x2,x3⟩:=(hE.h3).c4;obtain⟨fL,fM,fV,fW⟩:=hE.h3.f4;have bR:=af bn;clear bn;go_wp2_with fail
  clear k9 fU dX dY;rw[<-bR.out];obtain⟨y0,y1,y2,y3⟩:=hB.c4;refine aK (v:= .agg (az sq Aq nq cq tq Bq mq dq)) (by simp[results,Tryz.results140,go_sem,y0,y1,y2,y3]) rfl ?_;exact⟨sq,Aq,nq,cq,tq,Bq,mq,dq,rfl,hV,aM⟩
theorem vo {b:Bh}{E Y:Int}{w:World}(hb:b.rd w)(hT:nJ b.n b.r)(hR:b.right E Y)(k:Nat)(hk:k<=9223372036854775807):
  Calls Tryz.prog 99 #[.agg b.C,.agg #[.int .i64 E,.int .i64 Y],.int .i64 (k:Int)] w (js (pr (b.rt E Y) k≠0) w):=by
 have kX:=af hb;clear hb;have Co:=af hT;clear hT;have FJ:=af hR;clear hR;have hE:=((Env.start w).blk 31 b.C (g:=w.heap.size) rfl).blk 33 #[.int .i64 E,.int .i64 Y] (g:=w.heap.size+1) (by simp)
 obtain⟨W0,aC⟩:∃W0,W0=((w.alloc (.cells b.C 31)).alloc (.cells #[.int .i64 E,.int .i64 Y] 33)):=⟨_,rfl⟩
 rw[<-aC] at hE;have aZ:=af aC;clear aC
 go_enter Tryz.func99,Tryz.ntmps99
 go_upto_region 1 with(fail)
 rw[<-aZ.out];obtain⟨k1,k2,k3,k4,k5,k6,k7⟩:=(hE.g1).c7;obtain⟨k8,k9⟩:=(hE.g0).c2;go_wp2_with fail
 refine hE.fr (Ow (c:=b.c) (kX.out.1.below hE.ax) Co.out FJ.out k hk) ?_;clear hE k1 k2 k3 k4 k5 k6 k7 k8 k9;intro sq Aq nq cq tq Bq mq dq rU hE
 go_upto_region 2 with(fail)
 obtain⟨g11,oh⟩:∃g11,g11=rU.heap.size:=⟨_,rfl⟩
 have Ox:w.heap.size<g11:=by rw[oh];exact(hE.h2).lt
 have amG:w.heap.size+1<g11:=by rw[oh];exact(hE.g1).lt
 replace hE:=hE.blk 29 (az sq Aq nq cq tq Bq mq dq) (g:=g11) oh.symm;generalize rU.alloc (.cells (az sq Aq nq cq tq Bq mq dq) 29)=W11 at hE⊢;rw[<-oh];clear oh;obtain⟨dY,eu,eF,iA⟩:=(hE.g0).c4;go_wp2_with fail
 clear dY eu eF iA;refine(KJ (ca:=cq) (da:=dq) (hE.g1)).mono ?_
 rintro e w9 ⟨v,rfl,hv,hb⟩
 replace hE:=hE.step hb;clear hb;have Hhv:=af hv;clear hv;go_wp2_with fail
 go_ret
 exact⟨!v,rfl,by have h1:=Hhv.out;rw[Rat.num_eq_zero] at h1;have h2:v=true↔pr (b.rt E Y) k=0:=h1;rw[ne_eq,<-h2];cases v<;>simp,hE.ax⟩
end Go.Proofs.YtclbiihcbfnjmaaGreat
