/-
  Parts.
-/
import Derived.Test.YtclbiihcbfnjmaaGreatK8
import Derived.Laws.EntriesVeiled
import Derived.Test.YtclbiihcbfnjmaaGreatP3
import Derived.Test.YtclbiihcbfnjmaaGreatK21
import Derived.Test.YtclbiihcbfnjmaaGreatK2
import Derived.Test.YtclbiihcbfnjmaaGreatPN
set_option linter.unusedSimpArgs false
set_option maxRecDepth 100000
set_option maxHeartbeats 8000000
namespace Go.Proofs.YtclbiihcbfnjmaaGreat
section
open Go.RowKit

def ValR (b:Bh)(x:Ct)(N:Nat)(w:World)(e:Ending)(w':World):Prop:=∃G cap h,e= .returned (.tuple #[.agg (x.Q G N cap),.int .i64 0])/\ColB G N cap h w'/\ColQ h N (fun _ _=>True) (colq b.v (b.rt x.E x.Y) N) w'/\Below w.heap.size w w'
theorem set10 (W:World)(g:Nat)(a b c d e f i j k l:Value):((((((((((W.setCell ⟨g,0,none⟩ (a)).setCell ⟨g,1,none⟩ (b)).setCell ⟨g,2,none⟩ (c)).setCell ⟨g,3,none⟩ (d)).setCell ⟨g,4,none⟩ (e)).setCell ⟨g,5,none⟩ (f)).setCell ⟨g,6,none⟩ (i)).setCell ⟨g,7,none⟩ (j)).setCell ⟨g,8,none⟩ (k)).setCell ⟨g,9,none⟩ (l))=W.setCells g 0 [a,b,c,d,e,f,i,j,k,l]:=rfl
theorem vnew_v {b:Bh}{x:Ct}{w:World}(hb:b.rd w)(hbb:b.bd)(hx:x.rd w)(hxb:x.bd)(hok:x.ok b)(N:Nat)(hN:Cnt b.v (b.rt x.E x.Y) N)(h80:N<=80):
  Calls Tryz.prog 51 #[.agg b.C,.agg x.C] w (ValR b x N w):=by
 have Hhb:=Lib.hid hb;clear hb;have Hhbb:=Lib.hid hbb;clear hbb;have Hhx:=Lib.hid hx;clear hx;have Hhxb:=Lib.hid hxb;clear hxb;have Hhok:=Lib.hid hok;clear hok;have HhN:=Lib.hid hN;clear hN;have hE:=((Env.start w).blk 31 b.C (g:=w.heap.size) rfl).blk 36 x.C (g:=w.heap.size+1) (by simp);have hE:=hE.blk 80 #[.int .i64 0,.int .i64 0,.int .i64 0,.bool false,.slice none 0 0,.bool false,.slice none 0 0,.slice none 0 0,.slice none 0 0,.slice none 0 0] (g:=w.heap.size+1+1) (by simp)
 obtain⟨W0,hW0⟩:∃W0,W0=(((w.alloc (.cells b.C 31)).alloc (.cells x.C 36)).alloc (.cells #[.int .i64 0,.int .i64 0,.int .i64 0,.bool false,.slice none 0 0,.bool false,.slice none 0 0,.slice none 0 0,.slice none 0 0,.slice none 0 0] 80)):=⟨_,rfl⟩
 rw[<-hW0] at hE;have HW0:=Lib.hid hW0;clear hW0
 go_enter Tryz.func51,Tryz.ntmps51
 go_upto_region 1 with(fail)
 rw[<-HW0.out];obtain⟨k1,k2,k3,k4,k5,k6,k7⟩:=(hE.h2).c7;have k8:=(hE.here.1.2).cell 0;have k9:=(hE.here.1.2).cell 1;have k10:=(hE.here.1.2).cell 2;have k11:=(hE.here.1.2).cell 3;have k12:=(hE.here.1.2).cell 4;have k13:=(hE.here.1.2).cell 5;have k14:=(hE.here.1.2).cell 6;have k15:=(hE.here.1.2).cell 7;have k16:=(hE.here.1.2).cell 8;go_wp2_with fail
 refine hE.br (vvalid_t (Bh.rd_below Hhb.out hE.bel) Hhbb.out (Ct.rd_below Hhx.out hE.bel) Hhxb.out Hhok.out) ?_;clear hE k1 k2 k3 k4 k5 k6 k7 k8 k9 k10 k11 k12 k13 k14 k15 k16;intro w17 hE;obtain⟨k18,k19,k20,k21,k22,k23,k24⟩:=(hE.h2).c7;have k25:=(hE.here.1.2).cell 0;have k26:=(hE.here.1.2).cell 1;go_wp2_with fail
 refine(cColumns_v (F:=b.F) (S:=b.S) (E:=x.E) (Y:=x.Y) (A:=b.A) (n:=b.n) (c:=b.c) (r:=b.r) (si:=b.i.s) (ti:=b.i.t) (Ai:=b.i.A) (Bi:=b.i.B) (ni:=b.i.n) (mi:=b.i.m) (ci:=b.i.c) (di:=b.i.d) (fi:=b.i.f) (gi:=b.i.g) (Hhb.out.1.below hE.bel) Hhbb.out.1 (FRd.below Hhb.out.2 hE.bel) Hhbb.out.2.1 Hhbb.out.2.2 Hhok.out.1 Hhok.out.2.1 N HhN.out h80).mono ?_;clear k18 k19 k20 k21 k22 k23 k24 k25 k26
 rintro e wc ⟨cv,h,rfl,hcv,hcq,hb1⟩
 replace hE:=hE.step hb1;clear hb1
 rcases hcv with⟨-,h0⟩|⟨G,cap,rfl,-,hCB⟩
 ·exact absurd h0 (Nat.pos_iff_ne_zero.1 HhN.out.pos)
 obtain⟨hgr,hB⟩:=sets_all (hE.here.2) [.int .i64 x.E,.int .i64 x.Y,.int .i64 x.T,.bool x.p.s,.slice x.p.A x.p.n x.p.c,.bool x.p.t,.slice x.p.B x.p.m x.p.d,.slice x.A x.n x.c,.slice x.B x.m x.d,.slice (some ⟨G,0,none⟩) N cap] rfl;have hCB2:ColB G N cap h _:=ColP.grownB hCB (hE.here.2) (by decide) hgr;have hcq2:=ColQ.grownB hcq (hE.here.2) rfl hgr;have hBel:=Below.grownB hE.bel hgr hE.bel.size (by omega);have HQ:=Lib.hid (And.intro hcq2 (And.intro hCB2 hBel));clear hcq hcq2 hCB hCB2 hBel hgr;rw[<-set10] at hB HQ;have k27:=(hE.here.1.2).cell 0;have k28:=(hE.here.1.2).cell 1;have k29:=(hE.here.1.2).cell 2;have k30:=(hE.here.1.2).cell 3;have k31:=(hE.here.1.2).cell 4;have k32:=(hE.here.1.2).cell 5;have k33:=(hE.here.1.2).cell 6;have k34:=(hE.here.1.2).cell 7;have k35:=(hE.here.1.2).cell 8;have x0:=(hE.here.2).cell 0;have fz0:=(hE.here.2).frozen 0;have x1:=(hE.here.2).cell 1;have fz1:=(hE.here.2).frozen 1;have x2:=(hE.here.2).cell 2;have fz2:=(hE.here.2).frozen 2;have x3:=(hE.here.2).cell 3;have fz3:=(hE.here.2).frozen 3;have x4:=(hE.here.2).cell 4;have fz4:=(hE.here.2).frozen 4;have x5:=(hE.here.2).cell 5;have fz5:=(hE.here.2).frozen 5;have x6:=(hE.here.2).cell 6;have fz6:=(hE.here.2).frozen 6;have x7:=(hE.here.2).cell 7;have fz7:=(hE.here.2).frozen 7;have x8:=(hE.here.2).cell 8;have fz8:=(hE.here.2).frozen 8;have x9:=(hE.here.2).cell 9;have fz9:=(hE.here.2).frozen 9
 obtain⟨WW,hWW⟩:∃V,V=((((((((((wc.setCell ⟨(w.heap.size+1+1),0,none⟩ (.int .i64 x.E)).setCell ⟨(w.heap.size+1+1),1,none⟩ (.int .i64 x.Y)).setCell ⟨(w.heap.size+1+1),2,none⟩ (.int .i64 x.T)).setCell ⟨(w.heap.size+1+1),3,none⟩ (.bool x.p.s)).setCell ⟨(w.heap.size+1+1),4,none⟩ (.slice x.p.A x.p.n x.p.c)).setCell ⟨(w.heap.size+1+1),5,none⟩ (.bool x.p.t)).setCell ⟨(w.heap.size+1+1),6,none⟩ (.slice x.p.B x.p.m x.p.d)).setCell ⟨(w.heap.size+1+1),7,none⟩ (.slice x.A x.n x.c)).setCell ⟨(w.heap.size+1+1),8,none⟩ (.slice x.B x.m x.d)).setCell ⟨(w.heap.size+1+1),9,none⟩ (.slice (some ⟨G,0,none⟩) N cap)):=⟨_,rfl⟩
 rw[<-hWW] at hB HQ;have HWW:=Lib.hid hWW;clear hWW;go_wp2_with fail
 clear k27 k28 k29 k30 k31 k32 k33 k34 k35;clear x0 x1 x2 x3 x4 x5 x6 x7 x8 x9;rw[<-HWW.out];have y0:=hB.cell 0;have y1:=hB.cell 1;have y2:=hB.cell 2;have y3:=hB.cell 3;have y4:=hB.cell 4;have y5:=hB.cell 5;have y6:=hB.cell 6;have y7:=hB.cell 7;have y8:=hB.cell 8;have y9:=hB.cell 9;refine bodyPost_ret (v:= .tuple #[.agg (x.Q G N cap),.int .i64 0]) (by simp[results,Tryz.results51,go_sem,y0,y1,y2,y3,y4,y5,y6,y7,y8,y9]) rfl ?_;exact⟨G,cap,h,rfl,HQ.out.2.1,HQ.out.1,HQ.out.2.2⟩
theorem vat_v {b:Bh}{x:Ct}{w:World}{of:Value}{q:Rat}(hb:b.rd w)(hbb:b.bd)(hx:x.rd w)(hxb:x.bd)(hok:x.ok b)(N:Nat)(hN:Cnt b.v (b.rt x.E x.Y) N)(h80:N<=80)(t:Nat)(ht:t<N)(hof:∃g caps,of= .func (.func g) #[] caps/\(∀args W,(callFunc g args).run Tryz.prog W= .ok (.enter g args) W)/\∀W G cap h,Below w.heap.size w W->ColB G N cap h W->ColQ h N (fun _ _=>True) (colq b.v (b.rt x.E x.Y) N) W->Calls Tryz.prog g (#[.agg (x.Q G N cap)]++caps) W (FR q W)):
  Calls Tryz.prog 60 #[.agg b.C,.agg x.C,.int .i64 (t:Int),of] w (FOK q w):=by
 obtain⟨of,caps,rfl,eof,hof⟩:=hof;have Hhb:=Lib.hid hb;clear hb;have Hhbb:=Lib.hid hbb;clear hbb;have Hhx:=Lib.hid hx;clear hx;have Hhxb:=Lib.hid hxb;clear hxb;have Hhok:=Lib.hid hok;clear hok;have HhN:=Lib.hid hN;clear hN;have Hhof:=Lib.hid hof;clear hof;have hE:=((Env.start w).blk 31 b.C (g:=w.heap.size) rfl).blk 36 x.C (g:=w.heap.size+1) (by simp);have hE:=hE.blk 29 qz4 (g:=w.heap.size+1+1) (by simp)
 obtain⟨W0,hW0⟩:∃W0,W0=(((w.alloc (.cells b.C 31)).alloc (.cells x.C 36)).alloc (.cells qz4 29)):=⟨_,rfl⟩
 rw[<-hW0] at hE;have HW0:=Lib.hid hW0;clear hW0
 go_enter Tryz.func60,Tryz.ntmps60
 go_upto_region 1 with(fail)
 rw[<-HW0.out];have t1:decide ((t:Int)<0)=false:=decide_eq_false (by omega)
 have t2:¬(t:Int)<0:=by omega
 have t3:decide ((N:Int)<=(t:Int))=false:=decide_eq_false (by omega)
 have t4:¬(N:Int)<=(t:Int):=by omega
 obtain⟨k1,k2,k3,k4,k5,k6,k7⟩:=(hE.h2).c7;have k8:=(hE.here.1.2).cell 0;have k9:=(hE.here.1.2).cell 1;have k10:=(hE.here.1.2).cell 2;have k11:=(hE.here.1.2).cell 3;have k12:=(hE.here.1.2).cell 4;have k13:=(hE.here.1.2).cell 5;have k14:=(hE.here.1.2).cell 6;have k15:=(hE.here.1.2).cell 7;have k16:=(hE.here.1.2).cell 8;go_wp2_with fail
 refine(vnew_v (Bh.rd_below Hhb.out hE.bel) Hhbb.out (Ct.rd_below Hhx.out hE.bel) Hhxb.out Hhok.out N HhN.out h80).mono ?_;clear k1 k2 k3 k4 k5 k6 k7 k8 k9 k10 k11 k12 k13 k14 k15 k16
 rintro e wc ⟨G,cap,h,rfl,hCB,hcq,hb1⟩
 replace hE:=(hE.step hb1).colp hCB;replace hE:=hE.colq hcq;clear hb1 hCB hcq
 go_upto_region 2 with(fail)
 obtain⟨g17,hg17⟩:∃g17,g17=wc.heap.size:=⟨_,rfl⟩
 have hl17_0:w.heap.size<g17:=by rw[hg17];exact(hE.h4).lt
 have hl17_1:w.heap.size+1<g17:=by rw[hg17];exact(hE.h3).lt
 have hl17_2:w.heap.size+1+1<g17:=by rw[hg17];exact(hE.h2).lt
 replace hE:=hE.blk 80 (x.Q G N cap) (g:=g17) hg17.symm;generalize wc.alloc (.cells (x.Q G N cap) 80)=W17 at hE⊢;rw[<-hg17];clear hg17;have k18:=(hE.here.2).cell 9
 go_upto_region 6 with(fail)
 clear k18;have k19:=(hE.here.2).cell 0;have k20:=(hE.here.2).cell 1;have k21:=(hE.here.2).cell 2;have k22:=(hE.here.2).cell 3;have k23:=(hE.here.2).cell 4;have k24:=(hE.here.2).cell 5;have k25:=(hE.here.2).cell 6;have k26:=(hE.here.2).cell 7;have k27:=(hE.here.2).cell 8;have k28:=(hE.here.2).cell 9;go_wp2_with fail
 refine hE.fr (Hhof.out _ G cap h hE.bel (hE.h2) (hE.here.1.2)) ?_;clear hE k19 k20 k21 k22 k23 k24 k25 k26 k27 k28;intro sq Aq nq cq tq Bq mq dq w29 hE
 have hRl:w.heap.size<=w.heap.size+1+1:=by omega
 obtain⟨WW,hWW,hB,hV,hBel⟩:=ret_frac hE hE.h4 hRl hE.here.2 cq dq;obtain⟨x0,x1,x2,x3⟩:=(hE.h4).c4;obtain⟨fz0,fz1,fz2,fz3⟩:=hE.h4.f4;have HWW:=Lib.hid hWW;clear hWW;go_wp2_with fail
 clear x0 x1 x2 x3;rw[<-HWW.out];obtain⟨y0,y1,y2,y3⟩:=hB.c4;refine bodyPost_ret (v:= .tuple #[.agg (qf4 sq Aq nq cq tq Bq mq dq),.int .i64 0]) (by simp[results,Tryz.results60,go_sem,y0,y1,y2,y3]) rfl ?_;exact⟨sq,Aq,nq,cq,tq,Bq,mq,dq,rfl,hV,hBel⟩
theorem vat_dead {b:Bh}{x:Ct}{w:World}{of:Value}(hb:b.rd w)(hbb:b.bd)(hx:x.rd w)(hxb:x.bd)(hok:x.ok b)(N:Nat)(hN:Cnt b.v (b.rt x.E x.Y) N)(h80:N<=80)(t:Nat)(ht:N<=t):
  Calls Tryz.prog 60 #[.agg b.C,.agg x.C,.int .i64 (t:Int),of] w (FErr 320 w):=by
 have Hhb:=Lib.hid hb;clear hb;have Hhbb:=Lib.hid hbb;clear hbb;have Hhx:=Lib.hid hx;clear hx;have Hhxb:=Lib.hid hxb;clear hxb;have Hhok:=Lib.hid hok;clear hok;have HhN:=Lib.hid hN;clear hN;have hE:=((Env.start w).blk 31 b.C (g:=w.heap.size) rfl).blk 36 x.C (g:=w.heap.size+1) (by simp);have hE:=hE.blk 29 qz4 (g:=w.heap.size+1+1) (by simp)
 obtain⟨W0,hW0⟩:∃W0,W0=(((w.alloc (.cells b.C 31)).alloc (.cells x.C 36)).alloc (.cells qz4 29)):=⟨_,rfl⟩
 rw[<-hW0] at hE;have HW0:=Lib.hid hW0;clear hW0
 go_enter Tryz.func60,Tryz.ntmps60
 go_upto_region 1 with(fail)
 rw[<-HW0.out];have t1:decide ((t:Int)<0)=false:=decide_eq_false (by omega)
 have t2:¬(t:Int)<0:=by omega
 have t3:decide ((N:Int)<=(t:Int))=true:=decide_eq_true (by omega)
 have t4:(N:Int)<=(t:Int):=by omega
 obtain⟨k1,k2,k3,k4,k5,k6,k7⟩:=(hE.h2).c7;have k8:=(hE.here.1.2).cell 0;have k9:=(hE.here.1.2).cell 1;have k10:=(hE.here.1.2).cell 2;have k11:=(hE.here.1.2).cell 3;have k12:=(hE.here.1.2).cell 4;have k13:=(hE.here.1.2).cell 5;have k14:=(hE.here.1.2).cell 6;have k15:=(hE.here.1.2).cell 7;have k16:=(hE.here.1.2).cell 8;go_wp2_with fail
 refine(vnew_v (Bh.rd_below Hhb.out hE.bel) Hhbb.out (Ct.rd_below Hhx.out hE.bel) Hhxb.out Hhok.out N HhN.out h80).mono ?_;clear k1 k2 k3 k4 k5 k6 k7 k8 k9 k10 k11 k12 k13 k14 k15 k16
 rintro e wc ⟨G,cap,h,rfl,hCB,hcq,hb1⟩
 replace hE:=(hE.step hb1).colp hCB;replace hE:=hE.colq hcq;clear hb1 hCB hcq
 go_upto_region 2 with(fail)
 obtain⟨g17,hg17⟩:∃g17,g17=wc.heap.size:=⟨_,rfl⟩
 have hl17_0:w.heap.size<g17:=by rw[hg17];exact(hE.h4).lt
 have hl17_1:w.heap.size+1<g17:=by rw[hg17];exact(hE.h3).lt
 have hl17_2:w.heap.size+1+1<g17:=by rw[hg17];exact(hE.h2).lt
 replace hE:=hE.blk 80 (x.Q G N cap) (g:=g17) hg17.symm;generalize wc.alloc (.cells (x.Q G N cap) 80)=W17 at hE⊢;rw[<-hg17];clear hg17;have k18:=(hE.here.2).cell 9
 have hRl:w.heap.size<=w.heap.size+1+1:=by omega
 have hB:=(hE.h3).s4 (.bool false) (.slice none 0 0) (.bool false) (.slice none 0 0);have hBel:=bel4 hE.bel hRl (.bool false) (.slice none 0 0) (.bool false) (.slice none 0 0)
 obtain⟨WW,hWW⟩:∃x,x=((((W17.setCell ⟨w.heap.size+1+1,0,none⟩ (.bool false)).setCell ⟨w.heap.size+1+1,1,none⟩ (.slice none 0 0)).setCell ⟨w.heap.size+1+1,2,none⟩ (.bool false)).setCell ⟨w.heap.size+1+1,3,none⟩ (.slice none 0 0)):=⟨_,rfl⟩
 rw[<-hWW] at hB hBel;obtain⟨x0,x1,x2,x3⟩:=(hE.h3).c4;obtain⟨fz0,fz1,fz2,fz3⟩:=(hE.h3).f4;have HWW:=Lib.hid hWW;clear hWW;go_wp2_with fail
 clear x0 x1 x2 x3;rw[<-HWW.out];obtain⟨y0,y1,y2,y3⟩:=hB.c4;refine bodyPost_ret (v:= .tuple #[.agg qz4,.int .i64 320]) (by simp[results,Tryz.results60,go_sem,y0,y1,y2,y3]) rfl ?_;exact⟨rfl,hBel⟩
end
section
open Go.RowKit

def Ct.L (x:Ct)(k:Nat):Rat:=amt x.l x.n k-pay x.T.toNat x.p.q k
def Ct.K (x:Ct):Nat->Rat:=amt x.k x.m
def Bh.val (b:Bh)(x:Ct)(N t:Nat):Rat:=va b.v (b.rt x.E x.Y) N x.L x.K t
theorem PayC.stable (p:Value)(L:Nat->Rat)(N:Nat):Stable (PayC p L N):=fun _ _ hb h=>h.below hb
theorem Env.pay {w W:World}{P:World->Prop}{p:Value}{L:Nat->Rat}{N:Nat}(hE:Env w P W)(h:PayC p L N W):Env w (fun V=>P V/\PayC p L N V) W:=hE.and (PayC.stable _ _ _) h
theorem amt_len {l:Nat->Int}{n:Nat}(h:Amts n l)(k:Nat):fl (amt l n k)<=256:=by
 have h1:=amt_pm (M:=1099511627776) (l:=l) (n:=n) (fun k hk=>h.2 k hk) k;exact Nat.le_trans (fl_wide (M:=1099511627776) (k:=3) (j:=0) (by decide) h1.2.2 h1.1 h1.2.1 (by decide) (by decide) (by decide)) (by decide)
theorem Ct.pm {x:Ct}{b:Bh}{w:World}(h:x.rd w)(ho:x.ok b):Pm (1099511627776+b16^4) x.p.q.den x.L/\Pm 1099511627776 1 x.K/\Pm (b16^4) x.p.q.den (pay x.T.toNat x.p.q):=by
 obtain⟨hv,h0,h1,h2⟩:=Ct.prem h ho
 have hp:Pm (b16^4) x.p.q.den (pay x.T.toNat x.p.q):=pay_pm h0 (by
  have e:=Rat.num_divInt_den x.p.q;rw[Rat.le_iff,Rat.num_natCast,Rat.den_natCast];have h3:0<x.p.q.den:=x.p.q.den_pos;have h4:=Rat.num_nonneg.2 h0;have h5:(b16^4:Nat)*1<=b16^4*x.p.q.den:=Nat.mul_le_mul_left _ h3;have h6:((b16^4*x.p.q.den:Nat):Int)=((b16^4:Nat):Int)*(x.p.q.den:Int):=Int.natCast_mul _ _
  omega) (Dv.self _)
 exact⟨net_pm (amt_pm (M:=1099511627776) fun k hk=>ho.2.2.2.2.1.2 k hk) hp,amt_pm (M:=1099511627776) fun k hk=>ho.2.2.2.2.2.2 k hk,hp⟩
theorem Ct.vl {x:Ct}{b:Bh}{w:World}(hb:b.rd w)(h:x.rd w)(ho:x.ok b){N:Nat}(hN:Cnt b.v (b.rt x.E x.Y) N)(h80:N<=80):VlOK b.v (b.rt x.E x.Y) x.L x.K N:=by
 obtain⟨h1,h2,-⟩:=Ct.pm h ho;exact vl_ok (Bh.dis hb ho.1) (rt_rates hb.1 ho.2.1 N) h1 h2 hN (Bh.v_i hb ho.1) h80 x.p.q.den_pos (Ct.prem h ho).2.2.2 (by decide) (by decide) (by decide) (by decide)
theorem Ct.net_len {x:Ct}{b:Bh}{w:World}(h:x.rd w)(ho:x.ok b)(k:Nat):fl (amt x.l x.n k)<=256/\fl (pay x.T.toNat x.p.q k)<=256/\fl (amt x.l x.n k-pay x.T.toNat x.p.q k)<=256:=by
 obtain⟨h1,-,h3⟩:=Ct.pm h ho;have h4:=h1 k;have h5:=h3 k;refine⟨amt_len ho.2.2.2.2.1 k,Nat.le_trans (fl_wide (k:=4) (j:=4) x.p.q.den_pos h5.2.2 h5.1 h5.2.1 (by decide) (by decide) (Ct.prem h ho).2.2.2) (by decide),Nat.le_trans (fl_wide (k:=5) (j:=4) x.p.q.den_pos h4.2.2 h4.1 h4.2.1 (by decide) (by decide) (Ct.prem h ho).2.2.2) (by decide)⟩
theorem vpros1_v {b:Bh}{x:Ct}{w:World}{G cap ga:Nat}{h:Nat->Nat->Q8}(hb:b.rd w)(hx:x.rd w)(hok:x.ok b)(N:Nat)(hN:Cnt b.v (b.rt x.E x.Y) N)(h80:N<=80)(hC:ColB G N cap h w)(hQ:ColQ h N (fun _ _=>True) (colq b.v (b.rt x.E x.Y) N) w)(t:Nat)(ht:t<N)(hat:At ga 0 (.int .i64 (t:Int)) w):
  Calls Tryz.prog 61 #[.agg (x.Q G N cap),.pointer (some ⟨ga,0,none⟩)] w (FR (b.val x N t) w):=by
 have hp0:=Ct.prem hx hok;have hl3:=Ct.net_len hx hok;have hvl:=Ct.vl hb hx hok hN h80
 have hlb:∀k,k<x.n->-9223372036854775808<=x.l k/\x.l k<=9223372036854775807:=fun k hk=>by have:=hok.2.2.2.2.1.2 k hk;omega
 have hkb:∀k,k<x.m->-9223372036854775808<=x.k k/\x.k k<=9223372036854775807:=fun k hk=>by have:=hok.2.2.2.2.2.2 k hk;omega
 obtain⟨hpf,-⟩:=hp0;have hT:=hok.2.2.1.1;have lta:=hat.1;have Hhb:=Lib.hid hb;clear hb;have Hhx:=Lib.hid hx;clear hx;have Hhok:=Lib.hid hok;clear hok;have HhN:=Lib.hid hN;clear hN;have HhC:=Lib.hid hC;clear hC;have HhQ:=Lib.hid hQ;clear hQ;have Hhl3:=Lib.hid hl3;clear hl3;have Hhvl:=Lib.hid hvl;clear hvl;have Hhlb:=Lib.hid hlb;clear hlb;have Hhkb:=Lib.hid hkb;clear hkb;have Hhpf:=Lib.hid hpf;clear hpf;have HhT:=Lib.hid hT;clear hT;have hE:=((Env.start w).at_ hat.1 hat.2).blk 80 (x.Q G N cap) (g:=w.heap.size) rfl;have hE:=hE.blk 29 qz4 (g:=w.heap.size+1) (by simp)
 obtain⟨W0,hW0⟩:∃W0,W0=((w.alloc (.cells (x.Q G N cap) 80)).alloc (.cells qz4 29)):=⟨_,rfl⟩
 rw[<-hW0] at hE;have HW0:=Lib.hid hW0;clear hW0
 go_enter Tryz.func61,Tryz.ntmps61
 go_upto_region 1 with(fail)
 rw[<-HW0.out];replace hE:=hE.drew;refine wp_region_held_drew (S:=fun V=>Blk 80 (w.heap.size) (x.Q G N cap) V/\At ga (0) (.int .i64 (t:Int)) V) (by kernel_rfl) (⟨hE.here.1.2,hE.h2⟩) (fun hHeld=> ?_)
 generalize W0.drew=wd at*
 refine tk 0 ?_ (hy:=by
  intro w hSw;have kc0:=(hSw.1).cell 0;have kc1:=(hSw.1).cell 1;have kc2:=(hSw.1).cell 2;have kc3:=(hSw.1).cell 3;have kc4:=(hSw.1).cell 4;have kc5:=(hSw.1).cell 5;have kc6:=(hSw.1).cell 6;have kc7:=(hSw.1).cell 7;have kc8:=(hSw.1).cell 8;have kc9:=(hSw.1).cell 9;clear hSw
  first|(go_simp;done)|(go_simp;with_reducible rfl))
 try simp only[PL]
 refine tk 1 ?_ (hy:=by
  intro w hSw;have kc0:=(hSw.2).2;clear hSw
  first|(go_simp;done)|(go_simp;with_reducible rfl))
 try simp only[PL]
 refine tk 2 ?_ (hy:=by
  intro w hSw;have kc0:=(hSw.1).cell 0;have kc1:=(hSw.1).cell 1;have kc2:=(hSw.1).cell 2;have kc3:=(hSw.1).cell 3;have kc4:=(hSw.1).cell 4;have kc5:=(hSw.1).cell 5;have kc6:=(hSw.1).cell 6;have kc7:=(hSw.1).cell 7;have kc8:=(hSw.1).cell 8;have kc9:=(hSw.1).cell 9;clear hSw
  first|(go_simp;done)|(go_simp;with_reducible rfl))
 try simp only[PL]
 refine tk 4 ?_;refine tk 5 ?_
 refine tk 6 ?_ (hy:=by
  intro w hSw;have kc8:=(hSw.1).cell 8;clear hSw
  first|(go_simp;done)|(go_simp;with_reducible rfl))
 try simp only[PL]
 refine r1 3 (fun K hK=> ?_);go_simp;refine(vnet_v (Hhpf.out.below hE.bel) HhT.out (RdI.below Hhx.out.2.1 hE.bel) Hhlb.out N (by omega) (fun k _=>(Hhl3.out k).1) (fun k _=>(Hhl3.out k).2.1) (fun k _=>(Hhl3.out k).2.2)).mono ?_
 rintro e w1 ⟨pn,rfl,hpn,hb1⟩
 replace hE:=(hE.step hb1).pay (show PayC pn x.L N _ from hpn);clear hb1 hpn;go_wp2_with fail
 refine hK.out _ _ (⟨hE.h2,hE.h3⟩) (fun hHeld=> ?_);clear hK K;try simp only[PL]
 refine r1 7 (fun K hK=> ?_);go_simp;refine(vlisted_v _ _ _ _).mono ?_
 rintro e _ ⟨rfl,rfl⟩
 obtain⟨g2,hg2⟩:∃g2,g2=w1.heap.size:=⟨_,rfl⟩
 have hl2_1:w.heap.size<g2:=by rw[hg2];exact(hE.h2).lt
 have hl2_2:w.heap.size+1<g2:=by rw[hg2];exact(hE.here.1.2).lt
 replace hE:=hE.blk 34 #[.slice x.B x.m x.d] (g:=g2) hg2.symm;generalize w1.alloc (.cells #[.slice x.B x.m x.d] 34)=W2 at hE⊢;rw[<-hg2];clear hg2;replace hE:=hE.pay (pay_listed (l:=x.k) (N:=N) (hE.here.2) (RdI.below Hhx.out.2.2 hE.bel) Hhkb.out (by omega));go_wp2_with fail
 refine hK.out _ _ (⟨hE.h4,hE.h5⟩) (fun hHeld=> ?_);clear hK K;try simp only[PL]
 refine r1 8 (fun K hK=> ?_);go_simp;refine hE.fr (vvalue_v (x:=x) (h:=h) (ColP.below HhC.out hE.bel) (ColQ.stable _ _ _ _ _ _ hE.bel HhQ.out) HhN.out h80 (hE.h2) (hE.here.2) Hhvl.out t ht) ?_;clear hE;intro sq Aq nq cq tq Bq mq dq w3 hE;go_wp2_with fail
 refine hK.out _ _ (⟨hE.h5,hE.h6⟩) (fun hHeld=> ?_);clear hK K;try simp only[PL]
 refine r1 9 (fun K hK=> ?_)
 have hRl:w.heap.size<=w.heap.size+1:=by omega
 obtain⟨WW,hWW,hB,hV,hBel⟩:=ret_frac hE hE.h4 hRl hE.here.2 cq dq;obtain⟨x0,x1,x2,x3⟩:=(hE.h4).c4;obtain⟨fz0,fz1,fz2,fz3⟩:=hE.h4.f4;have HWW:=Lib.hid hWW;clear hWW;go_simp;rw[<-HWW.out];refine hK.out _ _ (by rw[HWW.out];exact⟨(hE.h5).far4 (R:=w.heap.size+1) (by omega) (.bool sq) (.slice Aq nq cq) (.bool tq) (.slice Bq mq dq),(hE.h6).far4 (R:=w.heap.size+1) (by omega) (.bool sq) (.slice Aq nq cq) (.bool tq) (.slice Bq mq dq)⟩) (fun hHeld=> ?_);clear hK K;try simp only[PL]
 refine wpAnyH_done (by kernel_rfl) ?_ _;go_wp2_with fail
 obtain⟨y0,y1,y2,y3⟩:=hB.c4;refine bodyPost_ret (v:= .agg (qf4 sq Aq nq cq tq Bq mq dq)) (by simp[results,Tryz.results61,go_sem,y0,y1,y2,y3]) rfl ?_;exact⟨sq,Aq,nq,cq,tq,Bq,mq,dq,rfl,hV,hBel⟩
theorem vpros_v {b:Bh}{x:Ct}{w:World}(hb:b.rd w)(hbb:b.bd)(hx:x.rd w)(hxb:x.bd)(hok:x.ok b)(N:Nat)(hN:Cnt b.v (b.rt x.E x.Y) N)(h80:N<=80)(t:Nat)(ht:t<N):
  Calls Tryz.prog 18 #[.agg b.C,.agg x.C,.int .i64 (t:Int)] w (FOK (b.val x N t) w):=by
 have Hhb:=Lib.hid hb;clear hb;have Hhbb:=Lib.hid hbb;clear hbb;have Hhx:=Lib.hid hx;clear hx;have Hhxb:=Lib.hid hxb;clear hxb;have Hhok:=Lib.hid hok;clear hok;have HhN:=Lib.hid hN;clear hN;have hE:=(((Env.start w).blk 31 b.C (g:=w.heap.size) rfl).blk 36 x.C (g:=w.heap.size+1) (by simp)).blk 3 #[.int .i64 (t:Int)] (g:=w.heap.size+1+1) (by simp);have hE:=hE.blk 29 qz4 (g:=w.heap.size+1+1+1) (by simp)
 obtain⟨W0,hW0⟩:∃W0,W0=((((w.alloc (.cells b.C 31)).alloc (.cells x.C 36)).alloc (.cells #[.int .i64 (t:Int)] 3)).alloc (.cells qz4 29)):=⟨_,rfl⟩
 rw[<-hW0] at hE;have HW0:=Lib.hid hW0;clear hW0
 go_enter Tryz.func18,Tryz.ntmps18
 go_upto_region 1 with(fail)
 rw[<-HW0.out];obtain⟨k1,k2,k3,k4,k5,k6,k7⟩:=(hE.h3).c7;have k8:=(hE.here.1.2).c1;have k9:=(hE.h2).cell 0;have k10:=(hE.h2).cell 1;have k11:=(hE.h2).cell 2;have k12:=(hE.h2).cell 3;have k13:=(hE.h2).cell 4;have k14:=(hE.h2).cell 5;have k15:=(hE.h2).cell 6;have k16:=(hE.h2).cell 7;have k17:=(hE.h2).cell 8;go_wp2_with fail
 have hca:=At.of_blk (hE.here.1.2) 0 rfl;refine hE.fr (vat_v (q:=b.val x N t) (of:= .func (.func 61) #[] #[.pointer (some ⟨w.heap.size+1+1,0,none⟩)]) (Bh.rd_below Hhb.out hE.bel) Hhbb.out (Ct.rd_below Hhx.out hE.bel) Hhxb.out Hhok.out N HhN.out h80 t ht ⟨61,#[.pointer (some ⟨w.heap.size+1+1,0,none⟩)],rfl,enters_of Tryz.func61 (by kernel_rfl) rfl,fun W G cap h hW hC hQ=>vpros1_v (Bh.rd_below Hhb.out (hE.bel.trans (hW.mono hE.bel.size))) (Ct.rd_below Hhx.out (hE.bel.trans (hW.mono hE.bel.size))) Hhok.out N HhN.out h80 hC hQ t ht (At.stable _ _ _ _ _ hW hca)⟩) ?_;clear hE k1 k2 k3 k4 k5 k6 k7 k8 k9 k10 k11 k12 k13 k14 k15 k16 k17 hca;intro sq Aq nq cq tq Bq mq dq w9 hE
 have hRl:w.heap.size<=w.heap.size+1+1+1:=by omega
 obtain⟨WW,hWW,hB,hV,hBel⟩:=ret_frac hE hE.here.1.2 hRl hE.here.2 cq dq;obtain⟨x0,x1,x2,x3⟩:=(hE.here.1.2).c4;obtain⟨fz0,fz1,fz2,fz3⟩:=hE.here.1.2.f4;have HWW:=Lib.hid hWW;clear hWW;go_wp2_with fail
 clear x0 x1 x2 x3;rw[<-HWW.out];obtain⟨y0,y1,y2,y3⟩:=hB.c4;refine bodyPost_ret (v:= .tuple #[.agg (qf4 sq Aq nq cq tq Bq mq dq),.int .i64 0]) (by simp[results,Tryz.results18,go_sem,y0,y1,y2,y3]) rfl ?_;exact⟨sq,Aq,nq,cq,tq,Bq,mq,dq,rfl,hV,hBel⟩
theorem vpros_dead {b:Bh}{x:Ct}{w:World}(hb:b.rd w)(hbb:b.bd)(hx:x.rd w)(hxb:x.bd)(hok:x.ok b)(N:Nat)(hN:Cnt b.v (b.rt x.E x.Y) N)(h80:N<=80)(t:Nat)(ht:N<=t)(_:t<=9223372036854775807):
  Calls Tryz.prog 18 #[.agg b.C,.agg x.C,.int .i64 (t:Int)] w (FErr 320 w):=by
 have Hhb:=Lib.hid hb;clear hb;have Hhbb:=Lib.hid hbb;clear hbb;have Hhx:=Lib.hid hx;clear hx;have Hhxb:=Lib.hid hxb;clear hxb;have Hhok:=Lib.hid hok;clear hok;have HhN:=Lib.hid hN;clear hN;have hE:=(((Env.start w).blk 31 b.C (g:=w.heap.size) rfl).blk 36 x.C (g:=w.heap.size+1) (by simp)).blk 3 #[.int .i64 (t:Int)] (g:=w.heap.size+1+1) (by simp);have hE:=hE.blk 29 qz4 (g:=w.heap.size+1+1+1) (by simp)
 obtain⟨W0,hW0⟩:∃W0,W0=((((w.alloc (.cells b.C 31)).alloc (.cells x.C 36)).alloc (.cells #[.int .i64 (t:Int)] 3)).alloc (.cells qz4 29)):=⟨_,rfl⟩
 rw[<-hW0] at hE;have HW0:=Lib.hid hW0;clear hW0
 go_enter Tryz.func18,Tryz.ntmps18
 go_upto_region 1 with(fail)
 rw[<-HW0.out];obtain⟨k1,k2,k3,k4,k5,k6,k7⟩:=(hE.h3).c7;have k8:=(hE.here.1.2).c1;have k9:=(hE.h2).cell 0;have k10:=(hE.h2).cell 1;have k11:=(hE.h2).cell 2;have k12:=(hE.h2).cell 3;have k13:=(hE.h2).cell 4;have k14:=(hE.h2).cell 5;have k15:=(hE.h2).cell 6;have k16:=(hE.h2).cell 7;have k17:=(hE.h2).cell 8;go_wp2_with fail
 refine hE.br (vat_dead (Bh.rd_below Hhb.out hE.bel) Hhbb.out (Ct.rd_below Hhx.out hE.bel) Hhxb.out Hhok.out N HhN.out h80 t ht) ?_;clear hE k1 k2 k3 k4 k5 k6 k7 k8 k9 k10 k11 k12 k13 k14 k15 k16 k17;intro w18 hE
 have hRl:w.heap.size<=w.heap.size+1+1+1:=by omega
 have hB:=(hE.here.2).s4 (.bool false) (.slice none 0 0) (.bool false) (.slice none 0 0);have hBel:=bel4 hE.bel hRl (.bool false) (.slice none 0 0) (.bool false) (.slice none 0 0)
 obtain⟨WW,hWW⟩:∃x,x=((((w18.setCell ⟨w.heap.size+1+1+1,0,none⟩ (.bool false)).setCell ⟨w.heap.size+1+1+1,1,none⟩ (.slice none 0 0)).setCell ⟨w.heap.size+1+1+1,2,none⟩ (.bool false)).setCell ⟨w.heap.size+1+1+1,3,none⟩ (.slice none 0 0)):=⟨_,rfl⟩
 rw[<-hWW] at hB hBel;obtain⟨x0,x1,x2,x3⟩:=(hE.here.2).c4;obtain⟨fz0,fz1,fz2,fz3⟩:=(hE.here.2).f4;have HWW:=Lib.hid hWW;clear hWW;go_wp2_with fail
 clear x0 x1 x2 x3;rw[<-HWW.out];obtain⟨y0,y1,y2,y3⟩:=hB.c4;refine bodyPost_ret (v:= .tuple #[.agg qz4,.int .i64 320]) (by simp[results,Tryz.results18,go_sem,y0,y1,y2,y3]) rfl ?_;exact⟨rfl,hBel⟩
end
end Go.Proofs.YtclbiihcbfnjmaaGreat
