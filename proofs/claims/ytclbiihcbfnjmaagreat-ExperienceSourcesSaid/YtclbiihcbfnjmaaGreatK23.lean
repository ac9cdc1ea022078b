/-
  Parts.
-/
import Derived.Test.YtclbiihcbfnjmaaGreatP3
import Derived.Test.YtclbiihcbfnjmaaGreatPN
set_option linter.unusedSimpArgs false
set_option maxRecDepth 100000
set_option maxHeartbeats 8000000
namespace Go.Proofs.YtclbiihcbfnjmaaGreat
section
open Go.RowKit

def ap3 (b:Bh)(x:Ct)(N:Nat)(w:World)(e:Ending)(w':World):Prop:=∃G cap h,e= .returned (.tuple #[.agg (x.Q G N cap),.int .i64 0])/\gO G N cap h w'/\cK h N (fun _ _=>True) (bP b.v (b.rt x.E x.Y) N) w'/\Below w.heap.size w w'
theorem ajB (W:World)(g:Nat)(a b c d e f i j k l:Value):((((((((((W.setCell ⟨g,0,none⟩ (a)).setCell ⟨g,1,none⟩ (b)).setCell ⟨g,2,none⟩ (c)).setCell ⟨g,3,none⟩ (d)).setCell ⟨g,4,none⟩ (e)).setCell ⟨g,5,none⟩ (f)).setCell ⟨g,6,none⟩ (i)).setCell ⟨g,7,none⟩ (j)).setCell ⟨g,8,none⟩ (k)).setCell ⟨g,9,none⟩ (l))=W.setCells g 0 [a,b,c,d,e,f,i,j,k,l]:=rfl
theorem SN {b:Bh}{x:Ct}{w:World}(hb:b.rd w)(nS:b.bd)(hx:x.rd w)(jw:x.bd)(hok:x.ok b)(N:Nat)(hN:lT b.v (b.rt x.E x.Y) N)(lZ:N<=80):
  Calls Tryz.prog 51 #[.agg b.C,.agg x.C] w (ap3 b x N w):=by
 have kX:=af hb;clear hb;have iy:=af nS;clear nS;have og:=af hx;clear hx;have iI:=af jw;clear jw;have mG:=af hok;clear hok;have rV:=af hN;clear hN;have hE:=((Env.start w).blk 31 b.C (g:=w.heap.size) rfl).blk 36 x.C (g:=w.heap.size+1) (by simp);have hE:=hE.blk 80 #[.int .i64 0,.int .i64 0,.int .i64 0,.bool false,.slice none 0 0,.bool false,.slice none 0 0,.slice none 0 0,.slice none 0 0,.slice none 0 0] (g:=w.heap.size+1+1) (by simp)
 obtain⟨W0,aC⟩:∃W0,W0=(((w.alloc (.cells b.C 31)).alloc (.cells x.C 36)).alloc (.cells #[.int .i64 0,.int .i64 0,.int .i64 0,.bool false,.slice none 0 0,.bool false,.slice none 0 0,.slice none 0 0,.slice none 0 0,.slice none 0 0] 80)):=⟨_,rfl⟩
 rw[<-aC] at hE;have aZ:=af aC;clear aC
 go_enter Tryz.func51,Tryz.ntmps51
 go_upto_region 1 with(fail)
 rw[<-aZ.out];obtain⟨k1,k2,k3,k4,k5,k6,k7⟩:=(hE.h2).c7;have k8:=(hE.g1).cell 0;have k9:=(hE.g1).cell 1;have fU:=(hE.g1).cell 2;have dX:=(hE.g1).cell 3;have dY:=(hE.g1).cell 4;have eu:=(hE.g1).cell 5;have eF:=(hE.g1).cell 6;have iA:=(hE.g1).cell 7;have kz:=(hE.g1).cell 8;go_wp2_with fail
 refine hE.br (SK (Bh.aN kX.out hE.ax) iy.out (Ct.aN og.out hE.ax) iI.out mG.out) ?_;clear hE k1 k2 k3 k4 k5 k6 k7 k8 k9 fU dX dY eu eF iA kz;intro Gc hE;obtain⟨jS,kT,kB,lV,lW,nC,rP⟩:=(hE.h2).c7;have pU:=(hE.g1).cell 0;have nQ:=(hE.g1).cell 1;go_wp2_with fail
 refine(Ho (F:=b.F) (S:=b.S) (E:=x.E) (Y:=x.Y) (A:=b.A) (n:=b.n) (c:=b.c) (r:=b.r) (si:=b.i.s) (ti:=b.i.t) (Ai:=b.i.A) (Bi:=b.i.B) (ni:=b.i.n) (mi:=b.i.m) (ci:=b.i.c) (di:=b.i.d) (fi:=b.i.f) (gi:=b.i.g) (kX.out.1.below hE.ax) iy.out.1 (kA.below kX.out.2 hE.ax) iy.out.2.1 iy.out.2.2 mG.out.1 mG.out.2.1 N rV.out lZ).mono ?_;clear jS kT kB lV lW nC rP pU nQ
 rintro e wc ⟨cv,h,rfl,hcv,hcq,eD⟩
 replace hE:=hE.step eD;clear eD
 rcases hcv with⟨-,h0⟩|⟨G,cap,rfl,-,qI⟩
 ·exact absurd h0 (Nat.pos_iff_ne_zero.1 rV.out.pos)
 obtain⟨eE,hB⟩:=oo (hE.g0) [.int .i64 x.E,.int .i64 x.Y,.int .i64 x.T,.bool x.p.s,.slice x.p.A x.p.n x.p.c,.bool x.p.t,.slice x.p.B x.p.m x.p.d,.slice x.A x.n x.c,.slice x.B x.m x.d,.slice (some ⟨G,0,none⟩) N cap] rfl;have ajC:gO G N cap h _:=cW.aD qI (hE.g0) (by decide) eE;have ajD:=cK.aD hcq (hE.g0) rfl eE;have aM:=Below.aD hE.ax eE hE.ax.size (by omega);have HQ:=af (And.intro ajD (And.intro ajC aM));clear hcq ajD qI ajC aM eE;rw[<-ajB] at hB HQ;have qH:=(hE.g1).cell 0;have pM:=(hE.g1).cell 1;have Fy:=(hE.g1).cell 2;have wW:=(hE.g1).cell 3;have uG:=(hE.g1).cell 4;have tC:=(hE.g1).cell 5;have tD:=(hE.g1).cell 6;have Oo:=(hE.g1).cell 7;have Un:=(hE.g1).cell 8;have x0:=(hE.g0).cell 0;have fL:=(hE.g0).frozen 0;have x1:=(hE.g0).cell 1;have fM:=(hE.g0).frozen 1;have x2:=(hE.g0).cell 2;have fV:=(hE.g0).frozen 2;have x3:=(hE.g0).cell 3;have fW:=(hE.g0).frozen 3;have x4:=(hE.g0).cell 4;have fz4:=(hE.g0).frozen 4;have x5:=(hE.g0).cell 5;have fz5:=(hE.g0).frozen 5;have x6:=(hE.g0).cell 6;have fz6:=(hE.g0).frozen 6;have x7:=(hE.g0).cell 7;have fz7:=(hE.g0).frozen 7;have x8:=(hE.g0).cell 8;have fz8:=(hE.g0).frozen 8;have x9:=(hE.g0).cell 9;have fz9:=(hE.g0).frozen 9
 obtain⟨WW,bn⟩:∃V,V=((((((((((wc.setCell ⟨(w.heap.size+1+1),0,none⟩ (.int .i64 x.E)).setCell ⟨(w.heap.size+1+1),1,none⟩ (.int .i64 x.Y)).setCell ⟨(w.heap.size+1+1),2,none⟩ (.int .i64 x.T)).setCell ⟨(w.heap.size+1+1),3,none⟩ (.bool x.p.s)).setCell ⟨(w.heap.size+1+1),4,none⟩ (.slice x.p.A x.p.n x.p.c)).setCell ⟨(w.heap.size+1+1),5,none⟩ (.bool x.p.t)).setCell ⟨(w.heap.size+1+1),6,none⟩ (.slice x.p.B x.p.m x.p.d)).setCell ⟨(w.heap.size+1+1),7,none⟩ (.slice x.A x.n x.c)).setCell ⟨(w.heap.size+1+1),8,none⟩ (.slice x.B x.m x.d)).setCell ⟨(w.heap.size+1+1),9,none⟩ (.slice (some ⟨G,0,none⟩) N cap)):=⟨_,rfl⟩
 rw[<-bn] at hB HQ;have bR:=af bn;clear bn;go_wp2_with fail
 clear qH pM Fy wW uG tC tD Oo Un;clear x0 x1 x2 x3 x4 x5 x6 x7 x8 x9;rw[<-bR.out];have y0:=hB.cell 0;have y1:=hB.cell 1;have y2:=hB.cell 2;have y3:=hB.cell 3;have y4:=hB.cell 4;have y5:=hB.cell 5;have y6:=hB.cell 6;have y7:=hB.cell 7;have y8:=hB.cell 8;have y9:=hB.cell 9;refine aK (v:= .tuple #[.agg (x.Q G N cap),.int .i64 0]) (by simp[results,Tryz.results51,go_sem,y0,y1,y2,y3,y4,y5,y6,y7,y8,y9]) rfl ?_;exact⟨G,cap,h,rfl,HQ.out.2.1,HQ.out.1,HQ.out.2.2⟩
theorem ajE {b:Bh}{x:Ct}{w:World}{of:Value}{q:Rat}(hb:b.rd w)(nS:b.bd)(hx:x.rd w)(jw:x.bd)(hok:x.ok b)(N:Nat)(hN:lT b.v (b.rt x.E x.Y) N)(lZ:N<=80)(t:Nat)(ht:t<N)(hof:∃g caps,of= .func (.func g) #[] caps/\(∀args W,(callFunc g args).run Tryz.prog W= .ok (.enter g args) W)/\∀W G cap h,Below w.heap.size w W->gO G N cap h W->cK h N (fun _ _=>True) (bP b.v (b.rt x.E x.Y) N) W->Calls Tryz.prog g (#[.agg (x.Q G N cap)]++caps) W (FR q W)):
  Calls Tryz.prog 60 #[.agg b.C,.agg x.C,.int .i64 (t:Int),of] w (IB q w):=by
 obtain⟨of,caps,rfl,eof,hof⟩:=hof;have kX:=af hb;clear hb;have iy:=af nS;clear nS;have og:=af hx;clear hx;have iI:=af jw;clear jw;have mG:=af hok;clear hok;have rV:=af hN;clear hN;have ap4:=af hof;clear hof;have hE:=((Env.start w).blk 31 b.C (g:=w.heap.size) rfl).blk 36 x.C (g:=w.heap.size+1) (by simp);have hE:=hE.blk 29 aW (g:=w.heap.size+1+1) (by simp)
 obtain⟨W0,aC⟩:∃W0,W0=(((w.alloc (.cells b.C 31)).alloc (.cells x.C 36)).alloc (.cells aW 29)):=⟨_,rfl⟩
 rw[<-aC] at hE;have aZ:=af aC;clear aC
 go_enter Tryz.func60,Tryz.ntmps60
 go_upto_region 1 with(fail)
 rw[<-aZ.out];have t1:decide ((t:Int)<0)=false:=aH (by omega)
 have t2:¬(t:Int)<0:=by omega
 have t3:decide ((N:Int)<=(t:Int))=false:=aH (by omega)
 have t4:¬(N:Int)<=(t:Int):=by omega
 obtain⟨k1,k2,k3,k4,k5,k6,k7⟩:=(hE.h2).c7;have k8:=(hE.g1).cell 0;have k9:=(hE.g1).cell 1;have fU:=(hE.g1).cell 2;have dX:=(hE.g1).cell 3;have dY:=(hE.g1).cell 4;have eu:=(hE.g1).cell 5;have eF:=(hE.g1).cell 6;have iA:=(hE.g1).cell 7;have kz:=(hE.g1).cell 8;go_wp2_with fail
 refine(SN (Bh.aN kX.out hE.ax) iy.out (Ct.aN og.out hE.ax) iI.out mG.out N rV.out lZ).mono ?_;clear k1 k2 k3 k4 k5 k6 k7 k8 k9 fU dX dY eu eF iA kz
 rintro e wc ⟨G,cap,h,rfl,qI,hcq,eD⟩
 replace hE:=(hE.step eD).fZ qI;replace hE:=hE.bP hcq;clear eD qI hcq
 go_upto_region 2 with(fail)
 obtain⟨g17,sR⟩:∃g17,g17=wc.heap.size:=⟨_,rfl⟩
 have aei:w.heap.size<g17:=by rw[sR];exact(hE.h4).lt
 have aej:w.heap.size+1<g17:=by rw[sR];exact(hE.h3).lt
 have aek:w.heap.size+1+1<g17:=by rw[sR];exact(hE.h2).lt
 replace hE:=hE.blk 80 (x.Q G N cap) (g:=g17) sR.symm;generalize wc.alloc (.cells (x.Q G N cap) 80)=W17 at hE⊢;rw[<-sR];clear sR;have jS:=(hE.g0).cell 9
 go_upto_region 6 with(fail)
 clear jS;have kT:=(hE.g0).cell 0;have kB:=(hE.g0).cell 1;have lV:=(hE.g0).cell 2;have lW:=(hE.g0).cell 3;have nC:=(hE.g0).cell 4;have rP:=(hE.g0).cell 5;have pU:=(hE.g0).cell 6;have nQ:=(hE.g0).cell 7;have qH:=(hE.g0).cell 8;have pM:=(hE.g0).cell 9;go_wp2_with fail
 refine hE.fr (ap4.out _ G cap h hE.ax (hE.h2) (hE.g1)) ?_;clear hE kT kB lV lW nC rP pU nQ qH pM;intro sq Aq nq cq tq Bq mq dq MD hE
 have cS:w.heap.size<=w.heap.size+1+1:=by omega
 obtain⟨WW,bn,hB,hV,aM⟩:=aR hE hE.h4 cS hE.g0 cq dq;obtain⟨x0,x1,x2,x3⟩:=(hE.h4).c4;obtain⟨fL,fM,fV,fW⟩:=hE.h4.f4;have bR:=af bn;clear bn;go_wp2_with fail
 clear x0 x1 x2 x3;rw[<-bR.out];obtain⟨y0,y1,y2,y3⟩:=hB.c4;refine aK (v:= .tuple #[.agg (az sq Aq nq cq tq Bq mq dq),.int .i64 0]) (by simp[results,Tryz.results60,go_sem,y0,y1,y2,y3]) rfl ?_;exact⟨sq,Aq,nq,cq,tq,Bq,mq,dq,rfl,hV,aM⟩
theorem SP {b:Bh}{x:Ct}{w:World}{of:Value}(hb:b.rd w)(nS:b.bd)(hx:x.rd w)(jw:x.bd)(hok:x.ok b)(N:Nat)(hN:lT b.v (b.rt x.E x.Y) N)(lZ:N<=80)(t:Nat)(ht:N<=t):
  Calls Tryz.prog 60 #[.agg b.C,.agg x.C,.int .i64 (t:Int),of] w (vL 320 w):=by
 have kX:=af hb;clear hb;have iy:=af nS;clear nS;have og:=af hx;clear hx;have iI:=af jw;clear jw;have mG:=af hok;clear hok;have rV:=af hN;clear hN;have hE:=((Env.start w).blk 31 b.C (g:=w.heap.size) rfl).blk 36 x.C (g:=w.heap.size+1) (by simp);have hE:=hE.blk 29 aW (g:=w.heap.size+1+1) (by simp)
 obtain⟨W0,aC⟩:∃W0,W0=(((w.alloc (.cells b.C 31)).alloc (.cells x.C 36)).alloc (.cells aW 29)):=⟨_,rfl⟩
 rw[<-aC] at hE;have aZ:=af aC;clear aC
 go_enter Tryz.func60,Tryz.ntmps60
 go_upto_region 1 with(fail)
 rw[<-aZ.out];have t1:decide ((t:Int)<0)=false:=aH (by omega)
 have t2:¬(t:Int)<0:=by omega
 have t3:decide ((N:Int)<=(t:Int))=true:=aL (by omega)
 have t4:(N:Int)<=(t:Int):=by omega
 obtain⟨k1,k2,k3,k4,k5,k6,k7⟩:=(hE.h2).c7;have k8:=(hE.g1).cell 0;have k9:=(hE.g1).cell 1;have fU:=(hE.g1).cell 2;have dX:=(hE.g1).cell 3;have dY:=(hE.g1).cell 4;have eu:=(hE.g1).cell 5;have eF:=(hE.g1).cell 6;have iA:=(hE.g1).cell 7;have kz:=(hE.g1).cell 8;go_wp2_with fail
 refine(SN (Bh.aN kX.out hE.ax) iy.out (Ct.aN og.out hE.ax) iI.out mG.out N rV.out lZ).mono ?_;clear k1 k2 k3 k4 k5 k6 k7 k8 k9 fU dX dY eu eF iA kz
 rintro e wc ⟨G,cap,h,rfl,qI,hcq,eD⟩
 replace hE:=(hE.step eD).fZ qI;replace hE:=hE.bP hcq;clear eD qI hcq
 go_upto_region 2 with(fail)
 obtain⟨g17,sR⟩:∃g17,g17=wc.heap.size:=⟨_,rfl⟩
 have aei:w.heap.size<g17:=by rw[sR];exact(hE.h4).lt
 have aej:w.heap.size+1<g17:=by rw[sR];exact(hE.h3).lt
 have aek:w.heap.size+1+1<g17:=by rw[sR];exact(hE.h2).lt
 replace hE:=hE.blk 80 (x.Q G N cap) (g:=g17) sR.symm;generalize wc.alloc (.cells (x.Q G N cap) 80)=W17 at hE⊢;rw[<-sR];clear sR;have jS:=(hE.g0).cell 9
 have cS:w.heap.size<=w.heap.size+1+1:=by omega
 have hB:=(hE.h3).s4 (.bool false) (.slice none 0 0) (.bool false) (.slice none 0 0);have aM:=bW hE.ax cS (.bool false) (.slice none 0 0) (.bool false) (.slice none 0 0)
 obtain⟨WW,bn⟩:∃x,x=((((W17.setCell ⟨w.heap.size+1+1,0,none⟩ (.bool false)).setCell ⟨w.heap.size+1+1,1,none⟩ (.slice none 0 0)).setCell ⟨w.heap.size+1+1,2,none⟩ (.bool false)).setCell ⟨w.heap.size+1+1,3,none⟩ (.slice none 0 0)):=⟨_,rfl⟩
 rw[<-bn] at hB aM;obtain⟨x0,x1,x2,x3⟩:=(hE.h3).c4;obtain⟨fL,fM,fV,fW⟩:=(hE.h3).f4;have bR:=af bn;clear bn;go_wp2_with fail
 clear x0 x1 x2 x3;rw[<-bR.out];obtain⟨y0,y1,y2,y3⟩:=hB.c4;refine aK (v:= .tuple #[.agg aW,.int .i64 320]) (by simp[results,Tryz.results60,go_sem,y0,y1,y2,y3]) rfl ?_;exact⟨rfl,aM⟩
end
section
open Go.RowKit

def Ct.L (x:Ct)(k:Nat):Rat:=lY x.l x.n k-pH x.T.toNat x.p.q k
def Ct.K (x:Ct):Nat->Rat:=lY x.k x.m
def Bh.val (b:Bh)(x:Ct)(N t:Nat):Rat:=va b.v (b.rt x.E x.Y) N x.L x.K t
theorem kS.stable (p:Value)(L:Nat->Rat)(N:Nat):ck (kS p L N):=fun _ _ hb h=>h.below hb
theorem Env.pH {w W:World}{P:World->Prop}{p:Value}{L:Nat->Rat}{N:Nat}(hE:Env w P W)(h:kS p L N W):Env w (fun V=>P V/\kS p L N V) W:=hE.and (kS.stable _ _ _) h
theorem Yl {l:Nat->Int}{n:Nat}(h:DS n l)(k:Nat):fl (lY l n k)<=256:=by
 have h1:=Hj (M:=1099511627776) (l:=l) (n:=n) (fun k hk=>h.2 k hk) k;exact ay (jR (M:=1099511627776) (k:=3) (j:=0) (by decide) h1.2.2 h1.1 h1.2.1 (by decide) (by decide) (by decide)) (by decide)
theorem Ct.pm {x:Ct}{b:Bh}{w:World}(h:x.rd w)(ho:x.ok b):Pm (1099511627776+ai^4) x.p.q.den x.L/\Pm 1099511627776 1 x.K/\Pm (ai^4) x.p.q.den (pH x.T.toNat x.p.q):=by
 obtain⟨hv,h0,h1,h2⟩:=Ct.Ge h ho
 have hp:Pm (ai^4) x.p.q.den (pH x.T.toNat x.p.q):=ad2 h0 (by
  have e:=Rat.num_divInt_den x.p.q;rw[Rat.le_iff,Rat.num_natCast,Rat.den_natCast];have h3:0<x.p.q.den:=x.p.q.den_pos;have h4:=mN.2 h0;have h5:(ai^4:Nat)*1<=ai^4*x.p.q.den:=cT _ h3;have h6:((ai^4*x.p.q.den:Nat):Int)=((ai^4:Nat):Int)*(x.p.q.den:Int):=cM _ _
  omega) (Dv.self _)
 exact⟨ad3 (Hj (M:=1099511627776) fun k hk=>ho.2.2.2.2.1.2 k hk) hp,Hj (M:=1099511627776) fun k hk=>ho.2.2.2.2.2.2 k hk,hp⟩
theorem Ct.vl {x:Ct}{b:Bh}{w:World}(hb:b.rd w)(h:x.rd w)(ho:x.ok b){N:Nat}(hN:lT b.v (b.rt x.E x.Y) N)(lZ:N<=80):ad5 b.v (b.rt x.E x.Y) x.L x.K N:=by
 obtain⟨h1,h2,-⟩:=Ct.pm h ho;exact ajk (Bh.MK hb ho.1) (iB hb.1 ho.2.1 N) h1 h2 hN (Bh.v_i hb ho.1) lZ x.p.q.den_pos (Ct.Ge h ho).2.2.2 (by decide) (by decide) (by decide) (by decide)
theorem Ct.Ym {x:Ct}{b:Bh}{w:World}(h:x.rd w)(ho:x.ok b)(k:Nat):fl (lY x.l x.n k)<=256/\fl (pH x.T.toNat x.p.q k)<=256/\fl (lY x.l x.n k-pH x.T.toNat x.p.q k)<=256:=by
 obtain⟨h1,-,h3⟩:=Ct.pm h ho;have h4:=h1 k;have h5:=h3 k;refine⟨Yl ho.2.2.2.2.1 k,ay (jR (k:=4) (j:=4) x.p.q.den_pos h5.2.2 h5.1 h5.2.1 (by decide) (by decide) (Ct.Ge h ho).2.2.2) (by decide),ay (jR (k:=5) (j:=4) x.p.q.den_pos h4.2.2 h4.1 h4.2.1 (by decide) (by decide) (Ct.Ge h ho).2.2.2) (by decide)⟩
theorem SQ {b:Bh}{x:Ct}{w:World}{G cap ga:Nat}{h:Nat->Nat->Q8}(hb:b.rd w)(hx:x.rd w)(hok:x.ok b)(N:Nat)(hN:lT b.v (b.rt x.E x.Y) N)(lZ:N<=80)(hC:gO G N cap h w)(hQ:cK h N (fun _ _=>True) (bP b.v (b.rt x.E x.Y) N) w)(t:Nat)(ht:t<N)(hat:At ga 0 (.int .i64 (t:Int)) w):
  Calls Tryz.prog 61 #[.agg (x.Q G N cap),.pointer (some ⟨ga,0,none⟩)] w (FR (b.val x N t) w):=by
 have hp0:=Ct.Ge hx hok;have hl3:=Ct.Ym hx hok;have hvl:=Ct.vl hb hx hok hN lZ
 have hlb:∀k,k<x.n->-9223372036854775808<=x.l k/\x.l k<=9223372036854775807:=fun k hk=>by have:=hok.2.2.2.2.1.2 k hk;omega
 have hkb:∀k,k<x.m->-9223372036854775808<=x.k k/\x.k k<=9223372036854775807:=fun k hk=>by have:=hok.2.2.2.2.2.2 k hk;omega
 obtain⟨hpf,-⟩:=hp0;have hT:=hok.2.2.1.1;have lta:=hat.1;have kX:=af hb;clear hb;have og:=af hx;clear hx;have mG:=af hok;clear hok;have rV:=af hN;clear hN;have Kf:=af hC;clear hC;have HhQ:=af hQ;clear hQ;have ael:=af hl3;clear hl3;have Uc:=af hvl;clear hvl;have ap5:=af hlb;clear hlb;have ap6:=af hkb;clear hkb;have ap7:=af hpf;clear hpf;have Co:=af hT;clear hT;have hE:=((Env.start w).at_ hat.1 hat.2).blk 80 (x.Q G N cap) (g:=w.heap.size) rfl;have hE:=hE.blk 29 aW (g:=w.heap.size+1) (by simp)
 obtain⟨W0,aC⟩:∃W0,W0=((w.alloc (.cells (x.Q G N cap) 80)).alloc (.cells aW 29)):=⟨_,rfl⟩
 rw[<-aC] at hE;have aZ:=af aC;clear aC
 go_enter Tryz.func61,Tryz.ntmps61
 go_upto_region 1 with(fail)
 rw[<-aZ.out];replace hE:=hE.drew;refine bH (S:=fun V=>au 80 (w.heap.size) (x.Q G N cap) V/\At ga (0) (.int .i64 (t:Int)) V) (by kernel_rfl) (⟨hE.g1,hE.h2⟩) (fun hHeld=> ?_)
 generalize W0.drew=wd at*
 refine tk 0 ?_ (hy:=by
  intro w aG;have nR:=(aG.1).cell 0;have qL:=(aG.1).cell 1;have rS:=(aG.1).cell 2;have qR:=(aG.1).cell 3;have Zi:=(aG.1).cell 4;have Zj:=(aG.1).cell 5;have Zk:=(aG.1).cell 6;have kc7:=(aG.1).cell 7;have kc8:=(aG.1).cell 8;have kc9:=(aG.1).cell 9;clear aG
  first|(go_simp;done)|(go_simp;with_reducible rfl))
 try simp only[PL]
 refine tk 1 ?_ (hy:=by
  intro w aG;have nR:=(aG.2).2;clear aG
  first|(go_simp;done)|(go_simp;with_reducible rfl))
 try simp only[PL]
 refine tk 2 ?_ (hy:=by
  intro w aG;have nR:=(aG.1).cell 0;have qL:=(aG.1).cell 1;have rS:=(aG.1).cell 2;have qR:=(aG.1).cell 3;have Zi:=(aG.1).cell 4;have Zj:=(aG.1).cell 5;have Zk:=(aG.1).cell 6;have kc7:=(aG.1).cell 7;have kc8:=(aG.1).cell 8;have kc9:=(aG.1).cell 9;clear aG
  first|(go_simp;done)|(go_simp;with_reducible rfl))
 try simp only[PL]
 refine tk 4 ?_;refine tk 5 ?_
 refine tk 6 ?_ (hy:=by
  intro w aG;have kc8:=(aG.1).cell 8;clear aG
  first|(go_simp;done)|(go_simp;with_reducible rfl))
 try simp only[PL]
 refine r1 3 (fun K hK=> ?_);go_simp;refine(aem (ap7.out.below hE.ax) Co.out (rR.below og.out.2.1 hE.ax) ap5.out N (by omega) (fun k _=>(ael.out k).1) (fun k _=>(ael.out k).2.1) (fun k _=>(ael.out k).2.2)).mono ?_
 rintro e w1 ⟨pn,rfl,hpn,eD⟩
 replace hE:=(hE.step eD).pH (show kS pn x.L N _ from hpn);clear eD hpn;go_wp2_with fail
 refine hK.out _ _ (⟨hE.h2,hE.h3⟩) (fun hHeld=> ?_);clear hK K;try simp only[PL]
 refine r1 7 (fun K hK=> ?_);go_simp;refine(lO _ _ _ _).mono ?_
 rintro e _ ⟨rfl,rfl⟩
 obtain⟨g2,zX⟩:∃g2,g2=w1.heap.size:=⟨_,rfl⟩
 have ZJ:w.heap.size<g2:=by rw[zX];exact(hE.h2).lt
 have aq7:w.heap.size+1<g2:=by rw[zX];exact(hE.g1).lt
 replace hE:=hE.blk 34 #[.slice x.B x.m x.d] (g:=g2) zX.symm;generalize w1.alloc (.cells #[.slice x.B x.m x.d] 34)=W2 at hE⊢;rw[<-zX];clear zX;replace hE:=hE.pH (wL (l:=x.k) (N:=N) (hE.g0) (rR.below og.out.2.2 hE.ax) ap6.out (by omega));go_wp2_with fail
 refine hK.out _ _ (⟨hE.h4,hE.h5⟩) (fun hHeld=> ?_);clear hK K;try simp only[PL]
 refine r1 8 (fun K hK=> ?_);go_simp;refine hE.fr (SR (x:=x) (h:=h) (cW.below Kf.out hE.ax) (cK.stable _ _ _ _ _ _ hE.ax HhQ.out) rV.out lZ (hE.h2) (hE.g0) Uc.out t ht) ?_;clear hE;intro sq Aq nq cq tq Bq mq dq w3 hE;go_wp2_with fail
 refine hK.out _ _ (⟨hE.h5,hE.h6⟩) (fun hHeld=> ?_);clear hK K;try simp only[PL]
 refine r1 9 (fun K hK=> ?_)
 have cS:w.heap.size<=w.heap.size+1:=by omega
 obtain⟨WW,bn,hB,hV,aM⟩:=aR hE hE.h4 cS hE.g0 cq dq;obtain⟨x0,x1,x2,x3⟩:=(hE.h4).c4;obtain⟨fL,fM,fV,fW⟩:=hE.h4.f4;have bR:=af bn;clear bn;go_simp;rw[<-bR.out];refine hK.out _ _ (by rw[bR.out];exact⟨(hE.h5).aj (R:=w.heap.size+1) (by omega) (.bool sq) (.slice Aq nq cq) (.bool tq) (.slice Bq mq dq),(hE.h6).aj (R:=w.heap.size+1) (by omega) (.bool sq) (.slice Aq nq cq) (.bool tq) (.slice Bq mq dq)⟩) (fun hHeld=> ?_);clear hK K;try simp only[PL]
 refine aX (by kernel_rfl) ?_ _;go_wp2_with fail
 obtain⟨y0,y1,y2,y3⟩:=hB.c4;refine aK (v:= .agg (az sq Aq nq cq tq Bq mq dq)) (by simp[results,Tryz.results61,go_sem,y0,y1,y2,y3]) rfl ?_;exact⟨sq,Aq,nq,cq,tq,Bq,mq,dq,rfl,hV,aM⟩
theorem IA {b:Bh}{x:Ct}{w:World}(hb:b.rd w)(nS:b.bd)(hx:x.rd w)(jw:x.bd)(hok:x.ok b)(N:Nat)(hN:lT b.v (b.rt x.E x.Y) N)(lZ:N<=80)(t:Nat)(ht:t<N):
  Calls Tryz.prog 18 #[.agg b.C,.agg x.C,.int .i64 (t:Int)] w (IB (b.val x N t) w):=by
 have kX:=af hb;clear hb;have iy:=af nS;clear nS;have og:=af hx;clear hx;have iI:=af jw;clear jw;have mG:=af hok;clear hok;have rV:=af hN;clear hN;have hE:=(((Env.start w).blk 31 b.C (g:=w.heap.size) rfl).blk 36 x.C (g:=w.heap.size+1) (by simp)).blk 3 #[.int .i64 (t:Int)] (g:=w.heap.size+1+1) (by simp);have hE:=hE.blk 29 aW (g:=w.heap.size+1+1+1) (by simp)
 obtain⟨W0,aC⟩:∃W0,W0=((((w.alloc (.cells b.C 31)).alloc (.cells x.C 36)).alloc (.cells #[.int .i64 (t:Int)] 3)).alloc (.cells aW 29)):=⟨_,rfl⟩
 rw[<-aC] at hE;have aZ:=af aC;clear aC
 go_enter Tryz.func18,Tryz.ntmps18
 go_upto_region 1 with(fail)
 rw[<-aZ.out];obtain⟨k1,k2,k3,k4,k5,k6,k7⟩:=(hE.h3).c7;have k8:=(hE.g1).c1;have k9:=(hE.h2).cell 0;have fU:=(hE.h2).cell 1;have dX:=(hE.h2).cell 2;have dY:=(hE.h2).cell 3;have eu:=(hE.h2).cell 4;have eF:=(hE.h2).cell 5;have iA:=(hE.h2).cell 6;have kz:=(hE.h2).cell 7;have lU:=(hE.h2).cell 8;go_wp2_with fail
 have hca:=At.iN (hE.g1) 0 rfl;refine hE.fr (ajE (q:=b.val x N t) (of:= .func (.func 61) #[] #[.pointer (some ⟨w.heap.size+1+1,0,none⟩)]) (Bh.aN kX.out hE.ax) iy.out (Ct.aN og.out hE.ax) iI.out mG.out N rV.out lZ t ht ⟨61,#[.pointer (some ⟨w.heap.size+1+1,0,none⟩)],rfl,enters_of Tryz.func61 (by kernel_rfl) rfl,fun W G cap h hW hC hQ=>SQ (Bh.aN kX.out (hE.ax.trans (hW.mono hE.ax.size))) (Ct.aN og.out (hE.ax.trans (hW.mono hE.ax.size))) mG.out N rV.out lZ hC hQ t ht (At.stable _ _ _ _ _ hW hca)⟩) ?_;clear hE k1 k2 k3 k4 k5 k6 k7 k8 k9 fU dX dY eu eF iA kz lU hca;intro sq Aq nq cq tq Bq mq dq w9 hE
 have cS:w.heap.size<=w.heap.size+1+1+1:=by omega
 obtain⟨WW,bn,hB,hV,aM⟩:=aR hE hE.g1 cS hE.g0 cq dq;obtain⟨x0,x1,x2,x3⟩:=(hE.g1).c4;obtain⟨fL,fM,fV,fW⟩:=hE.g1.f4;have bR:=af bn;clear bn;go_wp2_with fail
 clear x0 x1 x2 x3;rw[<-bR.out];obtain⟨y0,y1,y2,y3⟩:=hB.c4;refine aK (v:= .tuple #[.agg (az sq Aq nq cq tq Bq mq dq),.int .i64 0]) (by simp[results,Tryz.results18,go_sem,y0,y1,y2,y3]) rfl ?_;exact⟨sq,Aq,nq,cq,tq,Bq,mq,dq,rfl,hV,aM⟩
theorem vn {b:Bh}{x:Ct}{w:World}(hb:b.rd w)(nS:b.bd)(hx:x.rd w)(jw:x.bd)(hok:x.ok b)(N:Nat)(hN:lT b.v (b.rt x.E x.Y) N)(lZ:N<=80)(t:Nat)(ht:N<=t)(_:t<=9223372036854775807):
  Calls Tryz.prog 18 #[.agg b.C,.agg x.C,.int .i64 (t:Int)] w (vL 320 w):=by
 have kX:=af hb;clear hb;have iy:=af nS;clear nS;have og:=af hx;clear hx;have iI:=af jw;clear jw;have mG:=af hok;clear hok;have rV:=af hN;clear hN;have hE:=(((Env.start w).blk 31 b.C (g:=w.heap.size) rfl).blk 36 x.C (g:=w.heap.size+1) (by simp)).blk 3 #[.int .i64 (t:Int)] (g:=w.heap.size+1+1) (by simp);have hE:=hE.blk 29 aW (g:=w.heap.size+1+1+1) (by simp)
 obtain⟨W0,aC⟩:∃W0,W0=((((w.alloc (.cells b.C 31)).alloc (.cells x.C 36)).alloc (.cells #[.int .i64 (t:Int)] 3)).alloc (.cells aW 29)):=⟨_,rfl⟩
 rw[<-aC] at hE;have aZ:=af aC;clear aC
 go_enter Tryz.func18,Tryz.ntmps18
 go_upto_region 1 with(fail)
 rw[<-aZ.out];obtain⟨k1,k2,k3,k4,k5,k6,k7⟩:=(hE.h3).c7;have k8:=(hE.g1).c1;have k9:=(hE.h2).cell 0;have fU:=(hE.h2).cell 1;have dX:=(hE.h2).cell 2;have dY:=(hE.h2).cell 3;have eu:=(hE.h2).cell 4;have eF:=(hE.h2).cell 5;have iA:=(hE.h2).cell 6;have kz:=(hE.h2).cell 7;have lU:=(hE.h2).cell 8;go_wp2_with fail
 refine hE.br (SP (Bh.aN kX.out hE.ax) iy.out (Ct.aN og.out hE.ax) iI.out mG.out N rV.out lZ t ht) ?_;clear hE k1 k2 k3 k4 k5 k6 k7 k8 k9 fU dX dY eu eF iA kz lU;intro TL hE
 have cS:w.heap.size<=w.heap.size+1+1+1:=by omega
 have hB:=(hE.g0).s4 (.bool false) (.slice none 0 0) (.bool false) (.slice none 0 0);have aM:=bW hE.ax cS (.bool false) (.slice none 0 0) (.bool false) (.slice none 0 0)
 obtain⟨WW,bn⟩:∃x,x=((((TL.setCell ⟨w.heap.size+1+1+1,0,none⟩ (.bool false)).setCell ⟨w.heap.size+1+1+1,1,none⟩ (.slice none 0 0)).setCell ⟨w.heap.size+1+1+1,2,none⟩ (.bool false)).setCell ⟨w.heap.size+1+1+1,3,none⟩ (.slice none 0 0)):=⟨_,rfl⟩
 rw[<-bn] at hB aM;obtain⟨x0,x1,x2,x3⟩:=(hE.g0).c4;obtain⟨fL,fM,fV,fW⟩:=(hE.g0).f4;have bR:=af bn;clear bn;go_wp2_with fail
 clear x0 x1 x2 x3;rw[<-bR.out];obtain⟨y0,y1,y2,y3⟩:=hB.c4;refine aK (v:= .tuple #[.agg aW,.int .i64 320]) (by simp[results,Tryz.results18,go_sem,y0,y1,y2,y3]) rfl ?_;exact⟨rfl,aM⟩
end
end Go.Proofs.YtclbiihcbfnjmaaGreat
