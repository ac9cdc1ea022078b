/-
  Parts.
-/
import Derived.Test.YtclbiihcbfnjmaaGreatP3
import Derived.Test.YtclbiihcbfnjmaaGreatPN
set_option linter.unusedSimpArgs false
set_option maxRecDepth 100000
set_option maxHeartbeats 8000000
namespace Go.Proofs.YtclbiihcbfnjmaaGreat
section
open Go.RowKit

def an7 (b:Bh)(x:Ct)(N:Nat)(w:World)(e:Ending)(w':World):Prop:=∃G cap h,e= .returned (.tuple #[.agg (x.Q G N cap),.int .i64 0])/\fE G N cap h w'/\bH h N (fun _ _=>True) (bu b.v (b.rt x.E x.Y) N) w'/\Below w.heap.size w w'
theorem ahl (W:World)(g:Nat)(a b c d e f i j k l:Value):((((((((((W.setCell ⟨g,0,none⟩ (a)).setCell ⟨g,1,none⟩ (b)).setCell ⟨g,2,none⟩ (c)).setCell ⟨g,3,none⟩ (d)).setCell ⟨g,4,none⟩ (e)).setCell ⟨g,5,none⟩ (f)).setCell ⟨g,6,none⟩ (i)).setCell ⟨g,7,none⟩ (j)).setCell ⟨g,8,none⟩ (k)).setCell ⟨g,9,none⟩ (l))=W.setCells g 0 [a,b,c,d,e,f,i,j,k,l]:=rfl
theorem PT {b:Bh}{x:Ct}{w:World}(hb:b.rd w)(lS:b.bd)(hx:x.rd w)(iB:x.bd)(hok:x.ok b)(N:Nat)(hN:kH b.v (b.rt x.E x.Y) N)(kM:N<=80):
  Calls Tryz.prog 51 #[.agg b.C,.agg x.C] w (an7 b x N w):=by
 have jG:=Lib.hid hb;clear hb;have fS:=Lib.hid lS;clear lS;have mB:=Lib.hid hx;clear hx;have fZ:=Lib.hid iB;clear iB;have kQ:=Lib.hid hok;clear hok;have p6:=Lib.hid hN;clear hN;have hE:=((Env.start w).blk 31 b.C (g:=w.heap.size) rfl).blk 36 x.C (g:=w.heap.size+1) (by simp);have hE:=hE.blk 80 #[.int .i64 0,.int .i64 0,.int .i64 0,.bool false,.slice none 0 0,.bool false,.slice none 0 0,.slice none 0 0,.slice none 0 0,.slice none 0 0] (g:=w.heap.size+1+1) (by simp)
 obtain⟨W0,aC⟩:∃W0,W0=(((w.alloc (.cells b.C 31)).alloc (.cells x.C 36)).alloc (.cells #[.int .i64 0,.int .i64 0,.int .i64 0,.bool false,.slice none 0 0,.bool false,.slice none 0 0,.slice none 0 0,.slice none 0 0,.slice none 0 0] 80)):=⟨_,rfl⟩
 rw[<-aC] at hE;have aU:=Lib.hid aC;clear aC
 go_enter Tryz.func51,Tryz.ntmps51
 go_upto_region 1 with(fail)
 rw[<-aU.out];obtain⟨k1,k2,k3,k4,k5,k6,k7⟩:=(hE.h2).c7;have k8:=(hE.here.1.2).cell 0;have k9:=(hE.here.1.2).cell 1;have eG:=(hE.here.1.2).cell 2;have cS:=(hE.here.1.2).cell 3;have cZ:=(hE.here.1.2).cell 4;have dG:=(hE.here.1.2).cell 5;have dN:=(hE.here.1.2).cell 6;have fP:=(hE.here.1.2).cell 7;have lC:=(hE.here.1.2).cell 8;go_wp2_with fail
 refine hE.br (PO (Bh.aA jG.out hE.av) fS.out (Ct.aA mB.out hE.av) fZ.out kQ.out) ?_;clear hE k1 k2 k3 k4 k5 k6 k7 k8 k9 eG cS cZ dG dN fP lC;intro Mc hE;obtain⟨jx,lO,kI,og,mQ,oh,oU⟩:=(hE.h2).c7;have mS:=(hE.here.1.2).cell 0;have lW:=(hE.here.1.2).cell 1;go_wp2_with fail
 refine(Fu (F:=b.F) (S:=b.S) (E:=x.E) (Y:=x.Y) (A:=b.A) (n:=b.n) (c:=b.c) (r:=b.r) (si:=b.i.s) (ti:=b.i.t) (Ai:=b.i.A) (Bi:=b.i.B) (ni:=b.i.n) (mi:=b.i.m) (ci:=b.i.c) (di:=b.i.d) (fi:=b.i.f) (gi:=b.i.g) (jG.out.1.below hE.av) fS.out.1 (oT.below jG.out.2 hE.av) fS.out.2.1 fS.out.2.2 kQ.out.1 kQ.out.2.1 N p6.out kM).mono ?_;clear jx lO kI og mQ oh oU mS lW
 rintro e wc ⟨cv,h,rfl,hcv,Xo,dI⟩
 replace hE:=hE.step dI;clear dI
 rcases hcv with⟨-,h0⟩|⟨G,cap,rfl,-,oP⟩
 ·exact absurd h0 (Nat.pos_iff_ne_zero.1 p6.out.pos)
 obtain⟨cX,hB⟩:=jt (hE.here.2) [.int .i64 x.E,.int .i64 x.Y,.int .i64 x.T,.bool x.p.s,.slice x.p.A x.p.n x.p.c,.bool x.p.t,.slice x.p.B x.p.m x.p.d,.slice x.A x.n x.c,.slice x.B x.m x.d,.slice (some ⟨G,0,none⟩) N cap] rfl;have ahm:fE G N cap h _:=bR.ax oP (hE.here.2) (by decide) cX;have ahn:=bH.ax Xo (hE.here.2) rfl cX;have aQ:=Below.ax hE.av cX hE.av.size (by omega);have HQ:=Lib.hid (And.intro ahn (And.intro ahm aQ));clear Xo ahn oP ahm aQ cX;rw[<-ahl] at hB HQ;have oV:=(hE.here.1.2).cell 0;have om:=(hE.here.1.2).cell 1;have FP:=(hE.here.1.2).cell 2;have zL:=(hE.here.1.2).cell 3;have zM:=(hE.here.1.2).cell 4;have FQ:=(hE.here.1.2).cell 5;have vH:=(hE.here.1.2).cell 6;have Md:=(hE.here.1.2).cell 7;have Rq:=(hE.here.1.2).cell 8;have x0:=(hE.here.2).cell 0;have fQ:=(hE.here.2).frozen 0;have x1:=(hE.here.2).cell 1;have fR:=(hE.here.2).frozen 1;have x2:=(hE.here.2).cell 2;have gJ:=(hE.here.2).frozen 2;have x3:=(hE.here.2).cell 3;have gK:=(hE.here.2).frozen 3;have x4:=(hE.here.2).cell 4;have fz4:=(hE.here.2).frozen 4;have x5:=(hE.here.2).cell 5;have fz5:=(hE.here.2).frozen 5;have x6:=(hE.here.2).cell 6;have fz6:=(hE.here.2).frozen 6;have x7:=(hE.here.2).cell 7;have fz7:=(hE.here.2).frozen 7;have x8:=(hE.here.2).cell 8;have fz8:=(hE.here.2).frozen 8;have x9:=(hE.here.2).cell 9;have fz9:=(hE.here.2).frozen 9
 obtain⟨WW,bn⟩:∃V,V=((((((((((wc.setCell ⟨(w.heap.size+1+1),0,none⟩ (.int .i64 x.E)).setCell ⟨(w.heap.size+1+1),1,none⟩ (.int .i64 x.Y)).setCell ⟨(w.heap.size+1+1),2,none⟩ (.int .i64 x.T)).setCell ⟨(w.heap.size+1+1),3,none⟩ (.bool x.p.s)).setCell ⟨(w.heap.size+1+1),4,none⟩ (.slice x.p.A x.p.n x.p.c)).setCell ⟨(w.heap.size+1+1),5,none⟩ (.bool x.p.t)).setCell ⟨(w.heap.size+1+1),6,none⟩ (.slice x.p.B x.p.m x.p.d)).setCell ⟨(w.heap.size+1+1),7,none⟩ (.slice x.A x.n x.c)).setCell ⟨(w.heap.size+1+1),8,none⟩ (.slice x.B x.m x.d)).setCell ⟨(w.heap.size+1+1),9,none⟩ (.slice (some ⟨G,0,none⟩) N cap)):=⟨_,rfl⟩
 rw[<-bn] at hB HQ;have bJ:=Lib.hid bn;clear bn;go_wp2_with fail
 clear oV om FP zL zM FQ vH Md Rq;clear x0 x1 x2 x3 x4 x5 x6 x7 x8 x9;rw[<-bJ.out];have y0:=hB.cell 0;have y1:=hB.cell 1;have y2:=hB.cell 2;have y3:=hB.cell 3;have y4:=hB.cell 4;have y5:=hB.cell 5;have y6:=hB.cell 6;have y7:=hB.cell 7;have y8:=hB.cell 8;have y9:=hB.cell 9;refine bodyPost_ret (v:= .tuple #[.agg (x.Q G N cap),.int .i64 0]) (by simp[results,Tryz.results51,go_sem,y0,y1,y2,y3,y4,y5,y6,y7,y8,y9]) rfl ?_;exact⟨G,cap,h,rfl,HQ.out.2.1,HQ.out.1,HQ.out.2.2⟩
theorem aho {b:Bh}{x:Ct}{w:World}{of:Value}{q:Rat}(hb:b.rd w)(lS:b.bd)(hx:x.rd w)(iB:x.bd)(hok:x.ok b)(N:Nat)(hN:kH b.v (b.rt x.E x.Y) N)(kM:N<=80)(t:Nat)(ht:t<N)(hof:∃g caps,of= .func (.func g) #[] caps/\(∀args W,(callFunc g args).run Tryz.prog W= .ok (.enter g args) W)/\∀W G cap h,Below w.heap.size w W->fE G N cap h W->bH h N (fun _ _=>True) (bu b.v (b.rt x.E x.Y) N) W->Calls Tryz.prog g (#[.agg (x.Q G N cap)]++caps) W (FR q W)):
  Calls Tryz.prog 60 #[.agg b.C,.agg x.C,.int .i64 (t:Int),of] w (Kt q w):=by
 obtain⟨of,caps,rfl,eof,hof⟩:=hof;have jG:=Lib.hid hb;clear hb;have fS:=Lib.hid lS;clear lS;have mB:=Lib.hid hx;clear hx;have fZ:=Lib.hid iB;clear iB;have kQ:=Lib.hid hok;clear hok;have p6:=Lib.hid hN;clear hN;have an8:=Lib.hid hof;clear hof;have hE:=((Env.start w).blk 31 b.C (g:=w.heap.size) rfl).blk 36 x.C (g:=w.heap.size+1) (by simp);have hE:=hE.blk 29 aY (g:=w.heap.size+1+1) (by simp)
 obtain⟨W0,aC⟩:∃W0,W0=(((w.alloc (.cells b.C 31)).alloc (.cells x.C 36)).alloc (.cells aY 29)):=⟨_,rfl⟩
 rw[<-aC] at hE;have aU:=Lib.hid aC;clear aC
 go_enter Tryz.func60,Tryz.ntmps60
 go_upto_region 1 with(fail)
 rw[<-aU.out];have t1:decide ((t:Int)<0)=false:=decide_eq_false (by omega)
 have t2:¬(t:Int)<0:=by omega
 have t3:decide ((N:Int)<=(t:Int))=false:=decide_eq_false (by omega)
 have t4:¬(N:Int)<=(t:Int):=by omega
 obtain⟨k1,k2,k3,k4,k5,k6,k7⟩:=(hE.h2).c7;have k8:=(hE.here.1.2).cell 0;have k9:=(hE.here.1.2).cell 1;have eG:=(hE.here.1.2).cell 2;have cS:=(hE.here.1.2).cell 3;have cZ:=(hE.here.1.2).cell 4;have dG:=(hE.here.1.2).cell 5;have dN:=(hE.here.1.2).cell 6;have fP:=(hE.here.1.2).cell 7;have lC:=(hE.here.1.2).cell 8;go_wp2_with fail
 refine(PT (Bh.aA jG.out hE.av) fS.out (Ct.aA mB.out hE.av) fZ.out kQ.out N p6.out kM).mono ?_;clear k1 k2 k3 k4 k5 k6 k7 k8 k9 eG cS cZ dG dN fP lC
 rintro e wc ⟨G,cap,h,rfl,oP,Xo,dI⟩
 replace hE:=(hE.step dI).eW oP;replace hE:=hE.bu Xo;clear dI oP Xo
 go_upto_region 2 with(fail)
 obtain⟨g17,qP⟩:∃g17,g17=wc.heap.size:=⟨_,rfl⟩
 have abp:w.heap.size<g17:=by rw[qP];exact(hE.h4).lt
 have abq:w.heap.size+1<g17:=by rw[qP];exact(hE.h3).lt
 have abr:w.heap.size+1+1<g17:=by rw[qP];exact(hE.h2).lt
 replace hE:=hE.blk 80 (x.Q G N cap) (g:=g17) qP.symm;generalize wc.alloc (.cells (x.Q G N cap) 80)=Wu at hE⊢;rw[<-qP];clear qP;have jx:=(hE.here.2).cell 9
 go_upto_region 6 with(fail)
 clear jx;have lO:=(hE.here.2).cell 0;have kI:=(hE.here.2).cell 1;have og:=(hE.here.2).cell 2;have mQ:=(hE.here.2).cell 3;have oh:=(hE.here.2).cell 4;have oU:=(hE.here.2).cell 5;have mS:=(hE.here.2).cell 6;have lW:=(hE.here.2).cell 7;have oV:=(hE.here.2).cell 8;have om:=(hE.here.2).cell 9;go_wp2_with fail
 refine hE.fr (an8.out _ G cap h hE.av (hE.h2) (hE.here.1.2)) ?_;clear hE lO kI og mQ oh oU mS lW oV om;intro sq Aq nq cq tq Bq mq dq QG hE
 have cA:w.heap.size<=w.heap.size+1+1:=by omega
 obtain⟨WW,bn,hB,hV,aQ⟩:=aO hE hE.h4 cA hE.here.2 cq dq;obtain⟨x0,x1,x2,x3⟩:=(hE.h4).c4;obtain⟨fQ,fR,gJ,gK⟩:=hE.h4.f4;have bJ:=Lib.hid bn;clear bn;go_wp2_with fail
 clear x0 x1 x2 x3;rw[<-bJ.out];obtain⟨y0,y1,y2,y3⟩:=hB.c4;refine bodyPost_ret (v:= .tuple #[.agg (az sq Aq nq cq tq Bq mq dq),.int .i64 0]) (by simp[results,Tryz.results60,go_sem,y0,y1,y2,y3]) rfl ?_;exact⟨sq,Aq,nq,cq,tq,Bq,mq,dq,rfl,hV,aQ⟩
theorem PU {b:Bh}{x:Ct}{w:World}{of:Value}(hb:b.rd w)(lS:b.bd)(hx:x.rd w)(iB:x.bd)(hok:x.ok b)(N:Nat)(hN:kH b.v (b.rt x.E x.Y) N)(kM:N<=80)(t:Nat)(ht:N<=t):
  Calls Tryz.prog 60 #[.agg b.C,.agg x.C,.int .i64 (t:Int),of] w (agc 320 w):=by
 have jG:=Lib.hid hb;clear hb;have fS:=Lib.hid lS;clear lS;have mB:=Lib.hid hx;clear hx;have fZ:=Lib.hid iB;clear iB;have kQ:=Lib.hid hok;clear hok;have p6:=Lib.hid hN;clear hN;have hE:=((Env.start w).blk 31 b.C (g:=w.heap.size) rfl).blk 36 x.C (g:=w.heap.size+1) (by simp);have hE:=hE.blk 29 aY (g:=w.heap.size+1+1) (by simp)
 obtain⟨W0,aC⟩:∃W0,W0=(((w.alloc (.cells b.C 31)).alloc (.cells x.C 36)).alloc (.cells aY 29)):=⟨_,rfl⟩
 rw[<-aC] at hE;have aU:=Lib.hid aC;clear aC
 go_enter Tryz.func60,Tryz.ntmps60
 go_upto_region 1 with(fail)
 rw[<-aU.out];have t1:decide ((t:Int)<0)=false:=decide_eq_false (by omega)
 have t2:¬(t:Int)<0:=by omega
 have t3:decide ((N:Int)<=(t:Int))=true:=decide_eq_true (by omega)
 have t4:(N:Int)<=(t:Int):=by omega
 obtain⟨k1,k2,k3,k4,k5,k6,k7⟩:=(hE.h2).c7;have k8:=(hE.here.1.2).cell 0;have k9:=(hE.here.1.2).cell 1;have eG:=(hE.here.1.2).cell 2;have cS:=(hE.here.1.2).cell 3;have cZ:=(hE.here.1.2).cell 4;have dG:=(hE.here.1.2).cell 5;have dN:=(hE.here.1.2).cell 6;have fP:=(hE.here.1.2).cell 7;have lC:=(hE.here.1.2).cell 8;go_wp2_with fail
 refine(PT (Bh.aA jG.out hE.av) fS.out (Ct.aA mB.out hE.av) fZ.out kQ.out N p6.out kM).mono ?_;clear k1 k2 k3 k4 k5 k6 k7 k8 k9 eG cS cZ dG dN fP lC
 rintro e wc ⟨G,cap,h,rfl,oP,Xo,dI⟩
 replace hE:=(hE.step dI).eW oP;replace hE:=hE.bu Xo;clear dI oP Xo
 go_upto_region 2 with(fail)
 obtain⟨g17,qP⟩:∃g17,g17=wc.heap.size:=⟨_,rfl⟩
 have abp:w.heap.size<g17:=by rw[qP];exact(hE.h4).lt
 have abq:w.heap.size+1<g17:=by rw[qP];exact(hE.h3).lt
 have abr:w.heap.size+1+1<g17:=by rw[qP];exact(hE.h2).lt
 replace hE:=hE.blk 80 (x.Q G N cap) (g:=g17) qP.symm;generalize wc.alloc (.cells (x.Q G N cap) 80)=Wu at hE⊢;rw[<-qP];clear qP;have jx:=(hE.here.2).cell 9
 have cA:w.heap.size<=w.heap.size+1+1:=by omega
 have hB:=(hE.h3).s4 (.bool false) (.slice none 0 0) (.bool false) (.slice none 0 0);have aQ:=ck hE.av cA (.bool false) (.slice none 0 0) (.bool false) (.slice none 0 0)
 obtain⟨WW,bn⟩:∃x,x=((((Wu.setCell ⟨w.heap.size+1+1,0,none⟩ (.bool false)).setCell ⟨w.heap.size+1+1,1,none⟩ (.slice none 0 0)).setCell ⟨w.heap.size+1+1,2,none⟩ (.bool false)).setCell ⟨w.heap.size+1+1,3,none⟩ (.slice none 0 0)):=⟨_,rfl⟩
 rw[<-bn] at hB aQ;obtain⟨x0,x1,x2,x3⟩:=(hE.h3).c4;obtain⟨fQ,fR,gJ,gK⟩:=(hE.h3).f4;have bJ:=Lib.hid bn;clear bn;go_wp2_with fail
 clear x0 x1 x2 x3;rw[<-bJ.out];obtain⟨y0,y1,y2,y3⟩:=hB.c4;refine bodyPost_ret (v:= .tuple #[.agg aY,.int .i64 320]) (by simp[results,Tryz.results60,go_sem,y0,y1,y2,y3]) rfl ?_;exact⟨rfl,aQ⟩
end
section
open Go.RowKit

def Ct.L (x:Ct)(k:Nat):Rat:=jR x.l x.n k-mU x.T.toNat x.p.q k
def Ct.K (x:Ct):Nat->Rat:=jR x.k x.m
def Bh.val (b:Bh)(x:Ct)(N t:Nat):Rat:=va b.v (b.rt x.E x.Y) N x.L x.K t
theorem jQ.stable (p:Value)(L:Nat->Rat)(N:Nat):bq (jQ p L N):=fun _ _ hb h=>h.below hb
theorem Env.mU {w W:World}{P:World->Prop}{p:Value}{L:Nat->Rat}{N:Nat}(hE:Env w P W)(h:jQ p L N W):Env w (fun V=>P V/\jQ p L N V) W:=hE.and (jQ.stable _ _ _) h
theorem U9 {l:Nat->Int}{n:Nat}(h:Cm n l)(k:Nat):fl (jR l n k)<=256:=by
 have h1:=Ft (M:=1099511627776) (l:=l) (n:=n) (fun k hk=>h.2 k hk) k;exact Nat.le_trans (jl (M:=1099511627776) (k:=3) (j:=0) (by decide) h1.2.2 h1.1 h1.2.1 (by decide) (by decide) (by decide)) (by decide)
theorem Ct.pm {x:Ct}{b:Bh}{w:World}(h:x.rd w)(ho:x.ok b):Pm (1099511627776+aj^4) x.p.q.den x.L/\Pm 1099511627776 1 x.K/\Pm (aj^4) x.p.q.den (mU x.T.toNat x.p.q):=by
 obtain⟨hv,h0,h1,h2⟩:=Ct.Es h ho
 have hp:Pm (aj^4) x.p.q.den (mU x.T.toNat x.p.q):=aa7 h0 (by
  have e:=Rat.num_divInt_den x.p.q;rw[Rat.le_iff,Rat.num_natCast,Rat.den_natCast];have h3:0<x.p.q.den:=x.p.q.den_pos;have h4:=Rat.num_nonneg.2 h0;have h5:(aj^4:Nat)*1<=aj^4*x.p.q.den:=Nat.mul_le_mul_left _ h3;have h6:((aj^4*x.p.q.den:Nat):Int)=((aj^4:Nat):Int)*(x.p.q.den:Int):=Int.natCast_mul _ _
  omega) (Dv.self _)
 exact⟨aa8 (Ft (M:=1099511627776) fun k hk=>ho.2.2.2.2.1.2 k hk) hp,Ft (M:=1099511627776) fun k hk=>ho.2.2.2.2.2.2 k hk,hp⟩
theorem Ct.vl {x:Ct}{b:Bh}{w:World}(hb:b.rd w)(h:x.rd w)(ho:x.ok b){N:Nat}(hN:kH b.v (b.rt x.E x.Y) N)(kM:N<=80):abb b.v (b.rt x.E x.Y) x.L x.K N:=by
 obtain⟨h1,h2,-⟩:=Ct.pm h ho;exact ag5 (Bh.KD hb ho.1) (fU hb.1 ho.2.1 N) h1 h2 hN (Bh.v_i hb ho.1) kM x.p.q.den_pos (Ct.Es h ho).2.2.2 (by decide) (by decide) (by decide) (by decide)
theorem Ct.Va {x:Ct}{b:Bh}{w:World}(h:x.rd w)(ho:x.ok b)(k:Nat):fl (jR x.l x.n k)<=256/\fl (mU x.T.toNat x.p.q k)<=256/\fl (jR x.l x.n k-mU x.T.toNat x.p.q k)<=256:=by
 obtain⟨h1,-,h3⟩:=Ct.pm h ho;have h4:=h1 k;have h5:=h3 k;refine⟨U9 ho.2.2.2.2.1 k,Nat.le_trans (jl (k:=4) (j:=4) x.p.q.den_pos h5.2.2 h5.1 h5.2.1 (by decide) (by decide) (Ct.Es h ho).2.2.2) (by decide),Nat.le_trans (jl (k:=5) (j:=4) x.p.q.den_pos h4.2.2 h4.1 h4.2.1 (by decide) (by decide) (Ct.Es h ho).2.2.2) (by decide)⟩
theorem PV {b:Bh}{x:Ct}{w:World}{G cap ga:Nat}{h:Nat->Nat->Q8}(hb:b.rd w)(hx:x.rd w)(hok:x.ok b)(N:Nat)(hN:kH b.v (b.rt x.E x.Y) N)(kM:N<=80)(hC:fE G N cap h w)(hQ:bH h N (fun _ _=>True) (bu b.v (b.rt x.E x.Y) N) w)(t:Nat)(ht:t<N)(hat:At ga 0 (.int .i64 (t:Int)) w):
  Calls Tryz.prog 61 #[.agg (x.Q G N cap),.pointer (some ⟨ga,0,none⟩)] w (FR (b.val x N t) w):=by
 have hp0:=Ct.Es hx hok;have IW:=Ct.Va hx hok;have hvl:=Ct.vl hb hx hok hN kM
 have hlb:∀k,k<x.n->-9223372036854775808<=x.l k/\x.l k<=9223372036854775807:=fun k hk=>by have:=hok.2.2.2.2.1.2 k hk;omega
 have Xp:∀k,k<x.m->-9223372036854775808<=x.k k/\x.k k<=9223372036854775807:=fun k hk=>by have:=hok.2.2.2.2.2.2 k hk;omega
 obtain⟨hpf,-⟩:=hp0;have hT:=hok.2.2.1.1;have lta:=hat.1;have jG:=Lib.hid hb;clear hb;have mB:=Lib.hid hx;clear hx;have kQ:=Lib.hid hok;clear hok;have p6:=Lib.hid hN;clear hN;have Il:=Lib.hid hC;clear hC;have N3:=Lib.hid hQ;clear hQ;have abt:=Lib.hid IW;clear IW;have Rh:=Lib.hid hvl;clear hvl;have an9:=Lib.hid hlb;clear hlb;have aoa:=Lib.hid Xp;clear Xp;have aob:=Lib.hid hpf;clear hpf;have zK:=Lib.hid hT;clear hT;have hE:=((Env.start w).at_ hat.1 hat.2).blk 80 (x.Q G N cap) (g:=w.heap.size) rfl;have hE:=hE.blk 29 aY (g:=w.heap.size+1) (by simp)
 obtain⟨W0,aC⟩:∃W0,W0=((w.alloc (.cells (x.Q G N cap) 80)).alloc (.cells aY 29)):=⟨_,rfl⟩
 rw[<-aC] at hE;have aU:=Lib.hid aC;clear aC
 go_enter Tryz.func61,Tryz.ntmps61
 go_upto_region 1 with(fail)
 rw[<-aU.out];replace hE:=hE.drew;refine wp_region_held_drew (S:=fun V=>ak 80 (w.heap.size) (x.Q G N cap) V/\At ga (0) (.int .i64 (t:Int)) V) (by kernel_rfl) (⟨hE.here.1.2,hE.h2⟩) (fun hHeld=> ?_)
 generalize W0.drew=wd at*
 refine tk 0 ?_ (hy:=by
  intro w ay;have iM:=(ay.1).cell 0;have iP:=(ay.1).cell 1;have jb:=(ay.1).cell 2;have jc:=(ay.1).cell 3;have IX:=(ay.1).cell 4;have IY:=(ay.1).cell 5;have IZ:=(ay.1).cell 6;have VZ:=(ay.1).cell 7;have QI:=(ay.1).cell 8;have Rt:=(ay.1).cell 9;clear ay
  first|(go_simp;done)|(go_simp;with_reducible rfl))
 try simp only[PL]
 refine tk 1 ?_ (hy:=by
  intro w ay;have iM:=(ay.2).2;clear ay
  first|(go_simp;done)|(go_simp;with_reducible rfl))
 try simp only[PL]
 refine tk 2 ?_ (hy:=by
  intro w ay;have iM:=(ay.1).cell 0;have iP:=(ay.1).cell 1;have jb:=(ay.1).cell 2;have jc:=(ay.1).cell 3;have IX:=(ay.1).cell 4;have IY:=(ay.1).cell 5;have IZ:=(ay.1).cell 6;have VZ:=(ay.1).cell 7;have QI:=(ay.1).cell 8;have Rt:=(ay.1).cell 9;clear ay
  first|(go_simp;done)|(go_simp;with_reducible rfl))
 try simp only[PL]
 refine tk 4 ?_;refine tk 5 ?_
 refine tk 6 ?_ (hy:=by
  intro w ay;have QI:=(ay.1).cell 8;clear ay
  first|(go_simp;done)|(go_simp;with_reducible rfl))
 try simp only[PL]
 refine r1 3 (fun K hK=> ?_);go_simp;refine(abu (aob.out.below hE.av) zK.out (pZ.below mB.out.2.1 hE.av) an9.out N (by omega) (fun k _=>(abt.out k).1) (fun k _=>(abt.out k).2.1) (fun k _=>(abt.out k).2.2)).mono ?_
 rintro e w1 ⟨pn,rfl,hpn,dI⟩
 replace hE:=(hE.step dI).mU (show jQ pn x.L N _ from hpn);clear dI hpn;go_wp2_with fail
 refine hK.out _ _ (⟨hE.h2,hE.h3⟩) (fun hHeld=> ?_);clear hK K;try simp only[PL]
 refine r1 7 (fun K hK=> ?_);go_simp;refine(kC _ _ _ _).mono ?_
 rintro e _ ⟨rfl,rfl⟩
 obtain⟨g2,yp⟩:∃g2,g2=w1.heap.size:=⟨_,rfl⟩
 have Wx:w.heap.size<g2:=by rw[yp];exact(hE.h2).lt
 have apd:w.heap.size+1<g2:=by rw[yp];exact(hE.here.1.2).lt
 replace hE:=hE.blk 34 #[.slice x.B x.m x.d] (g:=g2) yp.symm;generalize w1.alloc (.cells #[.slice x.B x.m x.d] 34)=W2 at hE⊢;rw[<-yp];clear yp;replace hE:=hE.mU (uN (l:=x.k) (N:=N) (hE.here.2) (pZ.below mB.out.2.2 hE.av) aoa.out (by omega));go_wp2_with fail
 refine hK.out _ _ (⟨hE.h4,hE.h5⟩) (fun hHeld=> ?_);clear hK K;try simp only[PL]
 refine r1 8 (fun K hK=> ?_);go_simp;refine hE.fr (PW (x:=x) (h:=h) (bR.below Il.out hE.av) (bH.stable _ _ _ _ _ _ hE.av N3.out) p6.out kM (hE.h2) (hE.here.2) Rh.out t ht) ?_;clear hE;intro sq Aq nq cq tq Bq mq dq w3 hE;go_wp2_with fail
 refine hK.out _ _ (⟨hE.h5,hE.h6⟩) (fun hHeld=> ?_);clear hK K;try simp only[PL]
 refine r1 9 (fun K hK=> ?_)
 have cA:w.heap.size<=w.heap.size+1:=by omega
 obtain⟨WW,bn,hB,hV,aQ⟩:=aO hE hE.h4 cA hE.here.2 cq dq;obtain⟨x0,x1,x2,x3⟩:=(hE.h4).c4;obtain⟨fQ,fR,gJ,gK⟩:=hE.h4.f4;have bJ:=Lib.hid bn;clear bn;go_simp;rw[<-bJ.out];refine hK.out _ _ (by rw[bJ.out];exact⟨(hE.h5).ai (R:=w.heap.size+1) (by omega) (.bool sq) (.slice Aq nq cq) (.bool tq) (.slice Bq mq dq),(hE.h6).ai (R:=w.heap.size+1) (by omega) (.bool sq) (.slice Aq nq cq) (.bool tq) (.slice Bq mq dq)⟩) (fun hHeld=> ?_);clear hK K;try simp only[PL]
 refine wpAnyH_done (by kernel_rfl) ?_ _;go_wp2_with fail
 obtain⟨y0,y1,y2,y3⟩:=hB.c4;refine bodyPost_ret (v:= .agg (az sq Aq nq cq tq Bq mq dq)) (by simp[results,Tryz.results61,go_sem,y0,y1,y2,y3]) rfl ?_;exact⟨sq,Aq,nq,cq,tq,Bq,mq,dq,rfl,hV,aQ⟩
theorem FX {b:Bh}{x:Ct}{w:World}(hb:b.rd w)(lS:b.bd)(hx:x.rd w)(iB:x.bd)(hok:x.ok b)(N:Nat)(hN:kH b.v (b.rt x.E x.Y) N)(kM:N<=80)(t:Nat)(ht:t<N):
  Calls Tryz.prog 18 #[.agg b.C,.agg x.C,.int .i64 (t:Int)] w (Kt (b.val x N t) w):=by
 have jG:=Lib.hid hb;clear hb;have fS:=Lib.hid lS;clear lS;have mB:=Lib.hid hx;clear hx;have fZ:=Lib.hid iB;clear iB;have kQ:=Lib.hid hok;clear hok;have p6:=Lib.hid hN;clear hN;have hE:=(((Env.start w).blk 31 b.C (g:=w.heap.size) rfl).blk 36 x.C (g:=w.heap.size+1) (by simp)).blk 3 #[.int .i64 (t:Int)] (g:=w.heap.size+1+1) (by simp);have hE:=hE.blk 29 aY (g:=w.heap.size+1+1+1) (by simp)
 obtain⟨W0,aC⟩:∃W0,W0=((((w.alloc (.cells b.C 31)).alloc (.cells x.C 36)).alloc (.cells #[.int .i64 (t:Int)] 3)).alloc (.cells aY 29)):=⟨_,rfl⟩
 rw[<-aC] at hE;have aU:=Lib.hid aC;clear aC
 go_enter Tryz.func18,Tryz.ntmps18
 go_upto_region 1 with(fail)
 rw[<-aU.out];obtain⟨k1,k2,k3,k4,k5,k6,k7⟩:=(hE.h3).c7;have k8:=(hE.here.1.2).c1;have k9:=(hE.h2).cell 0;have eG:=(hE.h2).cell 1;have cS:=(hE.h2).cell 2;have cZ:=(hE.h2).cell 3;have dG:=(hE.h2).cell 4;have dN:=(hE.h2).cell 5;have fP:=(hE.h2).cell 6;have lC:=(hE.h2).cell 7;have nL:=(hE.h2).cell 8;go_wp2_with fail
 have hca:=At.gn (hE.here.1.2) 0 rfl;refine hE.fr (aho (q:=b.val x N t) (of:= .func (.func 61) #[] #[.pointer (some ⟨w.heap.size+1+1,0,none⟩)]) (Bh.aA jG.out hE.av) fS.out (Ct.aA mB.out hE.av) fZ.out kQ.out N p6.out kM t ht ⟨61,#[.pointer (some ⟨w.heap.size+1+1,0,none⟩)],rfl,enters_of Tryz.func61 (by kernel_rfl) rfl,fun W G cap h hW hC hQ=>PV (Bh.aA jG.out (hE.av.trans (hW.mono hE.av.size))) (Ct.aA mB.out (hE.av.trans (hW.mono hE.av.size))) kQ.out N p6.out kM hC hQ t ht (At.stable _ _ _ _ _ hW hca)⟩) ?_;clear hE k1 k2 k3 k4 k5 k6 k7 k8 k9 eG cS cZ dG dN fP lC nL hca;intro sq Aq nq cq tq Bq mq dq w9 hE
 have cA:w.heap.size<=w.heap.size+1+1+1:=by omega
 obtain⟨WW,bn,hB,hV,aQ⟩:=aO hE hE.here.1.2 cA hE.here.2 cq dq;obtain⟨x0,x1,x2,x3⟩:=(hE.here.1.2).c4;obtain⟨fQ,fR,gJ,gK⟩:=hE.here.1.2.f4;have bJ:=Lib.hid bn;clear bn;go_wp2_with fail
 clear x0 x1 x2 x3;rw[<-bJ.out];obtain⟨y0,y1,y2,y3⟩:=hB.c4;refine bodyPost_ret (v:= .tuple #[.agg (az sq Aq nq cq tq Bq mq dq),.int .i64 0]) (by simp[results,Tryz.results18,go_sem,y0,y1,y2,y3]) rfl ?_;exact⟨sq,Aq,nq,cq,tq,Bq,mq,dq,rfl,hV,aQ⟩
theorem tJ {b:Bh}{x:Ct}{w:World}(hb:b.rd w)(lS:b.bd)(hx:x.rd w)(iB:x.bd)(hok:x.ok b)(N:Nat)(hN:kH b.v (b.rt x.E x.Y) N)(kM:N<=80)(t:Nat)(ht:N<=t)(_:t<=9223372036854775807):
  Calls Tryz.prog 18 #[.agg b.C,.agg x.C,.int .i64 (t:Int)] w (agc 320 w):=by
 have jG:=Lib.hid hb;clear hb;have fS:=Lib.hid lS;clear lS;have mB:=Lib.hid hx;clear hx;have fZ:=Lib.hid iB;clear iB;have kQ:=Lib.hid hok;clear hok;have p6:=Lib.hid hN;clear hN;have hE:=(((Env.start w).blk 31 b.C (g:=w.heap.size) rfl).blk 36 x.C (g:=w.heap.size+1) (by simp)).blk 3 #[.int .i64 (t:Int)] (g:=w.heap.size+1+1) (by simp);have hE:=hE.blk 29 aY (g:=w.heap.size+1+1+1) (by simp)
 obtain⟨W0,aC⟩:∃W0,W0=((((w.alloc (.cells b.C 31)).alloc (.cells x.C 36)).alloc (.cells #[.int .i64 (t:Int)] 3)).alloc (.cells aY 29)):=⟨_,rfl⟩
 rw[<-aC] at hE;have aU:=Lib.hid aC;clear aC
 go_enter Tryz.func18,Tryz.ntmps18
 go_upto_region 1 with(fail)
 rw[<-aU.out];obtain⟨k1,k2,k3,k4,k5,k6,k7⟩:=(hE.h3).c7;have k8:=(hE.here.1.2).c1;have k9:=(hE.h2).cell 0;have eG:=(hE.h2).cell 1;have cS:=(hE.h2).cell 2;have cZ:=(hE.h2).cell 3;have dG:=(hE.h2).cell 4;have dN:=(hE.h2).cell 5;have fP:=(hE.h2).cell 6;have lC:=(hE.h2).cell 7;have nL:=(hE.h2).cell 8;go_wp2_with fail
 refine hE.br (PU (Bh.aA jG.out hE.av) fS.out (Ct.aA mB.out hE.av) fZ.out kQ.out N p6.out kM t ht) ?_;clear hE k1 k2 k3 k4 k5 k6 k7 k8 k9 eG cS cZ dG dN fP lC nL;intro w18 hE
 have cA:w.heap.size<=w.heap.size+1+1+1:=by omega
 have hB:=(hE.here.2).s4 (.bool false) (.slice none 0 0) (.bool false) (.slice none 0 0);have aQ:=ck hE.av cA (.bool false) (.slice none 0 0) (.bool false) (.slice none 0 0)
 obtain⟨WW,bn⟩:∃x,x=((((w18.setCell ⟨w.heap.size+1+1+1,0,none⟩ (.bool false)).setCell ⟨w.heap.size+1+1+1,1,none⟩ (.slice none 0 0)).setCell ⟨w.heap.size+1+1+1,2,none⟩ (.bool false)).setCell ⟨w.heap.size+1+1+1,3,none⟩ (.slice none 0 0)):=⟨_,rfl⟩
 rw[<-bn] at hB aQ;obtain⟨x0,x1,x2,x3⟩:=(hE.here.2).c4;obtain⟨fQ,fR,gJ,gK⟩:=(hE.here.2).f4;have bJ:=Lib.hid bn;clear bn;go_wp2_with fail
 clear x0 x1 x2 x3;rw[<-bJ.out];obtain⟨y0,y1,y2,y3⟩:=hB.c4;refine bodyPost_ret (v:= .tuple #[.agg aY,.int .i64 320]) (by simp[results,Tryz.results18,go_sem,y0,y1,y2,y3]) rfl ?_;exact⟨rfl,aQ⟩
end
end Go.Proofs.YtclbiihcbfnjmaaGreat
