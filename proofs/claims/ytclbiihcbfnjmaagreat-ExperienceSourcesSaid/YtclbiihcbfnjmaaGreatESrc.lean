/-
  Parts.
-/
import Derived.Test.YtclbiihcbfnjmaaGreatES3
import Derived.Test.YtclbiihcbfnjmaaGreatE10
set_option linter.unusedSimpArgs false
set_option maxRecDepth 100000
set_option maxHeartbeats 8000000
namespace Go.Proofs.YtclbiihcbfnjmaaGreat
open Go.RowKit

def hsrc (a b c:FH):Nat->FH:=fun i=>match i with|7=>a|8=>b|9=>c|_=>zFH
def fc3 (a b c:FH):Nat->FH:=fun i=>match i with|0=>a|1=>b|_=>c
def Out (o:Option Rat)(k:Int)(w:World)(e:Ending)(w':World):Prop:=match o with|some q=>IB q w e w'|none=>vL k w e w'
theorem FH.Rk {h:FH}{w:World}(hr:h.rd w)(ho:okF h.s h.n h.f h.t h.m h.g=true):∃q,FV w q h.s h.A h.n h.t h.B h.m/\fl q<=256:=by
 obtain⟨q,h1,_,_,h2⟩:=adx hr ho;exact⟨q,h1,h2⟩
theorem Rl {a b c:FH}{w:World}(ra:a.rd w)(rb:b.rd w)(rc:c.rd w)(la:a.n<=300/\a.m<=300)(lb:b.n<=300/\b.m<=300)(lc:c.n<=300/\c.m<=300):
  ∃(o:Option Rat) (k:Int),(∀q,o=some q->fl q<=256)/\∀W,Below w.heap.size w W->Calls Tryz.prog 37 #[.agg #[.bool ((hsrc a b c) 0).s,.slice ((hsrc a b c) 0).A ((hsrc a b c) 0).n ((hsrc a b c) 0).c,.bool ((hsrc a b c) 0).t,.slice ((hsrc a b c) 0).B ((hsrc a b c) 0).m ((hsrc a b c) 0).d,.bool ((hsrc a b c) 1).s,.slice ((hsrc a b c) 1).A ((hsrc a b c) 1).n ((hsrc a b c) 1).c,.bool ((hsrc a b c) 1).t,.slice ((hsrc a b c) 1).B ((hsrc a b c) 1).m ((hsrc a b c) 1).d,.bool ((hsrc a b c) 2).s,.slice ((hsrc a b c) 2).A ((hsrc a b c) 2).n ((hsrc a b c) 2).c,.bool ((hsrc a b c) 2).t,.slice ((hsrc a b c) 2).B ((hsrc a b c) 2).m ((hsrc a b c) 2).d,.bool ((hsrc a b c) 3).s,.slice ((hsrc a b c) 3).A ((hsrc a b c) 3).n ((hsrc a b c) 3).c,.bool ((hsrc a b c) 3).t,.slice ((hsrc a b c) 3).B ((hsrc a b c) 3).m ((hsrc a b c) 3).d,.bool ((hsrc a b c) 4).s,.slice ((hsrc a b c) 4).A ((hsrc a b c) 4).n ((hsrc a b c) 4).c,.bool ((hsrc a b c) 4).t,.slice ((hsrc a b c) 4).B ((hsrc a b c) 4).m ((hsrc a b c) 4).d,.bool ((hsrc a b c) 5).s,.slice ((hsrc a b c) 5).A ((hsrc a b c) 5).n ((hsrc a b c) 5).c,.bool ((hsrc a b c) 5).t,.slice ((hsrc a b c) 5).B ((hsrc a b c) 5).m ((hsrc a b c) 5).d,.bool ((hsrc a b c) 6).s,.slice ((hsrc a b c) 6).A ((hsrc a b c) 6).n ((hsrc a b c) 6).c,.bool ((hsrc a b c) 6).t,.slice ((hsrc a b c) 6).B ((hsrc a b c) 6).m ((hsrc a b c) 6).d,.bool ((hsrc a b c) 7).s,.slice ((hsrc a b c) 7).A ((hsrc a b c) 7).n ((hsrc a b c) 7).c,.bool ((hsrc a b c) 7).t,.slice ((hsrc a b c) 7).B ((hsrc a b c) 7).m ((hsrc a b c) 7).d,.bool ((hsrc a b c) 8).s,.slice ((hsrc a b c) 8).A ((hsrc a b c) 8).n ((hsrc a b c) 8).c,.bool ((hsrc a b c) 8).t,.slice ((hsrc a b c) 8).B ((hsrc a b c) 8).m ((hsrc a b c) 8).d,.bool ((hsrc a b c) 9).s,.slice ((hsrc a b c) 9).A ((hsrc a b c) 9).n ((hsrc a b c) 9).c,.bool ((hsrc a b c) 9).t,.slice ((hsrc a b c) 9).B ((hsrc a b c) 9).m ((hsrc a b c) 9).d,.bool ((hsrc a b c) 10).s,.slice ((hsrc a b c) 10).A ((hsrc a b c) 10).n ((hsrc a b c) 10).c,.bool ((hsrc a b c) 10).t,.slice ((hsrc a b c) 10).B ((hsrc a b c) 10).m ((hsrc a b c) 10).d]] W (Out o k W)/\Calls Tryz.prog 38 #[.agg #[.bool ((hsrc a b c) 0).s,.slice ((hsrc a b c) 0).A ((hsrc a b c) 0).n ((hsrc a b c) 0).c,.bool ((hsrc a b c) 0).t,.slice ((hsrc a b c) 0).B ((hsrc a b c) 0).m ((hsrc a b c) 0).d,.bool ((hsrc a b c) 1).s,.slice ((hsrc a b c) 1).A ((hsrc a b c) 1).n ((hsrc a b c) 1).c,.bool ((hsrc a b c) 1).t,.slice ((hsrc a b c) 1).B ((hsrc a b c) 1).m ((hsrc a b c) 1).d,.bool ((hsrc a b c) 2).s,.slice ((hsrc a b c) 2).A ((hsrc a b c) 2).n ((hsrc a b c) 2).c,.bool ((hsrc a b c) 2).t,.slice ((hsrc a b c) 2).B ((hsrc a b c) 2).m ((hsrc a b c) 2).d,.bool ((hsrc a b c) 3).s,.slice ((hsrc a b c) 3).A ((hsrc a b c) 3).n ((hsrc a b c) 3).c,.bool ((hsrc a b c) 3).t,.slice ((hsrc a b c) 3).B ((hsrc a b c) 3).m ((hsrc a b c) 3).d,.bool ((hsrc a b c) 4).s,.slice ((hsrc a b c) 4).A ((hsrc a b c) 4).n ((hsrc a b c) 4).c,.bool ((hsrc a b c) 4).t,.slice ((hsrc a b c) 4).B ((hsrc a b c) 4).m ((hsrc a b c) 4).d,.bool ((hsrc a b c) 5).s,.slice ((hsrc a b c) 5).A ((hsrc a b c) 5).n ((hsrc a b c) 5).c,.bool ((hsrc a b c) 5).t,.slice ((hsrc a b c) 5).B ((hsrc a b c) 5).m ((hsrc a b c) 5).d,.bool ((hsrc a b c) 6).s,.slice ((hsrc a b c) 6).A ((hsrc a b c) 6).n ((hsrc a b c) 6).c,.bool ((hsrc a b c) 6).t,.slice ((hsrc a b c) 6).B ((hsrc a b c) 6).m ((hsrc a b c) 6).d,.bool ((hsrc a b c) 7).s,.slice ((hsrc a b c) 7).A ((hsrc a b c) 7).n ((hsrc a b c) 7).c,.bool ((hsrc a b c) 7).t,.slice ((hsrc a b c) 7).B ((hsrc a b c) 7).m ((hsrc a b c) 7).d,.bool ((hsrc a b c) 8).s,.slice ((hsrc a b c) 8).A ((hsrc a b c) 8).n ((hsrc a b c) 8).c,.bool ((hsrc a b c) 8).t,.slice ((hsrc a b c) 8).B ((hsrc a b c) 8).m ((hsrc a b c) 8).d,.bool ((hsrc a b c) 9).s,.slice ((hsrc a b c) 9).A ((hsrc a b c) 9).n ((hsrc a b c) 9).c,.bool ((hsrc a b c) 9).t,.slice ((hsrc a b c) 9).B ((hsrc a b c) 9).m ((hsrc a b c) 9).d,.bool ((hsrc a b c) 10).s,.slice ((hsrc a b c) 10).A ((hsrc a b c) 10).n ((hsrc a b c) 10).c,.bool ((hsrc a b c) 10).t,.slice ((hsrc a b c) 10).B ((hsrc a b c) 10).m ((hsrc a b c) 10).d]] W (Out o k W):=by
 by_cases hv:(okF a.s a.n a.f a.t a.m a.g&&okF b.s b.n b.f b.t b.m b.g&&okF c.s c.n c.f c.t c.m c.g)=true
 rotate_left
 ·
  refine⟨none,2,fun q h=>(by cases h),fun W hb=> ?_⟩
  have nO:(okF a.s a.n a.f a.t a.m a.g&&okF b.s b.n b.f b.t b.m b.g&&okF c.s c.n c.f c.t c.m c.g)=false:=by simpa using hv
  have r7:kA W a.A a.n a.f a.B a.m a.g:=kA.below ra hb;have r8:kA W b.A b.n b.f b.B b.m b.g:=kA.below rb hb;have r9:kA W c.A c.n c.f c.B c.m c.g:=kA.below rc hb
  exact⟨AR (h:=hsrc a b c) r7 (show a.n<=1000000 by omega) (show a.m<=1000000 by omega) r8 (show b.n<=1000000 by omega) (show b.m<=1000000 by omega) r9 (show c.n<=1000000 by omega) (show c.m<=1000000 by omega) nO,
   AU (h:=hsrc a b c) r7 (show a.n<=900000 by omega) (show a.m<=900000 by omega) r8 (show b.n<=900000 by omega) (show b.m<=900000 by omega) r9 (show c.n<=900000 by omega) (show c.m<=900000 by omega) nO⟩
 rw[iP,iP] at hv;obtain⟨x,fx,lx⟩:=FH.Rk ra hv.1.1;obtain⟨y,fy,ly⟩:=FH.Rk rb hv.1.2;obtain⟨z,fz,lz⟩:=FH.Rk rc hv.2
 by_cases l1:fl (x+y)<=256
 rotate_left
 ·refine⟨none,3,fun q h=>(by cases h),fun W hb=>⟨DU (h:=hsrc a b c) (fx.below hb) (fy.below hb) (fz.below hb) lx ly lz (by omega),Gu (h:=hsrc a b c) (fx.below hb) (fy.below hb) (fz.below hb) lx ly lz (by omega)⟩⟩
 by_cases l2:fl (x+y+z)<=256
 ·
  refine⟨some (x+y+z),0,fun q h=> ?_,fun W hb=>⟨vm (h:=hsrc a b c) (fx.below hb) (fy.below hb) (fz.below hb) lx ly lz l1 l2,Gt (h:=hsrc a b c) (fx.below hb) (fy.below hb) (fz.below hb) lx ly lz l1 l2⟩⟩
  injection h with h
  rw[<-h];exact l2
 ·exact⟨none,3,fun q h=>(by cases h),fun W hb=>⟨Ea (h:=hsrc a b c) (fx.below hb) (fy.below hb) (fz.below hb) lx ly lz l1 (by omega),Gv (h:=hsrc a b c) (fx.below hb) (fy.below hb) (fz.below hb) lx ly lz l1 (by omega)⟩⟩
theorem Lp (a b c:FH)(w:World)(ra:a.rd w)(rb:b.rd w)(rc:c.rd w):
  Calls Tryz.prog 8 #[.agg (az a.s a.A a.n a.c a.t a.B a.m a.d),.agg (az b.s b.A b.n b.c b.t b.B b.m b.d),.agg (az c.s c.A c.n c.c c.t c.B c.m c.d)] w (fun e w'=>e= .returned (.bool true)/\Below w.heap.size w w'):=by
 have Hra:=af ra;clear ra;have Hrb:=af rb;clear rb;have Hrc:=af rc;clear rc;have hE:=(((Env.start w).blk 29 (az a.s a.A a.n a.c a.t a.B a.m a.d) (g:=w.heap.size) rfl).blk 29 (az b.s b.A b.n b.c b.t b.B b.m b.d) (g:=w.heap.size+1) (by simp)).blk 29 (az c.s c.A c.n c.c c.t c.B c.m c.d) (g:=w.heap.size+1+1) (by simp)
 obtain⟨W0,aC⟩:∃W0,W0=(((w.alloc (.cells (az a.s a.A a.n a.c a.t a.B a.m a.d) 29)).alloc (.cells (az b.s b.A b.n b.c b.t b.B b.m b.d) 29)).alloc (.cells (az c.s c.A c.n c.c c.t c.B c.m c.d) 29)):=⟨_,rfl⟩
 rw[<-aC] at hE;have aZ:=af aC;clear aC
 go_enter Tryz.func8,Tryz.ntmps8
 go_upto_region 1 with(fail)
 rw[<-aZ.out];obtain⟨k1,k2,k3,k4⟩:=(hE.h2).c4;obtain⟨k5,k6,k7,k8⟩:=(hE.g1).c4;obtain⟨k9,fU,dX,dY⟩:=(hE.g0).c4
 go_upto_region 2 with(fail)
 clear k1 k2 k3 k4 k5 k6 k7 k8 k9 fU dX dY
 obtain⟨g13,sF⟩:∃g13,g13=W0.heap.size:=⟨_,rfl⟩
 have aoe:w.heap.size<g13:=by rw[sF];exact(hE.h2).lt
 have aof:w.heap.size+1<g13:=by rw[sF];exact(hE.g1).lt
 have ady:w.heap.size+1+1<g13:=by rw[sF];exact(hE.g0).lt
 replace hE:=hE.blk 29 #[.bool a.s,.slice a.A a.n a.c,.bool a.t,.slice a.B a.m a.d,.bool b.s,.slice b.A b.n b.c,.bool b.t,.slice b.B b.m b.d,.bool c.s,.slice c.A c.n c.c,.bool c.t,.slice c.B c.m c.d] (g:=g13) sF.symm;generalize W0.alloc (.cells #[.bool a.s,.slice a.A a.n a.c,.bool a.t,.slice a.B a.m a.d,.bool b.s,.slice b.A b.n b.c,.bool b.t,.slice b.B b.m b.d,.bool c.s,.slice c.A c.n c.c,.bool c.t,.slice c.B c.m c.d] 29)=W13 at hE⊢;rw[<-sF];clear sF;go_wp2_with fail
 go_loopw [8] (fun p wr=>∃k:Nat,k<=3/\p= .int .i64 (k:Int)/\Hid (∀j,j<k->(fc3 a b c j).n<=300/\(fc3 a b c j).m<=300)/\Env w (fun V=>((((True/\au 29 (w.heap.size) (az a.s a.A a.n a.c a.t a.B a.m a.d) V)/\au 29 (w.heap.size+1) (az b.s b.A b.n b.c b.t b.B b.m b.d) V)/\au 29 (w.heap.size+1+1) (az c.s c.A c.n c.c c.t c.B c.m c.d) V)/\au 29 (g13) #[.bool a.s,.slice a.A a.n a.c,.bool a.t,.slice a.B a.m a.d,.bool b.s,.slice b.A b.n b.c,.bool b.t,.slice b.B b.m b.d,.bool c.s,.slice c.A c.n c.c,.bool c.t,.slice c.B c.m c.d] V)) wr) (fun p _=>3-(intOf p).toNat)
 case atStart=>exact⟨0,bF _,rfl,af (fun j hj=>absurd hj (by omega)),hE⟩
 case round=>
  clear hE;obtain⟨k,hk,rfl,HK,hE⟩:=hrel
  by_cases hlt:k<3
  rotate_left
  ·
   obtain rfl:k=3:=by omega
   have t1:decide (((3:Nat):Int)<3)=false:=aH (by decide);have t3:decide ((3:Int)<3)=false:=aH (by decide);have la:a.n<=300/\a.m<=300:=HK.out 0 (by decide);have lb:b.n<=300/\b.m<=300:=HK.out 1 (by decide);have lc:c.n<=300/\c.m<=300:=HK.out 2 (by decide);obtain⟨o,q,hl,HC⟩:=Rl Hra.out Hrb.out Hrc.out la lb lc;clear la lb lc;have qK:=af hl;clear hl;have HHC:=af HC;clear HC;obtain⟨eF,iA,kz,lU⟩:=(hE.h3).c4;obtain⟨jS,kT,kB,lV⟩:=(hE.h2).c4;obtain⟨lW,nC,rP,pU⟩:=(hE.g1).c4;go_wp2_with fail
   refine(HHC.out _ hE.ax).1.mono ?_;clear eF iA kz lU jS kT kB lV lW nC rP pU;clear t1 t3
   cases o with
   |none=>
    rintro e w1 ⟨rfl,hb⟩
    replace hE:=hE.step hb;clear hb
    go_upto_region 8 with(fail)
    obtain⟨ZS,Gw⟩:∃ZS,ZS=w1.heap.size:=⟨_,rfl⟩
    have aog:w.heap.size<ZS:=by rw[Gw];exact(hE.h3).lt
    have aoh:w.heap.size+1<ZS:=by rw[Gw];exact(hE.h2).lt
    have aoi:w.heap.size+1+1<ZS:=by rw[Gw];exact(hE.g1).lt
    have aoj:g13<ZS:=by rw[Gw];exact(hE.g0).lt
    replace hE:=hE.blk 29 aW (g:=ZS) Gw.symm;generalize w1.alloc (.cells aW 29)=W26 at hE⊢;rw[<-Gw];clear Gw;obtain⟨qH,pM,Fy,wW⟩:=(hE.h4).c4;obtain⟨uG,tC,tD,Oo⟩:=(hE.h3).c4;obtain⟨Un,KN,Cp,xj⟩:=(hE.h2).c4;go_wp2_with fail
    refine hE.br (HHC.out _ hE.ax).2 ?_;clear hE qH pM Fy wW uG tC tD Oo Un KN Cp xj;intro w2 hE
    go_upto_region 9 with(fail)
    obtain⟨uI,nL⟩:∃uI,uI=w2.heap.size:=⟨_,rfl⟩
    have aaD:w.heap.size<uI:=by rw[nL];exact(hE.h4).lt
    have aok:w.heap.size+1<uI:=by rw[nL];exact(hE.h3).lt
    have aol:w.heap.size+1+1<uI:=by rw[nL];exact(hE.h2).lt
    have aaE:g13<uI:=by rw[nL];exact(hE.g1).lt
    have aom:ZS<uI:=by rw[nL];exact(hE.g0).lt
    replace hE:=hE.blk 29 aW (g:=uI) nL.symm;generalize w2.alloc (.cells aW 29)=W39 at hE⊢;rw[<-nL];clear nL
    have t4:(q==q)=true:=by simp
    obtain⟨Cq,Fz,Iw,zl⟩:=(hE.g1).c4;obtain⟨CC,zm,CM,Ky⟩:=(hE.g0).c4;go_wp2_with fail
    refine hE.br (Lq) ?_;clear hE Cq Fz Iw zl CC zm CM Ky;intro w48 hE;go_wp2_with fail
    refine hE.br (qS _) ?_;clear hE;intro w49 hE;go_wp2_with fail
    go_ret
    exact⟨rfl,hE.ax⟩
   |some z=>
    rintro e w1 ⟨sx,Ax,nx,cx,tx,Bx,mx,dx,rfl,hf,hb⟩
    replace hE:=hE.step hb;clear hb;replace hE:=hE.fv hf;clear hf
    go_upto_region 8 with(fail)
    obtain⟨ZT,Gx⟩:∃ZT,ZT=w1.heap.size:=⟨_,rfl⟩
    have aon:w.heap.size<ZT:=by rw[Gx];exact(hE.h4).lt
    have aoo:w.heap.size+1<ZT:=by rw[Gx];exact(hE.h3).lt
    have aop:w.heap.size+1+1<ZT:=by rw[Gx];exact(hE.h2).lt
    have aoq:g13<ZT:=by rw[Gx];exact(hE.g1).lt
    replace hE:=hE.blk 29 (az sx Ax nx cx tx Bx mx dx) (g:=ZT) Gx.symm;generalize w1.alloc (.cells (az sx Ax nx cx tx Bx mx dx) 29)=W50 at hE⊢;rw[<-Gx];clear Gx;obtain⟨MY,TI,Zb,k54⟩:=(hE.h5).c4;obtain⟨k55,k56,k57,k58⟩:=(hE.h4).c4;obtain⟨k59,k60,k61,k62⟩:=(hE.h3).c4;go_wp2_with fail
    refine hE.fr (HHC.out _ hE.ax).2 ?_;clear hE MY TI Zb k54 k55 k56 k57 k58 k59 k60 k61 k62;intro sy Ay ny cy ty By my dy w2 hE
    go_upto_region 9 with(fail)
    obtain⟨ZU,Ec⟩:∃ZU,ZU=w2.heap.size:=⟨_,rfl⟩
    have aor:w.heap.size<ZU:=by rw[Ec];exact(hE.h6).lt
    have aos:w.heap.size+1<ZU:=by rw[Ec];exact(hE.h5).lt
    have aot:w.heap.size+1+1<ZU:=by rw[Ec];exact(hE.h4).lt
    have aou:g13<ZU:=by rw[Ec];exact(hE.h3).lt
    have aov:ZT<ZU:=by rw[Ec];exact(hE.g1).lt
    replace hE:=hE.blk 29 (az sy Ay ny cy ty By my dy) (g:=ZU) Ec.symm;generalize w2.alloc (.cells (az sy Ay ny cy ty By my dy) 29)=W63 at hE⊢;rw[<-Ec];clear Ec;obtain⟨n1,n2⟩:=(hE.h3).ln (qK.out z rfl);obtain⟨n3,n4⟩:=(hE.g1).ln (qK.out z rfl);obtain⟨k64,k65,k66,k67⟩:=(hE.h2).c4;obtain⟨k68,k69,k70,k71⟩:=(hE.g0).c4;go_wp2_with fail
    have hc:=CP (ca:=cx) (da:=dx) (cb:=cy) (db:=dy) hE.h3 hE.g1 (by omega) (by omega) (by omega) (by omega);rw[aL rfl] at hc;clear n1 n2 n3 n4;refine hE.br (hc) ?_;clear hE k64 k65 k66 k67 k68 k69 k70 k71;intro w72 hE;clear hc;go_wp2_with fail
    refine hE.br (qS _) ?_;clear hE;intro w73 hE;go_wp2_with fail
    go_ret
    exact⟨rfl,hE.ax⟩
  have t1:decide ((k:Int)<3)=true:=aL (by omega)
  have t2:(k:Int)<3:=by omega
  obtain⟨x,hx⟩:∃x,x=fc3 a b c k:=⟨_,rfl⟩
  have kcs:∀i v,(qC x)[i]?=some v->wr.cell? ⟨g13,k*4+i,none⟩=some v:=fun i v hv=>by
   rw[(hE.g0).cell,<-hv,hx];have hi:i<4:=(mM.1 hv).1
   rcases(show k=0\/k=1\/k=2 by omega) with rfl|rfl|rfl<;>rcases(show i=0\/i=1\/i=2\/i=3 by omega) with rfl|rfl|rfl|rfl<;>rfl
  have qL:=kcs 1 _ rfl;have qR:=kcs 3 _ rfl;clear kcs;have Hx:=af hx;clear hx
  by_cases h1:300<x.n
  ·
   have t4:decide ((300:Int)<(x.n:Int))=true:=aL (by omega)
   have t5:(300:Int)<(x.n:Int):=by omega
   go_wp2_with fail
   refine hE.br (qS _) ?_;clear hE;intro w74 hE;go_wp2_with fail
   go_ret
   exact⟨rfl,hE.ax⟩
  have t4:decide ((300:Int)<(x.n:Int))=false:=aH (by omega)
  have t5:¬(300:Int)<(x.n:Int):=by omega
  by_cases h2:300<x.m
  ·
   have t6:decide ((300:Int)<(x.m:Int))=true:=aL (by omega)
   have t7:(300:Int)<(x.m:Int):=by omega
   go_wp2_with fail
   refine hE.br (qS _) ?_;clear hE;intro w75 hE;go_wp2_with fail
   go_ret
   exact⟨rfl,hE.ax⟩
  have t6:decide ((300:Int)<(x.m:Int))=false:=aH (by omega)
  have t7:¬(300:Int)<(x.m:Int):=by omega
  go_wp2_with fail
  go_roundw
  case rel=>
   have HK2:∀j,j<k+1->(fc3 a b c j).n<=300/\(fc3 a b c j).m<=300:=fun j hj=>by
    rcases cX j k with h|h
    ·exact HK.out j h
    ·
     obtain rfl:j=k:=by omega
     rw[<-Hx.out];omega
   exact⟨k+1,by omega,by go_num,af HK2,hE⟩
  case measure=>simp[intOf];omega
end Go.Proofs.YtclbiihcbfnjmaaGreat
