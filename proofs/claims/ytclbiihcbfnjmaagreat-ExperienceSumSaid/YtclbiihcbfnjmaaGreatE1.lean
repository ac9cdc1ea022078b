/-
  Parts.
-/
import Derived.Test.YtclbiihcbfnjmaaGreatK8
import Derived.Test.YtclbiihcbfnjmaaGreatK21
set_option linter.unusedSimpArgs false
set_option maxRecDepth 100000
set_option maxHeartbeats 4000000
namespace Go.Proofs.YtclbiihcbfnjmaaGreat
open Go.RowKit

def SumC (g:Nat)(W:World):Prop:=∃t cs,Blk t g cs W/\cs[0]?=some (.int .i64 0)
theorem SumC.stable (g:Nat):Stable (SumC g):=fun _ _ hb ⟨t,cs,h1,h2⟩=>⟨t,cs,Blk.stable _ _ _ _ _ hb h1,h2⟩
theorem SumC.below {g:Nat}{w w':World}(h:SumC g w)(hb:Below w.heap.size w w'):SumC g w':=SumC.stable g _ _ hb h
theorem SumC.cell {g:Nat}{W:World}(h:SumC g W):W.cell? ⟨g,0,none⟩=some (.int .i64 0):=by obtain⟨t,cs,h1,h2⟩:=h;rw[h1.cell];exact h2
theorem SumC.frozen {g:Nat}{W:World}(h:SumC g W):W.frozen? ⟨g,0,none⟩=false:=by obtain⟨t,cs,h1,_⟩:=h;exact h1.frozen 0
theorem eadd_do {g:Nat}{a b:Rat}{sa ta sb tb:Bool}{Aa Ba Ab Bb:Option Addr}{na ca ma da nb cb mb db:Nat}{w:World}(hs:SumC g w)(ha:FV w a sa Aa na ta Ba ma)(hb:FV w b sb Ab nb tb Bb mb)(la:fl a<=256)(lb:fl b<=256)(lr:fl (a+b)<=256):
  Calls Tryz.prog 131 #[.pointer (some ⟨g,0,none⟩),.func (.func 77) #[] #[],.agg (qf4 sa Aa na ca ta Ba ma da),.agg (qf4 sb Ab nb cb tb Bb mb db)] w (FR (a+b) w):=by
 have Hhs:=Lib.hid hs;clear hs;have hE:=((((Env.start w).fv ha).fv hb).blk 29 (qf4 sa Aa na ca ta Ba ma da) (g:=w.heap.size) rfl).blk 29 (qf4 sb Ab nb cb tb Bb mb db) (g:=w.heap.size+1) (by simp);have hE:=hE.blk 29 qz4 (g:=w.heap.size+1+1) (by simp)
 obtain⟨W0,hW0⟩:∃W0,W0=(((w.alloc (.cells (qf4 sa Aa na ca ta Ba ma da) 29)).alloc (.cells (qf4 sb Ab nb cb tb Bb mb db) 29)).alloc (.cells qz4 29)):=⟨_,rfl⟩
 rw[<-hW0] at hE;have HW0:=Lib.hid hW0;clear hW0
 go_enter Tryz.func131,Tryz.ntmps131
 go_upto_region 1 with(fail)
 rw[<-HW0.out];have s0:=(Hhs.out.below hE.bel).cell;obtain⟨k1,k2,k3,k4⟩:=(hE.h2).c4;obtain⟨k5,k6,k7,k8⟩:=(hE.here.1.2).c4;go_wp2_with fail
 refine hE.fr (fadd_v (ca:=ca) (da:=da) (cb:=cb) (db:=db) hE.h4 hE.h3 la lb lr) ?_;clear hE k1 k2 k3 k4 k5 k6 k7 k8;intro sr Ar nr cr tr Br mr dr w9 hE;clear s0
 go_upto_region 4 with(fail)
 obtain⟨g10,hg10⟩:∃g10,g10=w9.heap.size:=⟨_,rfl⟩
 have hl10_2:w.heap.size<g10:=by rw[hg10];exact(hE.h3).lt
 have hl10_3:w.heap.size+1<g10:=by rw[hg10];exact(hE.h2).lt
 have hl10_4:w.heap.size+1+1<g10:=by rw[hg10];exact(hE.here.1.2).lt
 replace hE:=hE.blk 29 (qf4 sr Ar nr cr tr Br mr dr) (g:=g10) hg10.symm;generalize w9.alloc (.cells (qf4 sr Ar nr cr tr Br mr dr) 29)=W10 at hE⊢;rw[<-hg10];clear hg10;have s0:=(Hhs.out.below hE.bel).cell;have s1:=(Hhs.out.below hE.bel).frozen
 go_upto_region 5 with(fail)
 rw[setCell_self s0];clear s0 s1;obtain⟨k11,k12,k13,k14⟩:=(hE.here.2).c4
 have hRl:w.heap.size<=w.heap.size+1+1:=by omega
 obtain⟨WW,hWW,hB,hV,hBel⟩:=ret_frac hE hE.h2 hRl hE.here.1.2 cr dr;obtain⟨x0,x1,x2,x3⟩:=(hE.h2).c4;obtain⟨fz0,fz1,fz2,fz3⟩:=hE.h2.f4;have HWW:=Lib.hid hWW;clear hWW;go_wp2_with fail
 clear k11 k12 k13 k14;rw[<-HWW.out];obtain⟨y0,y1,y2,y3⟩:=hB.c4;refine bodyPost_ret (v:= .agg (qf4 sr Ar nr cr tr Br mr dr)) (by simp[results,Tryz.results131,go_sem,y0,y1,y2,y3]) rfl ?_;exact⟨sr,Ar,nr,cr,tr,Br,mr,dr,rfl,hV,hBel⟩
theorem eadd_v {g:Nat}{a b:Rat}{sa ta sb tb:Bool}{Aa Ba Ab Bb:Option Addr}{na ca ma da nb cb mb db:Nat}{w:World}(hs:SumC g w)(ha:FV w a sa Aa na ta Ba ma)(hb:FV w b sb Ab nb tb Bb mb)(la:fl a<=256)(lb:fl b<=256)(lr:fl (a+b)<=256):
  Calls Tryz.prog 91 #[.pointer (some ⟨g,0,none⟩),.agg (qf4 sa Aa na ca ta Ba ma da),.agg (qf4 sb Ab nb cb tb Bb mb db)] w (FR (a+b) w):=by
 have Hhs:=Lib.hid hs;clear hs;have hE:=((((Env.start w).fv ha).fv hb).blk 29 (qf4 sa Aa na ca ta Ba ma da) (g:=w.heap.size) rfl).blk 29 (qf4 sb Ab nb cb tb Bb mb db) (g:=w.heap.size+1) (by simp);have hE:=hE.blk 29 qz4 (g:=w.heap.size+1+1) (by simp)
 obtain⟨W0,hW0⟩:∃W0,W0=(((w.alloc (.cells (qf4 sa Aa na ca ta Ba ma da) 29)).alloc (.cells (qf4 sb Ab nb cb tb Bb mb db) 29)).alloc (.cells qz4 29)):=⟨_,rfl⟩
 rw[<-hW0] at hE;have HW0:=Lib.hid hW0;clear hW0
 go_enter Tryz.func91,Tryz.ntmps91
 go_upto_region 1 with(fail)
 rw[<-HW0.out];obtain⟨k1,k2,k3,k4⟩:=(hE.h2).c4;obtain⟨k5,k6,k7,k8⟩:=(hE.here.1.2).c4;go_wp2_with fail
 refine hE.fr (eadd_do (ca:=ca) (da:=da) (cb:=cb) (db:=db) (Hhs.out.below hE.bel) hE.h4 hE.h3 la lb lr) ?_;clear hE k1 k2 k3 k4 k5 k6 k7 k8;intro sr Ar nr cr tr Br mr dr w9 hE
 have hRl:w.heap.size<=w.heap.size+1+1:=by omega
 obtain⟨WW,hWW,hB,hV,hBel⟩:=ret_frac hE hE.here.1.2 hRl hE.here.2 cr dr;obtain⟨x0,x1,x2,x3⟩:=(hE.here.1.2).c4;obtain⟨fz0,fz1,fz2,fz3⟩:=hE.here.1.2.f4;have HWW:=Lib.hid hWW;clear hWW;go_wp2_with fail
 clear x0 x1 x2 x3;rw[<-HWW.out];obtain⟨y0,y1,y2,y3⟩:=hB.c4;refine bodyPost_ret (v:= .agg (qf4 sr Ar nr cr tr Br mr dr)) (by simp[results,Tryz.results91,go_sem,y0,y1,y2,y3]) rfl ?_;exact⟨sr,Ar,nr,cr,tr,Br,mr,dr,rfl,hV,hBel⟩
theorem esub_do {g:Nat}{a b:Rat}{sa ta sb tb:Bool}{Aa Ba Ab Bb:Option Addr}{na ca ma da nb cb mb db:Nat}{w:World}(hs:SumC g w)(ha:FV w a sa Aa na ta Ba ma)(hb:FV w b sb Ab nb tb Bb mb)(la:fl a<=256)(lb:fl b<=256)(lr:fl (a-b)<=256):
  Calls Tryz.prog 131 #[.pointer (some ⟨g,0,none⟩),.func (.func 72) #[] #[],.agg (qf4 sa Aa na ca ta Ba ma da),.agg (qf4 sb Ab nb cb tb Bb mb db)] w (FR (a-b) w):=by
 have Hhs:=Lib.hid hs;clear hs;have hE:=((((Env.start w).fv ha).fv hb).blk 29 (qf4 sa Aa na ca ta Ba ma da) (g:=w.heap.size) rfl).blk 29 (qf4 sb Ab nb cb tb Bb mb db) (g:=w.heap.size+1) (by simp);have hE:=hE.blk 29 qz4 (g:=w.heap.size+1+1) (by simp)
 obtain⟨W0,hW0⟩:∃W0,W0=(((w.alloc (.cells (qf4 sa Aa na ca ta Ba ma da) 29)).alloc (.cells (qf4 sb Ab nb cb tb Bb mb db) 29)).alloc (.cells qz4 29)):=⟨_,rfl⟩
 rw[<-hW0] at hE;have HW0:=Lib.hid hW0;clear hW0
 go_enter Tryz.func131,Tryz.ntmps131
 go_upto_region 1 with(fail)
 rw[<-HW0.out];have s0:=(Hhs.out.below hE.bel).cell;obtain⟨k1,k2,k3,k4⟩:=(hE.h2).c4;obtain⟨k5,k6,k7,k8⟩:=(hE.here.1.2).c4;go_wp2_with fail
 refine hE.fr (fsub_v (ca:=ca) (da:=da) (cb:=cb) (db:=db) hE.h4 hE.h3 la lb lr) ?_;clear hE k1 k2 k3 k4 k5 k6 k7 k8;intro sr Ar nr cr tr Br mr dr w9 hE;clear s0
 go_upto_region 4 with(fail)
 obtain⟨g10,hg10⟩:∃g10,g10=w9.heap.size:=⟨_,rfl⟩
 have hl10_2:w.heap.size<g10:=by rw[hg10];exact(hE.h3).lt
 have hl10_3:w.heap.size+1<g10:=by rw[hg10];exact(hE.h2).lt
 have hl10_4:w.heap.size+1+1<g10:=by rw[hg10];exact(hE.here.1.2).lt
 replace hE:=hE.blk 29 (qf4 sr Ar nr cr tr Br mr dr) (g:=g10) hg10.symm;generalize w9.alloc (.cells (qf4 sr Ar nr cr tr Br mr dr) 29)=W10 at hE⊢;rw[<-hg10];clear hg10;have s0:=(Hhs.out.below hE.bel).cell;have s1:=(Hhs.out.below hE.bel).frozen
 go_upto_region 5 with(fail)
 rw[setCell_self s0];clear s0 s1;obtain⟨k11,k12,k13,k14⟩:=(hE.here.2).c4
 have hRl:w.heap.size<=w.heap.size+1+1:=by omega
 obtain⟨WW,hWW,hB,hV,hBel⟩:=ret_frac hE hE.h2 hRl hE.here.1.2 cr dr;obtain⟨x0,x1,x2,x3⟩:=(hE.h2).c4;obtain⟨fz0,fz1,fz2,fz3⟩:=hE.h2.f4;have HWW:=Lib.hid hWW;clear hWW;go_wp2_with fail
 clear k11 k12 k13 k14;rw[<-HWW.out];obtain⟨y0,y1,y2,y3⟩:=hB.c4;refine bodyPost_ret (v:= .agg (qf4 sr Ar nr cr tr Br mr dr)) (by simp[results,Tryz.results131,go_sem,y0,y1,y2,y3]) rfl ?_;exact⟨sr,Ar,nr,cr,tr,Br,mr,dr,rfl,hV,hBel⟩
theorem esub_v {g:Nat}{a b:Rat}{sa ta sb tb:Bool}{Aa Ba Ab Bb:Option Addr}{na ca ma da nb cb mb db:Nat}{w:World}(hs:SumC g w)(ha:FV w a sa Aa na ta Ba ma)(hb:FV w b sb Ab nb tb Bb mb)(la:fl a<=256)(lb:fl b<=256)(lr:fl (a-b)<=256):
  Calls Tryz.prog 97 #[.pointer (some ⟨g,0,none⟩),.agg (qf4 sa Aa na ca ta Ba ma da),.agg (qf4 sb Ab nb cb tb Bb mb db)] w (FR (a-b) w):=by
 have Hhs:=Lib.hid hs;clear hs;have hE:=((((Env.start w).fv ha).fv hb).blk 29 (qf4 sa Aa na ca ta Ba ma da) (g:=w.heap.size) rfl).blk 29 (qf4 sb Ab nb cb tb Bb mb db) (g:=w.heap.size+1) (by simp);have hE:=hE.blk 29 qz4 (g:=w.heap.size+1+1) (by simp)
 obtain⟨W0,hW0⟩:∃W0,W0=(((w.alloc (.cells (qf4 sa Aa na ca ta Ba ma da) 29)).alloc (.cells (qf4 sb Ab nb cb tb Bb mb db) 29)).alloc (.cells qz4 29)):=⟨_,rfl⟩
 rw[<-hW0] at hE;have HW0:=Lib.hid hW0;clear hW0
 go_enter Tryz.func97,Tryz.ntmps97
 go_upto_region 1 with(fail)
 rw[<-HW0.out];obtain⟨k1,k2,k3,k4⟩:=(hE.h2).c4;obtain⟨k5,k6,k7,k8⟩:=(hE.here.1.2).c4;go_wp2_with fail
 refine hE.fr (esub_do (ca:=ca) (da:=da) (cb:=cb) (db:=db) (Hhs.out.below hE.bel) hE.h4 hE.h3 la lb lr) ?_;clear hE k1 k2 k3 k4 k5 k6 k7 k8;intro sr Ar nr cr tr Br mr dr w9 hE
 have hRl:w.heap.size<=w.heap.size+1+1:=by omega
 obtain⟨WW,hWW,hB,hV,hBel⟩:=ret_frac hE hE.here.1.2 hRl hE.here.2 cr dr;obtain⟨x0,x1,x2,x3⟩:=(hE.here.1.2).c4;obtain⟨fz0,fz1,fz2,fz3⟩:=hE.here.1.2.f4;have HWW:=Lib.hid hWW;clear hWW;go_wp2_with fail
 clear x0 x1 x2 x3;rw[<-HWW.out];obtain⟨y0,y1,y2,y3⟩:=hB.c4;refine bodyPost_ret (v:= .agg (qf4 sr Ar nr cr tr Br mr dr)) (by simp[results,Tryz.results97,go_sem,y0,y1,y2,y3]) rfl ?_;exact⟨sr,Ar,nr,cr,tr,Br,mr,dr,rfl,hV,hBel⟩
theorem emul_do {g:Nat}{a b:Rat}{sa ta sb tb:Bool}{Aa Ba Ab Bb:Option Addr}{na ca ma da nb cb mb db:Nat}{w:World}(hs:SumC g w)(ha:FV w a sa Aa na ta Ba ma)(hb:FV w b sb Ab nb tb Bb mb)(la:fl a<=256)(lb:fl b<=256)(lr:fl (a*b)<=256):
  Calls Tryz.prog 131 #[.pointer (some ⟨g,0,none⟩),.func (.func 78) #[] #[],.agg (qf4 sa Aa na ca ta Ba ma da),.agg (qf4 sb Ab nb cb tb Bb mb db)] w (FR (a*b) w):=by
 have Hhs:=Lib.hid hs;clear hs;have hE:=((((Env.start w).fv ha).fv hb).blk 29 (qf4 sa Aa na ca ta Ba ma da) (g:=w.heap.size) rfl).blk 29 (qf4 sb Ab nb cb tb Bb mb db) (g:=w.heap.size+1) (by simp);have hE:=hE.blk 29 qz4 (g:=w.heap.size+1+1) (by simp)
 obtain⟨W0,hW0⟩:∃W0,W0=(((w.alloc (.cells (qf4 sa Aa na ca ta Ba ma da) 29)).alloc (.cells (qf4 sb Ab nb cb tb Bb mb db) 29)).alloc (.cells qz4 29)):=⟨_,rfl⟩
 rw[<-hW0] at hE;have HW0:=Lib.hid hW0;clear hW0
 go_enter Tryz.func131,Tryz.ntmps131
 go_upto_region 1 with(fail)
 rw[<-HW0.out];have s0:=(Hhs.out.below hE.bel).cell;obtain⟨k1,k2,k3,k4⟩:=(hE.h2).c4;obtain⟨k5,k6,k7,k8⟩:=(hE.here.1.2).c4;go_wp2_with fail
 refine hE.fr (fmul_v (ca:=ca) (da:=da) (cb:=cb) (db:=db) hE.h4 hE.h3 la lb lr) ?_;clear hE k1 k2 k3 k4 k5 k6 k7 k8;intro sr Ar nr cr tr Br mr dr w9 hE;clear s0
 go_upto_region 4 with(fail)
 obtain⟨g10,hg10⟩:∃g10,g10=w9.heap.size:=⟨_,rfl⟩
 have hl10_2:w.heap.size<g10:=by rw[hg10];exact(hE.h3).lt
 have hl10_3:w.heap.size+1<g10:=by rw[hg10];exact(hE.h2).lt
 have hl10_4:w.heap.size+1+1<g10:=by rw[hg10];exact(hE.here.1.2).lt
 replace hE:=hE.blk 29 (qf4 sr Ar nr cr tr Br mr dr) (g:=g10) hg10.symm;generalize w9.alloc (.cells (qf4 sr Ar nr cr tr Br mr dr) 29)=W10 at hE⊢;rw[<-hg10];clear hg10;have s0:=(Hhs.out.below hE.bel).cell;have s1:=(Hhs.out.below hE.bel).frozen
 go_upto_region 5 with(fail)
 rw[setCell_self s0];clear s0 s1;obtain⟨k11,k12,k13,k14⟩:=(hE.here.2).c4
 have hRl:w.heap.size<=w.heap.size+1+1:=by omega
 obtain⟨WW,hWW,hB,hV,hBel⟩:=ret_frac hE hE.h2 hRl hE.here.1.2 cr dr;obtain⟨x0,x1,x2,x3⟩:=(hE.h2).c4;obtain⟨fz0,fz1,fz2,fz3⟩:=hE.h2.f4;have HWW:=Lib.hid hWW;clear hWW;go_wp2_with fail
 clear k11 k12 k13 k14;rw[<-HWW.out];obtain⟨y0,y1,y2,y3⟩:=hB.c4;refine bodyPost_ret (v:= .agg (qf4 sr Ar nr cr tr Br mr dr)) (by simp[results,Tryz.results131,go_sem,y0,y1,y2,y3]) rfl ?_;exact⟨sr,Ar,nr,cr,tr,Br,mr,dr,rfl,hV,hBel⟩
theorem emul_v {g:Nat}{a b:Rat}{sa ta sb tb:Bool}{Aa Ba Ab Bb:Option Addr}{na ca ma da nb cb mb db:Nat}{w:World}(hs:SumC g w)(ha:FV w a sa Aa na ta Ba ma)(hb:FV w b sb Ab nb tb Bb mb)(la:fl a<=256)(lb:fl b<=256)(lr:fl (a*b)<=256):
  Calls Tryz.prog 141 #[.pointer (some ⟨g,0,none⟩),.agg (qf4 sa Aa na ca ta Ba ma da),.agg (qf4 sb Ab nb cb tb Bb mb db)] w (FR (a*b) w):=by
 have Hhs:=Lib.hid hs;clear hs;have hE:=((((Env.start w).fv ha).fv hb).blk 29 (qf4 sa Aa na ca ta Ba ma da) (g:=w.heap.size) rfl).blk 29 (qf4 sb Ab nb cb tb Bb mb db) (g:=w.heap.size+1) (by simp);have hE:=hE.blk 29 qz4 (g:=w.heap.size+1+1) (by simp)
 obtain⟨W0,hW0⟩:∃W0,W0=(((w.alloc (.cells (qf4 sa Aa na ca ta Ba ma da) 29)).alloc (.cells (qf4 sb Ab nb cb tb Bb mb db) 29)).alloc (.cells qz4 29)):=⟨_,rfl⟩
 rw[<-hW0] at hE;have HW0:=Lib.hid hW0;clear hW0
 go_enter Tryz.func141,Tryz.ntmps141
 go_upto_region 1 with(fail)
 rw[<-HW0.out];obtain⟨k1,k2,k3,k4⟩:=(hE.h2).c4;obtain⟨k5,k6,k7,k8⟩:=(hE.here.1.2).c4;go_wp2_with fail
 refine hE.fr (emul_do (ca:=ca) (da:=da) (cb:=cb) (db:=db) (Hhs.out.below hE.bel) hE.h4 hE.h3 la lb lr) ?_;clear hE k1 k2 k3 k4 k5 k6 k7 k8;intro sr Ar nr cr tr Br mr dr w9 hE
 have hRl:w.heap.size<=w.heap.size+1+1:=by omega
 obtain⟨WW,hWW,hB,hV,hBel⟩:=ret_frac hE hE.here.1.2 hRl hE.here.2 cr dr;obtain⟨x0,x1,x2,x3⟩:=(hE.here.1.2).c4;obtain⟨fz0,fz1,fz2,fz3⟩:=hE.here.1.2.f4;have HWW:=Lib.hid hWW;clear hWW;go_wp2_with fail
 clear x0 x1 x2 x3;rw[<-HWW.out];obtain⟨y0,y1,y2,y3⟩:=hB.c4;refine bodyPost_ret (v:= .agg (qf4 sr Ar nr cr tr Br mr dr)) (by simp[results,Tryz.results141,go_sem,y0,y1,y2,y3]) rfl ?_;exact⟨sr,Ar,nr,cr,tr,Br,mr,dr,rfl,hV,hBel⟩
theorem eisZero_v {a:Rat}{sa ta:Bool}{Aa Ba:Option Addr}{na ca ma da:Nat}{w:World}(ha:FV w a sa Aa na ta Ba ma):
  Calls Tryz.prog 143 #[.agg (qf4 sa Aa na ca ta Ba ma da)] w (BoolIff (a.num=0) w):=by
 have hn:na=0↔a.num=0:=by rw[ha.1.len,ln_eq_zero b16_two];omega
 have hE:=((Env.start w).fv ha).blk 29 (qf4 sa Aa na ca ta Ba ma da) (g:=w.heap.size) rfl
 obtain⟨W0,hW0⟩:∃W0,W0=(w.alloc (.cells (qf4 sa Aa na ca ta Ba ma da) 29)):=⟨_,rfl⟩
 rw[<-hW0] at hE;have HW0:=Lib.hid hW0;clear hW0
 go_enter Tryz.func143,Tryz.ntmps143
 go_upto_region 1 with(fail)
 rw[<-HW0.out];obtain⟨k1,k2,k3,k4⟩:=(hE.here.2).c4;go_wp2_with fail
 go_ret
 refine⟨_,rfl, ?_,hE.bel⟩;rw[<-hn];simp
theorem eamount_v {A:Option Addr}{n c:Nat}{l:Nat->Int}{w:World}(hl:RdI A n l w)(hb:∀k,k<n->-9223372036854775808<=l k/\l k<=9223372036854775807)(k:Nat)(_:k<=9223372036854775807):
  Calls Tryz.prog 139 #[.slice A n c,.int .i64 (k:Int)] w (FR (amt l n k) w):=by
 by_cases hkn:k<n
 ·
  rw[show amt l n k=((l k:Int):Rat) from if_pos hkn];obtain⟨b,o,rfl,ha⟩:=hl k hkn;obtain⟨z1,z2⟩:=hb k hkn;have t1:decide ((k:Int)<(n:Int))=true:=decide_eq_true (by omega)
  have t2:(k:Int)<(n:Int):=by omega
  obtain⟨x,hx⟩:∃x,x=l k:=⟨_,rfl⟩
  rw[<-hx] at ha z1 z2⊢;have Hhl:=Lib.hid hl;clear hl;have Hhb:=Lib.hid hb;clear hb;have Hha:=Lib.hid ha;clear ha;have Hhx:=Lib.hid hx;clear hx;have hE:=Env.start w;have hE:=hE.blk 29 qz4 (g:=w.heap.size) rfl
  obtain⟨W0,hW0⟩:∃W0,W0=(w.alloc (.cells qz4 29)):=⟨_,rfl⟩
  rw[<-hW0] at hE;have HW0:=Lib.hid hW0;clear hW0
  go_enter Tryz.func139,Tryz.ntmps139
  go_upto_region 1 with(fail)
  rw[<-HW0.out];have k1:=(At.stable _ _ _ _ _ hE.bel Hha.out).2;go_wp2_with fail
  refine hE.fr (ffromInt_v x _ z1 z2) ?_;clear hE k1;intro sz Az nz cz tz Bz mz dz w2 hE
  have hRl:w.heap.size<=w.heap.size:=by omega
  obtain⟨WW,hWW,hB,hV,hBel⟩:=ret_frac hE hE.here.1.2 hRl hE.here.2 cz dz;obtain⟨x0,x1,x2,x3⟩:=(hE.here.1.2).c4;obtain⟨fz0,fz1,fz2,fz3⟩:=hE.here.1.2.f4;have HWW:=Lib.hid hWW;clear hWW;go_wp2_with fail
  clear x0 x1 x2 x3;rw[<-HWW.out];obtain⟨y0,y1,y2,y3⟩:=hB.c4;refine bodyPost_ret (v:= .agg (qf4 sz Az nz cz tz Bz mz dz)) (by simp[results,Tryz.results139,go_sem,y0,y1,y2,y3]) rfl ?_;exact⟨sz,Az,nz,cz,tz,Bz,mz,dz,rfl,hV,hBel⟩
 ·
  rw[show amt l n k=((0:Int):Rat) from if_neg hkn];have t1:decide ((k:Int)<(n:Int))=false:=decide_eq_false (by omega)
  have t2:¬(k:Int)<(n:Int):=by omega
  have Hhl:=Lib.hid hl;clear hl;have Hhb:=Lib.hid hb;clear hb;have hE:=Env.start w;have hE:=hE.blk 29 qz4 (g:=w.heap.size) rfl
  obtain⟨W0,hW0⟩:∃W0,W0=(w.alloc (.cells qz4 29)):=⟨_,rfl⟩
  rw[<-hW0] at hE;have HW0:=Lib.hid hW0;clear hW0
  go_enter Tryz.func139,Tryz.ntmps139
  go_upto_region 1 with(fail)
  rw[<-HW0.out];go_wp2_with fail
  refine hE.fr (ffromInt_v 0 _ (by decide) (by decide)) ?_;clear hE;intro sz Az nz cz tz Bz mz dz w1 hE
  have hRl:w.heap.size<=w.heap.size:=by omega
  obtain⟨WW,hWW,hB,hV,hBel⟩:=ret_frac hE hE.here.1.2 hRl hE.here.2 cz dz;obtain⟨x0,x1,x2,x3⟩:=(hE.here.1.2).c4;obtain⟨fz0,fz1,fz2,fz3⟩:=hE.here.1.2.f4;have HWW:=Lib.hid hWW;clear hWW;go_wp2_with fail
  clear x0 x1 x2 x3;rw[<-HWW.out];obtain⟨y0,y1,y2,y3⟩:=hB.c4;refine bodyPost_ret (v:= .agg (qf4 sz Az nz cz tz Bz mz dz)) (by simp[results,Tryz.results139,go_sem,y0,y1,y2,y3]) rfl ?_;exact⟨sz,Az,nz,cz,tz,Bz,mz,dz,rfl,hV,hBel⟩
end Go.Proofs.YtclbiihcbfnjmaaGreat
