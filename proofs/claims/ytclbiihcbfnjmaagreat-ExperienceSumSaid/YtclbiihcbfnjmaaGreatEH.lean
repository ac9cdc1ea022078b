/-
  Parts.
-/
import Derived.Test.YtclbiihcbfnjmaaGreatK8
import Derived.Test.YtclbiihcbfnjmaaGreatK14
import Derived.Test.YtclbiihcbfnjmaaGreatK11
set_option linter.unusedSimpArgs false
set_option maxRecDepth 100000
set_option maxHeartbeats 2000000
namespace Go.Proofs.YtclbiihcbfnjmaaGreat
open Go.RowKit

theorem ew_sum {a b:Rat}{sa ta sb tb:Bool}{Aa Ba Ab Bb:Option Addr}{na ca ma da nb cb mb db:Nat}{w:World}(ha:FV w a sa Aa na ta Ba ma)(hb:FV w b sb Ab nb tb Bb mb)(la:fl a<=256)(lb:fl b<=256)(lr:fl (a+b)<=256):
  Calls Tryz.prog 42 #[.agg (qf4 sa Aa na ca ta Ba ma da),.agg (qf4 sb Ab nb cb tb Bb mb db)] w (FR (a+b) w):=by
 have hE:=((((Env.start w).fv ha).fv hb).blk 29 (qf4 sa Aa na ca ta Ba ma da) (g:=w.heap.size) rfl).blk 29 (qf4 sb Ab nb cb tb Bb mb db) (g:=w.heap.size+1) (by simp);have hE:=hE.blk 29 qz4 (g:=w.heap.size+1+1) (by simp)
 obtain⟨W0,hW0⟩:∃W0,W0=(((w.alloc (.cells (qf4 sa Aa na ca ta Ba ma da) 29)).alloc (.cells (qf4 sb Ab nb cb tb Bb mb db) 29)).alloc (.cells qz4 29)):=⟨_,rfl⟩
 rw[<-hW0] at hE;have HW0:=Lib.hid hW0;clear hW0
 go_enter Tryz.func42,Tryz.ntmps42
 go_upto_region 1 with(fail)
 rw[<-HW0.out];obtain⟨k1,k2,k3,k4⟩:=(hE.h2).c4;obtain⟨k5,k6,k7,k8⟩:=(hE.here.1.2).c4;go_wp2_with fail
 refine hE.fr (fadd_v (ca:=ca) (da:=da) (cb:=cb) (db:=db) hE.h4 hE.h3 la lb lr) ?_;clear hE k1 k2 k3 k4 k5 k6 k7 k8;intro sr Ar nr cr tr Br mr dr w9 hE
 go_upto_region 2 with(fail)
 obtain⟨g10,hg10⟩:∃g10,g10=w9.heap.size:=⟨_,rfl⟩
 have hl10_2:w.heap.size<g10:=by rw[hg10];exact(hE.h3).lt
 have hl10_3:w.heap.size+1<g10:=by rw[hg10];exact(hE.h2).lt
 have hl10_4:w.heap.size+1+1<g10:=by rw[hg10];exact(hE.here.1.2).lt
 replace hE:=hE.blk 29 (qf4 sr Ar nr cr tr Br mr dr) (g:=g10) hg10.symm;generalize w9.alloc (.cells (qf4 sr Ar nr cr tr Br mr dr) 29)=W10 at hE⊢;rw[<-hg10];clear hg10;obtain⟨k11,k12,k13,k14⟩:=(hE.here.2).c4
 have hRl:w.heap.size<=w.heap.size+1+1:=by omega
 obtain⟨WW,hWW,hB,hV,hBel⟩:=ret_frac hE hE.h2 hRl hE.here.1.2 cr dr;obtain⟨x0,x1,x2,x3⟩:=(hE.h2).c4;obtain⟨fz0,fz1,fz2,fz3⟩:=hE.h2.f4;have HWW:=Lib.hid hWW;clear hWW;go_wp2_with fail
 clear k11 k12 k13 k14;rw[<-HWW.out];obtain⟨y0,y1,y2,y3⟩:=hB.c4;refine bodyPost_ret (v:= .agg (qf4 sr Ar nr cr tr Br mr dr)) (by simp[results,Tryz.results42,go_sem,y0,y1,y2,y3]) rfl ?_;exact⟨sr,Ar,nr,cr,tr,Br,mr,dr,rfl,hV,hBel⟩
theorem ew_less {a b:Rat}{sa ta sb tb:Bool}{Aa Ba Ab Bb:Option Addr}{na ca ma da nb cb mb db:Nat}{w:World}(ha:FV w a sa Aa na ta Ba ma)(hb:FV w b sb Ab nb tb Bb mb)(la:fl a<=256)(lb:fl b<=256)(lr:fl (a-b)<=256):
  Calls Tryz.prog 41 #[.agg (qf4 sa Aa na ca ta Ba ma da),.agg (qf4 sb Ab nb cb tb Bb mb db)] w (FR (a-b) w):=by
 have hE:=((((Env.start w).fv ha).fv hb).blk 29 (qf4 sa Aa na ca ta Ba ma da) (g:=w.heap.size) rfl).blk 29 (qf4 sb Ab nb cb tb Bb mb db) (g:=w.heap.size+1) (by simp);have hE:=hE.blk 29 qz4 (g:=w.heap.size+1+1) (by simp)
 obtain⟨W0,hW0⟩:∃W0,W0=(((w.alloc (.cells (qf4 sa Aa na ca ta Ba ma da) 29)).alloc (.cells (qf4 sb Ab nb cb tb Bb mb db) 29)).alloc (.cells qz4 29)):=⟨_,rfl⟩
 rw[<-hW0] at hE;have HW0:=Lib.hid hW0;clear hW0
 go_enter Tryz.func41,Tryz.ntmps41
 go_upto_region 1 with(fail)
 rw[<-HW0.out];obtain⟨k1,k2,k3,k4⟩:=(hE.h2).c4;obtain⟨k5,k6,k7,k8⟩:=(hE.here.1.2).c4;go_wp2_with fail
 refine hE.fr (fsub_v (ca:=ca) (da:=da) (cb:=cb) (db:=db) hE.h4 hE.h3 la lb lr) ?_;clear hE k1 k2 k3 k4 k5 k6 k7 k8;intro sr Ar nr cr tr Br mr dr w9 hE
 go_upto_region 2 with(fail)
 obtain⟨g10,hg10⟩:∃g10,g10=w9.heap.size:=⟨_,rfl⟩
 have hl10_2:w.heap.size<g10:=by rw[hg10];exact(hE.h3).lt
 have hl10_3:w.heap.size+1<g10:=by rw[hg10];exact(hE.h2).lt
 have hl10_4:w.heap.size+1+1<g10:=by rw[hg10];exact(hE.here.1.2).lt
 replace hE:=hE.blk 29 (qf4 sr Ar nr cr tr Br mr dr) (g:=g10) hg10.symm;generalize w9.alloc (.cells (qf4 sr Ar nr cr tr Br mr dr) 29)=W10 at hE⊢;rw[<-hg10];clear hg10;obtain⟨k11,k12,k13,k14⟩:=(hE.here.2).c4
 have hRl:w.heap.size<=w.heap.size+1+1:=by omega
 obtain⟨WW,hWW,hB,hV,hBel⟩:=ret_frac hE hE.h2 hRl hE.here.1.2 cr dr;obtain⟨x0,x1,x2,x3⟩:=(hE.h2).c4;obtain⟨fz0,fz1,fz2,fz3⟩:=hE.h2.f4;have HWW:=Lib.hid hWW;clear hWW;go_wp2_with fail
 clear k11 k12 k13 k14;rw[<-HWW.out];obtain⟨y0,y1,y2,y3⟩:=hB.c4;refine bodyPost_ret (v:= .agg (qf4 sr Ar nr cr tr Br mr dr)) (by simp[results,Tryz.results41,go_sem,y0,y1,y2,y3]) rfl ?_;exact⟨sr,Ar,nr,cr,tr,Br,mr,dr,rfl,hV,hBel⟩
theorem e_quick (n d:Int)(w:World)(h1:-9223372036854775808<=n)(h2:n<=9223372036854775807)(h3:-9223372036854775808<=d)(h4:d<=9223372036854775807)(hd:d≠0):
  Calls Tryz.prog 130 #[.int .i64 n,.int .i64 d] w (FR (Rat.divInt n d) w):=by
 have hE:=Env.start w;have hE:=hE.blk 29 qz4 (g:=w.heap.size) rfl
 obtain⟨W0,hW0⟩:∃W0,W0=(w.alloc (.cells qz4 29)):=⟨_,rfl⟩
 rw[<-hW0] at hE;have HW0:=Lib.hid hW0;clear hW0
 go_enter Tryz.func130,Tryz.ntmps130
 go_upto_region 1 with(fail)
 rw[<-HW0.out];go_wp2_with fail
 refine hE.fr (rquick_v n d W0 h1 h2 h3 h4 hd) ?_;clear hE;intro sf Af nf cf tf Bf mf df w1 hE
 have hRl:w.heap.size<=w.heap.size:=by omega
 obtain⟨WW,hWW,hB,hV,hBel⟩:=ret_frac hE hE.here.1.2 hRl hE.here.2 cf df;obtain⟨x0,x1,x2,x3⟩:=(hE.here.1.2).c4;obtain⟨fz0,fz1,fz2,fz3⟩:=hE.here.1.2.f4;have HWW:=Lib.hid hWW;clear hWW;go_wp2_with fail
 rw[<-HWW.out];obtain⟨y0,y1,y2,y3⟩:=hB.c4;refine bodyPost_ret (v:= .agg (qf4 sf Af nf cf tf Bf mf df)) (by simp[results,Tryz.results130,go_sem,y0,y1,y2,y3]) rfl ?_;exact⟨sf,Af,nf,cf,tf,Bf,mf,df,rfl,hV,hBel⟩
theorem ew_equal {a b:Rat}{v:Bool}{sa ta sb tb:Bool}{Aa Ba Ab Bb:Option Addr}{na ca ma da nb cb mb db:Nat}{w:World}(ha:FV w a sa Aa na ta Ba ma)(hb:FV w b sb Ab nb tb Bb mb)(la:fl a<=256)(lb:fl b<=256)(h:decide (a=b)=v):
  Calls Tryz.prog 43 #[.agg (qf4 sa Aa na ca ta Ba ma da),.agg (qf4 sb Ab nb cb tb Bb mb db)] w (fun e w'=>e= .returned (.bool v)/\Below w.heap.size w w'):=by
 have hE:=((((Env.start w).fv ha).fv hb).blk 29 (qf4 sa Aa na ca ta Ba ma da) (g:=w.heap.size) rfl).blk 29 (qf4 sb Ab nb cb tb Bb mb db) (g:=w.heap.size+1) (by simp)
 obtain⟨W0,hW0⟩:∃W0,W0=((w.alloc (.cells (qf4 sa Aa na ca ta Ba ma da) 29)).alloc (.cells (qf4 sb Ab nb cb tb Bb mb db) 29)):=⟨_,rfl⟩
 rw[<-hW0] at hE;have HW0:=Lib.hid hW0;clear hW0
 go_enter Tryz.func43,Tryz.ntmps43
 go_upto_region 1 with(fail)
 rw[<-HW0.out];have l1:=(hE.h3).ln la;have l2:=(hE.h2).ln lb;obtain⟨k1,k2,k3,k4⟩:=(hE.here.1.2).c4;obtain⟨k5,k6,k7,k8⟩:=(hE.here.2).c4;go_wp2_with fail
 refine hE.br (fvalid_v (c:=ca) (d:=da) hE.h3 la) ?_;clear hE k1 k2 k3 k4 k5 k6 k7 k8;intro w9 hE;obtain⟨k10,k11,k12,k13⟩:=(hE.here.1.2).c4;obtain⟨k14,k15,k16,k17⟩:=(hE.here.2).c4;go_wp2_with fail
 refine hE.br (fvalid_v (c:=cb) (d:=db) hE.h2 lb) ?_;clear hE k10 k11 k12 k13 k14 k15 k16 k17;intro w18 hE;obtain⟨k19,k20,k21,k22⟩:=(hE.here.1.2).c4;obtain⟨k23,k24,k25,k26⟩:=(hE.here.2).c4;go_wp2_with fail
 have hc:=frsame_v (ca:=ca) (da:=da) (cb:=cb) (db:=db) hE.h3 hE.h2 (by omega) (by omega) (by omega) (by omega);rw[h] at hc;refine hc.mono ?_;clear hc;clear k19 k20 k21 k22 k23 k24 k25 k26
 rintro e w9 ⟨rfl,hb⟩
 replace hE:=hE.step hb;go_wp2_with fail
 go_ret
 exact⟨rfl,hE.bel⟩
end Go.Proofs.YtclbiihcbfnjmaaGreat
