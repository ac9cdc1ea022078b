/-
  Parts.
-/
import Derived.Test.YtclbiihcbfnjmaaGreatK14
set_option linter.unusedSimpArgs false
set_option maxRecDepth 100000
set_option maxHeartbeats 2000000
namespace Go.Proofs.YtclbiihcbfnjmaaGreat
open Go.RowKit

theorem oB {a b:Rat}{sa ta sb tb:Bool}{Aa Ba Ab Bb:Option Addr}{na ca ma da nb cb mb db:Nat}{w:World}(ha:FV w a sa Aa na ta Ba ma)(hb:FV w b sb Ab nb tb Bb mb)(la:fl a<=256)(lb:fl b<=256)(lr:fl (a+b)<=256):
  Calls Tryz.prog 42 #[.agg (az sa Aa na ca ta Ba ma da),.agg (az sb Ab nb cb tb Bb mb db)] w (FR (a+b) w):=by
 have hE:=((((Env.start w).fv ha).fv hb).blk 29 (az sa Aa na ca ta Ba ma da) (g:=w.heap.size) rfl).blk 29 (az sb Ab nb cb tb Bb mb db) (g:=w.heap.size+1) (by simp);have hE:=hE.blk 29 aY (g:=w.heap.size+1+1) (by simp)
 obtain⟨W0,aC⟩:∃W0,W0=(((w.alloc (.cells (az sa Aa na ca ta Ba ma da) 29)).alloc (.cells (az sb Ab nb cb tb Bb mb db) 29)).alloc (.cells aY 29)):=⟨_,rfl⟩
 rw[<-aC] at hE;have aU:=Lib.hid aC;clear aC
 go_enter Tryz.func42,Tryz.ntmps42
 go_upto_region 1 with(fail)
 rw[<-aU.out];obtain⟨k1,k2,k3,k4⟩:=(hE.h2).c4;obtain⟨k5,k6,k7,k8⟩:=(hE.here.1.2).c4;go_wp2_with fail
 refine hE.fr (yl (ca:=ca) (da:=da) (cb:=cb) (db:=db) hE.h4 hE.h3 la lb lr) ?_;clear hE k1 k2 k3 k4 k5 k6 k7 k8;intro sr Ar nr cr tr Br mr dr w9 hE
 go_upto_region 2 with(fail)
 obtain⟨g10,aX⟩:∃g10,g10=w9.heap.size:=⟨_,rfl⟩
 have fG:w.heap.size<g10:=by rw[aX];exact(hE.h3).lt
 have eX:w.heap.size+1<g10:=by rw[aX];exact(hE.h2).lt
 have fV:w.heap.size+1+1<g10:=by rw[aX];exact(hE.here.1.2).lt
 replace hE:=hE.blk 29 (az sr Ar nr cr tr Br mr dr) (g:=g10) aX.symm;generalize w9.alloc (.cells (az sr Ar nr cr tr Br mr dr) 29)=uV at hE⊢;rw[<-aX];clear aX;obtain⟨cS,cZ,dG,dN⟩:=(hE.here.2).c4
 have cA:w.heap.size<=w.heap.size+1+1:=by omega
 obtain⟨WW,bn,hB,hV,aQ⟩:=aO hE hE.h2 cA hE.here.1.2 cr dr;obtain⟨x0,x1,x2,x3⟩:=(hE.h2).c4;obtain⟨fQ,fR,gJ,gK⟩:=hE.h2.f4;have bJ:=Lib.hid bn;clear bn;go_wp2_with fail
 clear cS cZ dG dN;rw[<-bJ.out];obtain⟨y0,y1,y2,y3⟩:=hB.c4;refine bodyPost_ret (v:= .agg (az sr Ar nr cr tr Br mr dr)) (by simp[results,Tryz.results42,go_sem,y0,y1,y2,y3]) rfl ?_;exact⟨sr,Ar,nr,cr,tr,Br,mr,dr,rfl,hV,aQ⟩
theorem EM {a b:Rat}{sa ta sb tb:Bool}{Aa Ba Ab Bb:Option Addr}{na ca ma da nb cb mb db:Nat}{w:World}(ha:FV w a sa Aa na ta Ba ma)(hb:FV w b sb Ab nb tb Bb mb)(la:fl a<=256)(lb:fl b<=256)(lr:fl (a*b)<=256):
  Calls Tryz.prog 45 #[.agg (az sa Aa na ca ta Ba ma da),.agg (az sb Ab nb cb tb Bb mb db)] w (FR (a*b) w):=by
 have hE:=((((Env.start w).fv ha).fv hb).blk 29 (az sa Aa na ca ta Ba ma da) (g:=w.heap.size) rfl).blk 29 (az sb Ab nb cb tb Bb mb db) (g:=w.heap.size+1) (by simp);have hE:=hE.blk 29 aY (g:=w.heap.size+1+1) (by simp)
 obtain⟨W0,aC⟩:∃W0,W0=(((w.alloc (.cells (az sa Aa na ca ta Ba ma da) 29)).alloc (.cells (az sb Ab nb cb tb Bb mb db) 29)).alloc (.cells aY 29)):=⟨_,rfl⟩
 rw[<-aC] at hE;have aU:=Lib.hid aC;clear aC
 go_enter Tryz.func45,Tryz.ntmps45
 go_upto_region 1 with(fail)
 rw[<-aU.out];obtain⟨k1,k2,k3,k4⟩:=(hE.h2).c4;obtain⟨k5,k6,k7,k8⟩:=(hE.here.1.2).c4;go_wp2_with fail
 refine hE.fr (tH (ca:=ca) (da:=da) (cb:=cb) (db:=db) hE.h4 hE.h3 la lb lr) ?_;clear hE k1 k2 k3 k4 k5 k6 k7 k8;intro sr Ar nr cr tr Br mr dr w9 hE
 go_upto_region 2 with(fail)
 obtain⟨g10,aX⟩:∃g10,g10=w9.heap.size:=⟨_,rfl⟩
 have fG:w.heap.size<g10:=by rw[aX];exact(hE.h3).lt
 have eX:w.heap.size+1<g10:=by rw[aX];exact(hE.h2).lt
 have fV:w.heap.size+1+1<g10:=by rw[aX];exact(hE.here.1.2).lt
 replace hE:=hE.blk 29 (az sr Ar nr cr tr Br mr dr) (g:=g10) aX.symm;generalize w9.alloc (.cells (az sr Ar nr cr tr Br mr dr) 29)=uV at hE⊢;rw[<-aX];clear aX;obtain⟨cS,cZ,dG,dN⟩:=(hE.here.2).c4
 have cA:w.heap.size<=w.heap.size+1+1:=by omega
 obtain⟨WW,bn,hB,hV,aQ⟩:=aO hE hE.h2 cA hE.here.1.2 cr dr;obtain⟨x0,x1,x2,x3⟩:=(hE.h2).c4;obtain⟨fQ,fR,gJ,gK⟩:=hE.h2.f4;have bJ:=Lib.hid bn;clear bn;go_wp2_with fail
 clear cS cZ dG dN;rw[<-bJ.out];obtain⟨y0,y1,y2,y3⟩:=hB.c4;refine bodyPost_ret (v:= .agg (az sr Ar nr cr tr Br mr dr)) (by simp[results,Tryz.results45,go_sem,y0,y1,y2,y3]) rfl ?_;exact⟨sr,Ar,nr,cr,tr,Br,mr,dr,rfl,hV,aQ⟩
theorem sS {a b:Rat}{sa ta sb tb:Bool}{Aa Ba Ab Bb:Option Addr}{na ca ma da nb cb mb db:Nat}{w:World}(ha:FV w a sa Aa na ta Ba ma)(hb:FV w b sb Ab nb tb Bb mb)(la:fl a<=256)(lb:fl b<=256)(lr:fl (a-b)<=256):
  Calls Tryz.prog 41 #[.agg (az sa Aa na ca ta Ba ma da),.agg (az sb Ab nb cb tb Bb mb db)] w (FR (a-b) w):=by
 have hE:=((((Env.start w).fv ha).fv hb).blk 29 (az sa Aa na ca ta Ba ma da) (g:=w.heap.size) rfl).blk 29 (az sb Ab nb cb tb Bb mb db) (g:=w.heap.size+1) (by simp);have hE:=hE.blk 29 aY (g:=w.heap.size+1+1) (by simp)
 obtain⟨W0,aC⟩:∃W0,W0=(((w.alloc (.cells (az sa Aa na ca ta Ba ma da) 29)).alloc (.cells (az sb Ab nb cb tb Bb mb db) 29)).alloc (.cells aY 29)):=⟨_,rfl⟩
 rw[<-aC] at hE;have aU:=Lib.hid aC;clear aC
 go_enter Tryz.func41,Tryz.ntmps41
 go_upto_region 1 with(fail)
 rw[<-aU.out];obtain⟨k1,k2,k3,k4⟩:=(hE.h2).c4;obtain⟨k5,k6,k7,k8⟩:=(hE.here.1.2).c4;go_wp2_with fail
 refine hE.fr (tG (ca:=ca) (da:=da) (cb:=cb) (db:=db) hE.h4 hE.h3 la lb lr) ?_;clear hE k1 k2 k3 k4 k5 k6 k7 k8;intro sr Ar nr cr tr Br mr dr w9 hE
 go_upto_region 2 with(fail)
 obtain⟨g10,aX⟩:∃g10,g10=w9.heap.size:=⟨_,rfl⟩
 have fG:w.heap.size<g10:=by rw[aX];exact(hE.h3).lt
 have eX:w.heap.size+1<g10:=by rw[aX];exact(hE.h2).lt
 have fV:w.heap.size+1+1<g10:=by rw[aX];exact(hE.here.1.2).lt
 replace hE:=hE.blk 29 (az sr Ar nr cr tr Br mr dr) (g:=g10) aX.symm;generalize w9.alloc (.cells (az sr Ar nr cr tr Br mr dr) 29)=uV at hE⊢;rw[<-aX];clear aX;obtain⟨cS,cZ,dG,dN⟩:=(hE.here.2).c4
 have cA:w.heap.size<=w.heap.size+1+1:=by omega
 obtain⟨WW,bn,hB,hV,aQ⟩:=aO hE hE.h2 cA hE.here.1.2 cr dr;obtain⟨x0,x1,x2,x3⟩:=(hE.h2).c4;obtain⟨fQ,fR,gJ,gK⟩:=hE.h2.f4;have bJ:=Lib.hid bn;clear bn;go_wp2_with fail
 clear cS cZ dG dN;rw[<-bJ.out];obtain⟨y0,y1,y2,y3⟩:=hB.c4;refine bodyPost_ret (v:= .agg (az sr Ar nr cr tr Br mr dr)) (by simp[results,Tryz.results41,go_sem,y0,y1,y2,y3]) rfl ?_;exact⟨sr,Ar,nr,cr,tr,Br,mr,dr,rfl,hV,aQ⟩
theorem fB (n d:Int)(w:World)(h1:-9223372036854775808<=n)(h2:n<=9223372036854775807)(h3:-9223372036854775808<=d)(h4:d<=9223372036854775807)(hd:d≠0):
  Calls Tryz.prog 130 #[.int .i64 n,.int .i64 d] w (FR (Rat.divInt n d) w):=by
 have hE:=Env.start w;have hE:=hE.blk 29 aY (g:=w.heap.size) rfl
 obtain⟨W0,aC⟩:∃W0,W0=(w.alloc (.cells aY 29)):=⟨_,rfl⟩
 rw[<-aC] at hE;have aU:=Lib.hid aC;clear aC
 go_enter Tryz.func130,Tryz.ntmps130
 go_upto_region 1 with(fail)
 rw[<-aU.out];go_wp2_with fail
 refine hE.fr (N7 n d W0 h1 h2 h3 h4 hd) ?_;clear hE;intro sf Af nf cf tf Bf mf df w1 hE
 have cA:w.heap.size<=w.heap.size:=by omega
 obtain⟨WW,bn,hB,hV,aQ⟩:=aO hE hE.here.1.2 cA hE.here.2 cf df;obtain⟨x0,x1,x2,x3⟩:=(hE.here.1.2).c4;obtain⟨fQ,fR,gJ,gK⟩:=hE.here.1.2.f4;have bJ:=Lib.hid bn;clear bn;go_wp2_with fail
 rw[<-bJ.out];obtain⟨y0,y1,y2,y3⟩:=hB.c4;refine bodyPost_ret (v:= .agg (az sf Af nf cf tf Bf mf df)) (by simp[results,Tryz.results130,go_sem,y0,y1,y2,y3]) rfl ?_;exact⟨sf,Af,nf,cf,tf,Bf,mf,df,rfl,hV,aQ⟩
theorem ec {a b:Rat}{v:Bool}{sa ta sb tb:Bool}{Aa Ba Ab Bb:Option Addr}{na ca ma da nb cb mb db:Nat}{w:World}(ha:FV w a sa Aa na ta Ba ma)(hb:FV w b sb Ab nb tb Bb mb)(la:fl a<=256)(lb:fl b<=256)(h:decide (a=b)=v):
  Calls Tryz.prog 43 #[.agg (az sa Aa na ca ta Ba ma da),.agg (az sb Ab nb cb tb Bb mb db)] w (fun e w'=>e= .returned (.bool v)/\Below w.heap.size w w'):=by
 have hE:=((((Env.start w).fv ha).fv hb).blk 29 (az sa Aa na ca ta Ba ma da) (g:=w.heap.size) rfl).blk 29 (az sb Ab nb cb tb Bb mb db) (g:=w.heap.size+1) (by simp)
 obtain⟨W0,aC⟩:∃W0,W0=((w.alloc (.cells (az sa Aa na ca ta Ba ma da) 29)).alloc (.cells (az sb Ab nb cb tb Bb mb db) 29)):=⟨_,rfl⟩
 rw[<-aC] at hE;have aU:=Lib.hid aC;clear aC
 go_enter Tryz.func43,Tryz.ntmps43
 go_upto_region 1 with(fail)
 rw[<-aU.out];have l1:=(hE.h3).ln la;have l2:=(hE.h2).ln lb;obtain⟨k1,k2,k3,k4⟩:=(hE.here.1.2).c4;obtain⟨k5,k6,k7,k8⟩:=(hE.here.2).c4;go_wp2_with fail
 refine hE.br (mG (c:=ca) (d:=da) hE.h3 la) ?_;clear hE k1 k2 k3 k4 k5 k6 k7 k8;intro w9 hE;obtain⟨eG,cS,cZ,dG⟩:=(hE.here.1.2).c4;obtain⟨dN,fP,lC,nL⟩:=(hE.here.2).c4;go_wp2_with fail
 refine hE.br (mG (c:=cb) (d:=db) hE.h2 lb) ?_;clear hE eG cS cZ dG dN fP lC nL;intro w18 hE;obtain⟨lO,kI,og,mQ⟩:=(hE.here.1.2).c4;obtain⟨oh,oU,mS,lW⟩:=(hE.here.2).c4;go_wp2_with fail
 have hc:=AM (ca:=ca) (da:=da) (cb:=cb) (db:=db) hE.h3 hE.h2 (by omega) (by omega) (by omega) (by omega);rw[h] at hc;refine hc.mono ?_;clear hc;clear lO kI og mQ oh oU mS lW
 rintro e w9 ⟨rfl,hb⟩
 replace hE:=hE.step hb;go_wp2_with fail
 go_ret
 exact⟨rfl,hE.av⟩
end Go.Proofs.YtclbiihcbfnjmaaGreat
