/-
  Parts.
-/
import Derived.Test.YtclbiihcbfnjmaaGreatK21
set_option linter.unusedSimpArgs false
set_option maxRecDepth 100000
set_option maxHeartbeats 4000000
namespace Go.Proofs.YtclbiihcbfnjmaaGreat
open Go.RowKit

def ji (g:Nat)(W:World):Prop:=∃t cs,ak t g cs W/\cs[0]?=some (.int .i64 0)
theorem ji.stable (g:Nat):bq (ji g):=fun _ _ hb ⟨t,cs,h1,h2⟩=>⟨t,cs,ak.stable _ _ _ _ _ hb h1,h2⟩
theorem ji.below {g:Nat}{w w':World}(h:ji g w)(hb:Below w.heap.size w w'):ji g w':=ji.stable g _ _ hb h
theorem ji.cell {g:Nat}{W:World}(h:ji g W):W.cell? ⟨g,0,none⟩=some (.int .i64 0):=by obtain⟨t,cs,h1,h2⟩:=h;rw[h1.cell];exact h2
theorem ji.frozen {g:Nat}{W:World}(h:ji g W):W.frozen? ⟨g,0,none⟩=false:=by obtain⟨t,cs,h1,_⟩:=h;exact h1.frozen 0
theorem Rn {g:Nat}{a b:Rat}{sa ta sb tb:Bool}{Aa Ba Ab Bb:Option Addr}{na ca ma da nb cb mb db:Nat}{w:World}(hs:ji g w)(ha:FV w a sa Aa na ta Ba ma)(hb:FV w b sb Ab nb tb Bb mb)(la:fl a<=256)(lb:fl b<=256)(lr:fl (a+b)<=256):
  Calls Tryz.prog 131 #[.pointer (some ⟨g,0,none⟩),.func (.func 77) #[] #[],.agg (az sa Aa na ca ta Ba ma da),.agg (az sb Ab nb cb tb Bb mb db)] w (FR (a+b) w):=by
 have yh:=Lib.hid hs;clear hs;have hE:=((((Env.start w).fv ha).fv hb).blk 29 (az sa Aa na ca ta Ba ma da) (g:=w.heap.size) rfl).blk 29 (az sb Ab nb cb tb Bb mb db) (g:=w.heap.size+1) (by simp);have hE:=hE.blk 29 aY (g:=w.heap.size+1+1) (by simp)
 obtain⟨W0,aC⟩:∃W0,W0=(((w.alloc (.cells (az sa Aa na ca ta Ba ma da) 29)).alloc (.cells (az sb Ab nb cb tb Bb mb db) 29)).alloc (.cells aY 29)):=⟨_,rfl⟩
 rw[<-aC] at hE;have aU:=Lib.hid aC;clear aC
 go_enter Tryz.func131,Tryz.ntmps131
 go_upto_region 1 with(fail)
 rw[<-aU.out];have s0:=(yh.out.below hE.av).cell;obtain⟨k1,k2,k3,k4⟩:=(hE.h2).c4;obtain⟨k5,k6,k7,k8⟩:=(hE.here.1.2).c4;go_wp2_with fail
 refine hE.fr (yl (ca:=ca) (da:=da) (cb:=cb) (db:=db) hE.h4 hE.h3 la lb lr) ?_;clear hE k1 k2 k3 k4 k5 k6 k7 k8;intro sr Ar nr cr tr Br mr dr w9 hE;clear s0
 go_upto_region 4 with(fail)
 obtain⟨g10,aX⟩:∃g10,g10=w9.heap.size:=⟨_,rfl⟩
 have fG:w.heap.size<g10:=by rw[aX];exact(hE.h3).lt
 have eX:w.heap.size+1<g10:=by rw[aX];exact(hE.h2).lt
 have fV:w.heap.size+1+1<g10:=by rw[aX];exact(hE.here.1.2).lt
 replace hE:=hE.blk 29 (az sr Ar nr cr tr Br mr dr) (g:=g10) aX.symm;generalize w9.alloc (.cells (az sr Ar nr cr tr Br mr dr) 29)=uV at hE⊢;rw[<-aX];clear aX;have s0:=(yh.out.below hE.av).cell;have s1:=(yh.out.below hE.av).frozen
 go_upto_region 5 with(fail)
 rw[fW s0];clear s0 s1;obtain⟨cS,cZ,dG,dN⟩:=(hE.here.2).c4
 have cA:w.heap.size<=w.heap.size+1+1:=by omega
 obtain⟨WW,bn,hB,hV,aQ⟩:=aO hE hE.h2 cA hE.here.1.2 cr dr;obtain⟨x0,x1,x2,x3⟩:=(hE.h2).c4;obtain⟨fQ,fR,gJ,gK⟩:=hE.h2.f4;have bJ:=Lib.hid bn;clear bn;go_wp2_with fail
 clear cS cZ dG dN;rw[<-bJ.out];obtain⟨y0,y1,y2,y3⟩:=hB.c4;refine bodyPost_ret (v:= .agg (az sr Ar nr cr tr Br mr dr)) (by simp[results,Tryz.results131,go_sem,y0,y1,y2,y3]) rfl ?_;exact⟨sr,Ar,nr,cr,tr,Br,mr,dr,rfl,hV,aQ⟩
theorem ou {g:Nat}{a b:Rat}{sa ta sb tb:Bool}{Aa Ba Ab Bb:Option Addr}{na ca ma da nb cb mb db:Nat}{w:World}(hs:ji g w)(ha:FV w a sa Aa na ta Ba ma)(hb:FV w b sb Ab nb tb Bb mb)(la:fl a<=256)(lb:fl b<=256)(lr:fl (a+b)<=256):
  Calls Tryz.prog 91 #[.pointer (some ⟨g,0,none⟩),.agg (az sa Aa na ca ta Ba ma da),.agg (az sb Ab nb cb tb Bb mb db)] w (FR (a+b) w):=by
 have yh:=Lib.hid hs;clear hs;have hE:=((((Env.start w).fv ha).fv hb).blk 29 (az sa Aa na ca ta Ba ma da) (g:=w.heap.size) rfl).blk 29 (az sb Ab nb cb tb Bb mb db) (g:=w.heap.size+1) (by simp);have hE:=hE.blk 29 aY (g:=w.heap.size+1+1) (by simp)
 obtain⟨W0,aC⟩:∃W0,W0=(((w.alloc (.cells (az sa Aa na ca ta Ba ma da) 29)).alloc (.cells (az sb Ab nb cb tb Bb mb db) 29)).alloc (.cells aY 29)):=⟨_,rfl⟩
 rw[<-aC] at hE;have aU:=Lib.hid aC;clear aC
 go_enter Tryz.func91,Tryz.ntmps91
 go_upto_region 1 with(fail)
 rw[<-aU.out];obtain⟨k1,k2,k3,k4⟩:=(hE.h2).c4;obtain⟨k5,k6,k7,k8⟩:=(hE.here.1.2).c4;go_wp2_with fail
 refine hE.fr (Rn (ca:=ca) (da:=da) (cb:=cb) (db:=db) (yh.out.below hE.av) hE.h4 hE.h3 la lb lr) ?_;clear hE k1 k2 k3 k4 k5 k6 k7 k8;intro sr Ar nr cr tr Br mr dr w9 hE
 have cA:w.heap.size<=w.heap.size+1+1:=by omega
 obtain⟨WW,bn,hB,hV,aQ⟩:=aO hE hE.here.1.2 cA hE.here.2 cr dr;obtain⟨x0,x1,x2,x3⟩:=(hE.here.1.2).c4;obtain⟨fQ,fR,gJ,gK⟩:=hE.here.1.2.f4;have bJ:=Lib.hid bn;clear bn;go_wp2_with fail
 clear x0 x1 x2 x3;rw[<-bJ.out];obtain⟨y0,y1,y2,y3⟩:=hB.c4;refine bodyPost_ret (v:= .agg (az sr Ar nr cr tr Br mr dr)) (by simp[results,Tryz.results91,go_sem,y0,y1,y2,y3]) rfl ?_;exact⟨sr,Ar,nr,cr,tr,Br,mr,dr,rfl,hV,aQ⟩
theorem Ro {g:Nat}{a b:Rat}{sa ta sb tb:Bool}{Aa Ba Ab Bb:Option Addr}{na ca ma da nb cb mb db:Nat}{w:World}(hs:ji g w)(ha:FV w a sa Aa na ta Ba ma)(hb:FV w b sb Ab nb tb Bb mb)(la:fl a<=256)(lb:fl b<=256)(lr:fl (a-b)<=256):
  Calls Tryz.prog 131 #[.pointer (some ⟨g,0,none⟩),.func (.func 72) #[] #[],.agg (az sa Aa na ca ta Ba ma da),.agg (az sb Ab nb cb tb Bb mb db)] w (FR (a-b) w):=by
 have yh:=Lib.hid hs;clear hs;have hE:=((((Env.start w).fv ha).fv hb).blk 29 (az sa Aa na ca ta Ba ma da) (g:=w.heap.size) rfl).blk 29 (az sb Ab nb cb tb Bb mb db) (g:=w.heap.size+1) (by simp);have hE:=hE.blk 29 aY (g:=w.heap.size+1+1) (by simp)
 obtain⟨W0,aC⟩:∃W0,W0=(((w.alloc (.cells (az sa Aa na ca ta Ba ma da) 29)).alloc (.cells (az sb Ab nb cb tb Bb mb db) 29)).alloc (.cells aY 29)):=⟨_,rfl⟩
 rw[<-aC] at hE;have aU:=Lib.hid aC;clear aC
 go_enter Tryz.func131,Tryz.ntmps131
 go_upto_region 1 with(fail)
 rw[<-aU.out];have s0:=(yh.out.below hE.av).cell;obtain⟨k1,k2,k3,k4⟩:=(hE.h2).c4;obtain⟨k5,k6,k7,k8⟩:=(hE.here.1.2).c4;go_wp2_with fail
 refine hE.fr (tG (ca:=ca) (da:=da) (cb:=cb) (db:=db) hE.h4 hE.h3 la lb lr) ?_;clear hE k1 k2 k3 k4 k5 k6 k7 k8;intro sr Ar nr cr tr Br mr dr w9 hE;clear s0
 go_upto_region 4 with(fail)
 obtain⟨g10,aX⟩:∃g10,g10=w9.heap.size:=⟨_,rfl⟩
 have fG:w.heap.size<g10:=by rw[aX];exact(hE.h3).lt
 have eX:w.heap.size+1<g10:=by rw[aX];exact(hE.h2).lt
 have fV:w.heap.size+1+1<g10:=by rw[aX];exact(hE.here.1.2).lt
 replace hE:=hE.blk 29 (az sr Ar nr cr tr Br mr dr) (g:=g10) aX.symm;generalize w9.alloc (.cells (az sr Ar nr cr tr Br mr dr) 29)=uV at hE⊢;rw[<-aX];clear aX;have s0:=(yh.out.below hE.av).cell;have s1:=(yh.out.below hE.av).frozen
 go_upto_region 5 with(fail)
 rw[fW s0];clear s0 s1;obtain⟨cS,cZ,dG,dN⟩:=(hE.here.2).c4
 have cA:w.heap.size<=w.heap.size+1+1:=by omega
 obtain⟨WW,bn,hB,hV,aQ⟩:=aO hE hE.h2 cA hE.here.1.2 cr dr;obtain⟨x0,x1,x2,x3⟩:=(hE.h2).c4;obtain⟨fQ,fR,gJ,gK⟩:=hE.h2.f4;have bJ:=Lib.hid bn;clear bn;go_wp2_with fail
 clear cS cZ dG dN;rw[<-bJ.out];obtain⟨y0,y1,y2,y3⟩:=hB.c4;refine bodyPost_ret (v:= .agg (az sr Ar nr cr tr Br mr dr)) (by simp[results,Tryz.results131,go_sem,y0,y1,y2,y3]) rfl ?_;exact⟨sr,Ar,nr,cr,tr,Br,mr,dr,rfl,hV,aQ⟩
theorem kP {g:Nat}{a b:Rat}{sa ta sb tb:Bool}{Aa Ba Ab Bb:Option Addr}{na ca ma da nb cb mb db:Nat}{w:World}(hs:ji g w)(ha:FV w a sa Aa na ta Ba ma)(hb:FV w b sb Ab nb tb Bb mb)(la:fl a<=256)(lb:fl b<=256)(lr:fl (a-b)<=256):
  Calls Tryz.prog 97 #[.pointer (some ⟨g,0,none⟩),.agg (az sa Aa na ca ta Ba ma da),.agg (az sb Ab nb cb tb Bb mb db)] w (FR (a-b) w):=by
 have yh:=Lib.hid hs;clear hs;have hE:=((((Env.start w).fv ha).fv hb).blk 29 (az sa Aa na ca ta Ba ma da) (g:=w.heap.size) rfl).blk 29 (az sb Ab nb cb tb Bb mb db) (g:=w.heap.size+1) (by simp);have hE:=hE.blk 29 aY (g:=w.heap.size+1+1) (by simp)
 obtain⟨W0,aC⟩:∃W0,W0=(((w.alloc (.cells (az sa Aa na ca ta Ba ma da) 29)).alloc (.cells (az sb Ab nb cb tb Bb mb db) 29)).alloc (.cells aY 29)):=⟨_,rfl⟩
 rw[<-aC] at hE;have aU:=Lib.hid aC;clear aC
 go_enter Tryz.func97,Tryz.ntmps97
 go_upto_region 1 with(fail)
 rw[<-aU.out];obtain⟨k1,k2,k3,k4⟩:=(hE.h2).c4;obtain⟨k5,k6,k7,k8⟩:=(hE.here.1.2).c4;go_wp2_with fail
 refine hE.fr (Ro (ca:=ca) (da:=da) (cb:=cb) (db:=db) (yh.out.below hE.av) hE.h4 hE.h3 la lb lr) ?_;clear hE k1 k2 k3 k4 k5 k6 k7 k8;intro sr Ar nr cr tr Br mr dr w9 hE
 have cA:w.heap.size<=w.heap.size+1+1:=by omega
 obtain⟨WW,bn,hB,hV,aQ⟩:=aO hE hE.here.1.2 cA hE.here.2 cr dr;obtain⟨x0,x1,x2,x3⟩:=(hE.here.1.2).c4;obtain⟨fQ,fR,gJ,gK⟩:=hE.here.1.2.f4;have bJ:=Lib.hid bn;clear bn;go_wp2_with fail
 clear x0 x1 x2 x3;rw[<-bJ.out];obtain⟨y0,y1,y2,y3⟩:=hB.c4;refine bodyPost_ret (v:= .agg (az sr Ar nr cr tr Br mr dr)) (by simp[results,Tryz.results97,go_sem,y0,y1,y2,y3]) rfl ?_;exact⟨sr,Ar,nr,cr,tr,Br,mr,dr,rfl,hV,aQ⟩
theorem Rp {g:Nat}{a b:Rat}{sa ta sb tb:Bool}{Aa Ba Ab Bb:Option Addr}{na ca ma da nb cb mb db:Nat}{w:World}(hs:ji g w)(ha:FV w a sa Aa na ta Ba ma)(hb:FV w b sb Ab nb tb Bb mb)(la:fl a<=256)(lb:fl b<=256)(lr:fl (a*b)<=256):
  Calls Tryz.prog 131 #[.pointer (some ⟨g,0,none⟩),.func (.func 78) #[] #[],.agg (az sa Aa na ca ta Ba ma da),.agg (az sb Ab nb cb tb Bb mb db)] w (FR (a*b) w):=by
 have yh:=Lib.hid hs;clear hs;have hE:=((((Env.start w).fv ha).fv hb).blk 29 (az sa Aa na ca ta Ba ma da) (g:=w.heap.size) rfl).blk 29 (az sb Ab nb cb tb Bb mb db) (g:=w.heap.size+1) (by simp);have hE:=hE.blk 29 aY (g:=w.heap.size+1+1) (by simp)
 obtain⟨W0,aC⟩:∃W0,W0=(((w.alloc (.cells (az sa Aa na ca ta Ba ma da) 29)).alloc (.cells (az sb Ab nb cb tb Bb mb db) 29)).alloc (.cells aY 29)):=⟨_,rfl⟩
 rw[<-aC] at hE;have aU:=Lib.hid aC;clear aC
 go_enter Tryz.func131,Tryz.ntmps131
 go_upto_region 1 with(fail)
 rw[<-aU.out];have s0:=(yh.out.below hE.av).cell;obtain⟨k1,k2,k3,k4⟩:=(hE.h2).c4;obtain⟨k5,k6,k7,k8⟩:=(hE.here.1.2).c4;go_wp2_with fail
 refine hE.fr (tH (ca:=ca) (da:=da) (cb:=cb) (db:=db) hE.h4 hE.h3 la lb lr) ?_;clear hE k1 k2 k3 k4 k5 k6 k7 k8;intro sr Ar nr cr tr Br mr dr w9 hE;clear s0
 go_upto_region 4 with(fail)
 obtain⟨g10,aX⟩:∃g10,g10=w9.heap.size:=⟨_,rfl⟩
 have fG:w.heap.size<g10:=by rw[aX];exact(hE.h3).lt
 have eX:w.heap.size+1<g10:=by rw[aX];exact(hE.h2).lt
 have fV:w.heap.size+1+1<g10:=by rw[aX];exact(hE.here.1.2).lt
 replace hE:=hE.blk 29 (az sr Ar nr cr tr Br mr dr) (g:=g10) aX.symm;generalize w9.alloc (.cells (az sr Ar nr cr tr Br mr dr) 29)=uV at hE⊢;rw[<-aX];clear aX;have s0:=(yh.out.below hE.av).cell;have s1:=(yh.out.below hE.av).frozen
 go_upto_region 5 with(fail)
 rw[fW s0];clear s0 s1;obtain⟨cS,cZ,dG,dN⟩:=(hE.here.2).c4
 have cA:w.heap.size<=w.heap.size+1+1:=by omega
 obtain⟨WW,bn,hB,hV,aQ⟩:=aO hE hE.h2 cA hE.here.1.2 cr dr;obtain⟨x0,x1,x2,x3⟩:=(hE.h2).c4;obtain⟨fQ,fR,gJ,gK⟩:=hE.h2.f4;have bJ:=Lib.hid bn;clear bn;go_wp2_with fail
 clear cS cZ dG dN;rw[<-bJ.out];obtain⟨y0,y1,y2,y3⟩:=hB.c4;refine bodyPost_ret (v:= .agg (az sr Ar nr cr tr Br mr dr)) (by simp[results,Tryz.results131,go_sem,y0,y1,y2,y3]) rfl ?_;exact⟨sr,Ar,nr,cr,tr,Br,mr,dr,rfl,hV,aQ⟩
theorem fX {g:Nat}{a b:Rat}{sa ta sb tb:Bool}{Aa Ba Ab Bb:Option Addr}{na ca ma da nb cb mb db:Nat}{w:World}(hs:ji g w)(ha:FV w a sa Aa na ta Ba ma)(hb:FV w b sb Ab nb tb Bb mb)(la:fl a<=256)(lb:fl b<=256)(lr:fl (a*b)<=256):
  Calls Tryz.prog 141 #[.pointer (some ⟨g,0,none⟩),.agg (az sa Aa na ca ta Ba ma da),.agg (az sb Ab nb cb tb Bb mb db)] w (FR (a*b) w):=by
 have yh:=Lib.hid hs;clear hs;have hE:=((((Env.start w).fv ha).fv hb).blk 29 (az sa Aa na ca ta Ba ma da) (g:=w.heap.size) rfl).blk 29 (az sb Ab nb cb tb Bb mb db) (g:=w.heap.size+1) (by simp);have hE:=hE.blk 29 aY (g:=w.heap.size+1+1) (by simp)
 obtain⟨W0,aC⟩:∃W0,W0=(((w.alloc (.cells (az sa Aa na ca ta Ba ma da) 29)).alloc (.cells (az sb Ab nb cb tb Bb mb db) 29)).alloc (.cells aY 29)):=⟨_,rfl⟩
 rw[<-aC] at hE;have aU:=Lib.hid aC;clear aC
 go_enter Tryz.func141,Tryz.ntmps141
 go_upto_region 1 with(fail)
 rw[<-aU.out];obtain⟨k1,k2,k3,k4⟩:=(hE.h2).c4;obtain⟨k5,k6,k7,k8⟩:=(hE.here.1.2).c4;go_wp2_with fail
 refine hE.fr (Rp (ca:=ca) (da:=da) (cb:=cb) (db:=db) (yh.out.below hE.av) hE.h4 hE.h3 la lb lr) ?_;clear hE k1 k2 k3 k4 k5 k6 k7 k8;intro sr Ar nr cr tr Br mr dr w9 hE
 have cA:w.heap.size<=w.heap.size+1+1:=by omega
 obtain⟨WW,bn,hB,hV,aQ⟩:=aO hE hE.here.1.2 cA hE.here.2 cr dr;obtain⟨x0,x1,x2,x3⟩:=(hE.here.1.2).c4;obtain⟨fQ,fR,gJ,gK⟩:=hE.here.1.2.f4;have bJ:=Lib.hid bn;clear bn;go_wp2_with fail
 clear x0 x1 x2 x3;rw[<-bJ.out];obtain⟨y0,y1,y2,y3⟩:=hB.c4;refine bodyPost_ret (v:= .agg (az sr Ar nr cr tr Br mr dr)) (by simp[results,Tryz.results141,go_sem,y0,y1,y2,y3]) rfl ?_;exact⟨sr,Ar,nr,cr,tr,Br,mr,dr,rfl,hV,aQ⟩
theorem IQ {a:Rat}{sa ta:Bool}{Aa Ba:Option Addr}{na ca ma da:Nat}{w:World}(ha:FV w a sa Aa na ta Ba ma):
  Calls Tryz.prog 143 #[.agg (az sa Aa na ca ta Ba ma da)] w (fY (a.num=0) w):=by
 have hn:na=0↔a.num=0:=by rw[ha.1.len,ov aD];omega
 have hE:=((Env.start w).fv ha).blk 29 (az sa Aa na ca ta Ba ma da) (g:=w.heap.size) rfl
 obtain⟨W0,aC⟩:∃W0,W0=(w.alloc (.cells (az sa Aa na ca ta Ba ma da) 29)):=⟨_,rfl⟩
 rw[<-aC] at hE;have aU:=Lib.hid aC;clear aC
 go_enter Tryz.func143,Tryz.ntmps143
 go_upto_region 1 with(fail)
 rw[<-aU.out];obtain⟨k1,k2,k3,k4⟩:=(hE.here.2).c4;go_wp2_with fail
 go_ret
 refine⟨_,rfl, ?_,hE.av⟩;rw[<-hn];simp
theorem vK {A:Option Addr}{n c:Nat}{l:Nat->Int}{w:World}(hl:pZ A n l w)(hb:∀k,k<n->-9223372036854775808<=l k/\l k<=9223372036854775807)(k:Nat)(_:k<=9223372036854775807):
  Calls Tryz.prog 139 #[.slice A n c,.int .i64 (k:Int)] w (FR (jR l n k) w):=by
 by_cases hkn:k<n
 ·
  rw[show jR l n k=((l k:Int):Rat) from if_pos hkn];obtain⟨b,o,rfl,ha⟩:=hl k hkn;obtain⟨z1,z2⟩:=hb k hkn;have t1:decide ((k:Int)<(n:Int))=true:=decide_eq_true (by omega)
  have t2:(k:Int)<(n:Int):=by omega
  obtain⟨x,hx⟩:∃x,x=l k:=⟨_,rfl⟩
  rw[<-hx] at ha z1 z2⊢;have qg:=Lib.hid hl;clear hl;have jG:=Lib.hid hb;clear hb;have Hha:=Lib.hid ha;clear ha;have mB:=Lib.hid hx;clear hx;have hE:=Env.start w;have hE:=hE.blk 29 aY (g:=w.heap.size) rfl
  obtain⟨W0,aC⟩:∃W0,W0=(w.alloc (.cells aY 29)):=⟨_,rfl⟩
  rw[<-aC] at hE;have aU:=Lib.hid aC;clear aC
  go_enter Tryz.func139,Tryz.ntmps139
  go_upto_region 1 with(fail)
  rw[<-aU.out];have k1:=(At.stable _ _ _ _ _ hE.av Hha.out).2;go_wp2_with fail
  refine hE.fr (aR x _ z1 z2) ?_;clear hE k1;intro sz Az nz cz tz Bz mz dz w2 hE
  have cA:w.heap.size<=w.heap.size:=by omega
  obtain⟨WW,bn,hB,hV,aQ⟩:=aO hE hE.here.1.2 cA hE.here.2 cz dz;obtain⟨x0,x1,x2,x3⟩:=(hE.here.1.2).c4;obtain⟨fQ,fR,gJ,gK⟩:=hE.here.1.2.f4;have bJ:=Lib.hid bn;clear bn;go_wp2_with fail
  clear x0 x1 x2 x3;rw[<-bJ.out];obtain⟨y0,y1,y2,y3⟩:=hB.c4;refine bodyPost_ret (v:= .agg (az sz Az nz cz tz Bz mz dz)) (by simp[results,Tryz.results139,go_sem,y0,y1,y2,y3]) rfl ?_;exact⟨sz,Az,nz,cz,tz,Bz,mz,dz,rfl,hV,aQ⟩
 ·
  rw[show jR l n k=((0:Int):Rat) from if_neg hkn];have t1:decide ((k:Int)<(n:Int))=false:=decide_eq_false (by omega)
  have t2:¬(k:Int)<(n:Int):=by omega
  have qg:=Lib.hid hl;clear hl;have jG:=Lib.hid hb;clear hb;have hE:=Env.start w;have hE:=hE.blk 29 aY (g:=w.heap.size) rfl
  obtain⟨W0,aC⟩:∃W0,W0=(w.alloc (.cells aY 29)):=⟨_,rfl⟩
  rw[<-aC] at hE;have aU:=Lib.hid aC;clear aC
  go_enter Tryz.func139,Tryz.ntmps139
  go_upto_region 1 with(fail)
  rw[<-aU.out];go_wp2_with fail
  refine hE.fr (aR 0 _ (by decide) (by decide)) ?_;clear hE;intro sz Az nz cz tz Bz mz dz w1 hE
  have cA:w.heap.size<=w.heap.size:=by omega
  obtain⟨WW,bn,hB,hV,aQ⟩:=aO hE hE.here.1.2 cA hE.here.2 cz dz;obtain⟨x0,x1,x2,x3⟩:=(hE.here.1.2).c4;obtain⟨fQ,fR,gJ,gK⟩:=hE.here.1.2.f4;have bJ:=Lib.hid bn;clear bn;go_wp2_with fail
  clear x0 x1 x2 x3;rw[<-bJ.out];obtain⟨y0,y1,y2,y3⟩:=hB.c4;refine bodyPost_ret (v:= .agg (az sz Az nz cz tz Bz mz dz)) (by simp[results,Tryz.results139,go_sem,y0,y1,y2,y3]) rfl ?_;exact⟨sz,Az,nz,cz,tz,Bz,mz,dz,rfl,hV,aQ⟩
end Go.Proofs.YtclbiihcbfnjmaaGreat
