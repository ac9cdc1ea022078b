/-
  Parts.
-/
import Derived.Test.YtclbiihcbfnjmaaGreatK21
set_option linter.unusedSimpArgs false
set_option maxRecDepth 100000
set_option maxHeartbeats 4000000
namespace Go.Proofs.YtclbiihcbfnjmaaGreat
open Go.RowKit

def jx (g:Nat)(W:World):Prop:=∃t cs,au t g cs W/\cs[0]?=some (.int .i64 0)
theorem jx.stable (g:Nat):ck (jx g):=fun _ _ hb ⟨t,cs,h1,h2⟩=>⟨t,cs,au.stable _ _ _ _ _ hb h1,h2⟩
theorem jx.below {g:Nat}{w w':World}(h:jx g w)(hb:Below w.heap.size w w'):jx g w':=jx.stable g _ _ hb h
theorem jx.cell {g:Nat}{W:World}(h:jx g W):W.cell? ⟨g,0,none⟩=some (.int .i64 0):=by obtain⟨t,cs,h1,h2⟩:=h;rw[h1.cell];exact h2
theorem jx.frozen {g:Nat}{W:World}(h:jx g W):W.frozen? ⟨g,0,none⟩=false:=by obtain⟨t,cs,h1,_⟩:=h;exact h1.frozen 0
theorem Uk {g:Nat}{a b:Rat}{sa ta sb tb:Bool}{Aa Ba Ab Bb:Option Addr}{na ca ma da nb cb mb db:Nat}{w:World}(hs:jx g w)(ha:FV w a sa Aa na ta Ba ma)(hb:FV w b sb Ab nb tb Bb mb)(la:fl a<=256)(lb:fl b<=256)(lr:fl (a+b)<=256):
  Calls Tryz.prog 131 #[.pointer (some ⟨g,0,none⟩),.func (.func 77) #[] #[],.agg (az sa Aa na ca ta Ba ma da),.agg (az sb Ab nb cb tb Bb mb db)] w (FR (a+b) w):=by
 have oe:=af hs;clear hs;have hE:=((((Env.start w).fv ha).fv hb).blk 29 (az sa Aa na ca ta Ba ma da) (g:=w.heap.size) rfl).blk 29 (az sb Ab nb cb tb Bb mb db) (g:=w.heap.size+1) (by simp);have hE:=hE.blk 29 aW (g:=w.heap.size+1+1) (by simp)
 obtain⟨W0,aC⟩:∃W0,W0=(((w.alloc (.cells (az sa Aa na ca ta Ba ma da) 29)).alloc (.cells (az sb Ab nb cb tb Bb mb db) 29)).alloc (.cells aW 29)):=⟨_,rfl⟩
 rw[<-aC] at hE;have aZ:=af aC;clear aC
 go_enter Tryz.func131,Tryz.ntmps131
 go_upto_region 1 with(fail)
 rw[<-aZ.out];have s0:=(oe.out.below hE.ax).cell;obtain⟨k1,k2,k3,k4⟩:=(hE.h2).c4;obtain⟨k5,k6,k7,k8⟩:=(hE.g1).c4;go_wp2_with fail
 refine hE.fr (FZ (ca:=ca) (da:=da) (cb:=cb) (db:=db) hE.h4 hE.h3 la lb lr) ?_;clear hE k1 k2 k3 k4 k5 k6 k7 k8;intro sr Ar nr cr tr Br mr dr w9 hE;clear s0
 go_upto_region 4 with(fail)
 obtain⟨g10,bL⟩:∃g10,g10=w9.heap.size:=⟨_,rfl⟩
 have jh:w.heap.size<g10:=by rw[bL];exact(hE.h3).lt
 have iF:w.heap.size+1<g10:=by rw[bL];exact(hE.h2).lt
 have jF:w.heap.size+1+1<g10:=by rw[bL];exact(hE.g1).lt
 replace hE:=hE.blk 29 (az sr Ar nr cr tr Br mr dr) (g:=g10) bL.symm;generalize w9.alloc (.cells (az sr Ar nr cr tr Br mr dr) 29)=xQ at hE⊢;rw[<-bL];clear bL;have s0:=(oe.out.below hE.ax).cell;have s1:=(oe.out.below hE.ax).frozen
 go_upto_region 5 with(fail)
 rw[iG s0];clear s0 s1;obtain⟨dX,dY,eu,eF⟩:=(hE.g0).c4
 have cS:w.heap.size<=w.heap.size+1+1:=by omega
 obtain⟨WW,bn,hB,hV,aM⟩:=aR hE hE.h2 cS hE.g1 cr dr;obtain⟨x0,x1,x2,x3⟩:=(hE.h2).c4;obtain⟨fL,fM,fV,fW⟩:=hE.h2.f4;have bR:=af bn;clear bn;go_wp2_with fail
 clear dX dY eu eF;rw[<-bR.out];obtain⟨y0,y1,y2,y3⟩:=hB.c4;refine aK (v:= .agg (az sr Ar nr cr tr Br mr dr)) (by simp[results,Tryz.results131,go_sem,y0,y1,y2,y3]) rfl ?_;exact⟨sr,Ar,nr,cr,tr,Br,mr,dr,rfl,hV,aM⟩
theorem mC {g:Nat}{a b:Rat}{sa ta sb tb:Bool}{Aa Ba Ab Bb:Option Addr}{na ca ma da nb cb mb db:Nat}{w:World}(hs:jx g w)(ha:FV w a sa Aa na ta Ba ma)(hb:FV w b sb Ab nb tb Bb mb)(la:fl a<=256)(lb:fl b<=256)(lr:fl (a+b)<=256):
  Calls Tryz.prog 91 #[.pointer (some ⟨g,0,none⟩),.agg (az sa Aa na ca ta Ba ma da),.agg (az sb Ab nb cb tb Bb mb db)] w (FR (a+b) w):=by
 have oe:=af hs;clear hs;have hE:=((((Env.start w).fv ha).fv hb).blk 29 (az sa Aa na ca ta Ba ma da) (g:=w.heap.size) rfl).blk 29 (az sb Ab nb cb tb Bb mb db) (g:=w.heap.size+1) (by simp);have hE:=hE.blk 29 aW (g:=w.heap.size+1+1) (by simp)
 obtain⟨W0,aC⟩:∃W0,W0=(((w.alloc (.cells (az sa Aa na ca ta Ba ma da) 29)).alloc (.cells (az sb Ab nb cb tb Bb mb db) 29)).alloc (.cells aW 29)):=⟨_,rfl⟩
 rw[<-aC] at hE;have aZ:=af aC;clear aC
 go_enter Tryz.func91,Tryz.ntmps91
 go_upto_region 1 with(fail)
 rw[<-aZ.out];obtain⟨k1,k2,k3,k4⟩:=(hE.h2).c4;obtain⟨k5,k6,k7,k8⟩:=(hE.g1).c4;go_wp2_with fail
 refine hE.fr (Uk (ca:=ca) (da:=da) (cb:=cb) (db:=db) (oe.out.below hE.ax) hE.h4 hE.h3 la lb lr) ?_;clear hE k1 k2 k3 k4 k5 k6 k7 k8;intro sr Ar nr cr tr Br mr dr w9 hE
 have cS:w.heap.size<=w.heap.size+1+1:=by omega
 obtain⟨WW,bn,hB,hV,aM⟩:=aR hE hE.g1 cS hE.g0 cr dr;obtain⟨x0,x1,x2,x3⟩:=(hE.g1).c4;obtain⟨fL,fM,fV,fW⟩:=hE.g1.f4;have bR:=af bn;clear bn;go_wp2_with fail
 clear x0 x1 x2 x3;rw[<-bR.out];obtain⟨y0,y1,y2,y3⟩:=hB.c4;refine aK (v:= .agg (az sr Ar nr cr tr Br mr dr)) (by simp[results,Tryz.results91,go_sem,y0,y1,y2,y3]) rfl ?_;exact⟨sr,Ar,nr,cr,tr,Br,mr,dr,rfl,hV,aM⟩
theorem Ul {g:Nat}{a b:Rat}{sa ta sb tb:Bool}{Aa Ba Ab Bb:Option Addr}{na ca ma da nb cb mb db:Nat}{w:World}(hs:jx g w)(ha:FV w a sa Aa na ta Ba ma)(hb:FV w b sb Ab nb tb Bb mb)(la:fl a<=256)(lb:fl b<=256)(lr:fl (a-b)<=256):
  Calls Tryz.prog 131 #[.pointer (some ⟨g,0,none⟩),.func (.func 72) #[] #[],.agg (az sa Aa na ca ta Ba ma da),.agg (az sb Ab nb cb tb Bb mb db)] w (FR (a-b) w):=by
 have oe:=af hs;clear hs;have hE:=((((Env.start w).fv ha).fv hb).blk 29 (az sa Aa na ca ta Ba ma da) (g:=w.heap.size) rfl).blk 29 (az sb Ab nb cb tb Bb mb db) (g:=w.heap.size+1) (by simp);have hE:=hE.blk 29 aW (g:=w.heap.size+1+1) (by simp)
 obtain⟨W0,aC⟩:∃W0,W0=(((w.alloc (.cells (az sa Aa na ca ta Ba ma da) 29)).alloc (.cells (az sb Ab nb cb tb Bb mb db) 29)).alloc (.cells aW 29)):=⟨_,rfl⟩
 rw[<-aC] at hE;have aZ:=af aC;clear aC
 go_enter Tryz.func131,Tryz.ntmps131
 go_upto_region 1 with(fail)
 rw[<-aZ.out];have s0:=(oe.out.below hE.ax).cell;obtain⟨k1,k2,k3,k4⟩:=(hE.h2).c4;obtain⟨k5,k6,k7,k8⟩:=(hE.g1).c4;go_wp2_with fail
 refine hE.fr (zV (ca:=ca) (da:=da) (cb:=cb) (db:=db) hE.h4 hE.h3 la lb lr) ?_;clear hE k1 k2 k3 k4 k5 k6 k7 k8;intro sr Ar nr cr tr Br mr dr w9 hE;clear s0
 go_upto_region 4 with(fail)
 obtain⟨g10,bL⟩:∃g10,g10=w9.heap.size:=⟨_,rfl⟩
 have jh:w.heap.size<g10:=by rw[bL];exact(hE.h3).lt
 have iF:w.heap.size+1<g10:=by rw[bL];exact(hE.h2).lt
 have jF:w.heap.size+1+1<g10:=by rw[bL];exact(hE.g1).lt
 replace hE:=hE.blk 29 (az sr Ar nr cr tr Br mr dr) (g:=g10) bL.symm;generalize w9.alloc (.cells (az sr Ar nr cr tr Br mr dr) 29)=xQ at hE⊢;rw[<-bL];clear bL;have s0:=(oe.out.below hE.ax).cell;have s1:=(oe.out.below hE.ax).frozen
 go_upto_region 5 with(fail)
 rw[iG s0];clear s0 s1;obtain⟨dX,dY,eu,eF⟩:=(hE.g0).c4
 have cS:w.heap.size<=w.heap.size+1+1:=by omega
 obtain⟨WW,bn,hB,hV,aM⟩:=aR hE hE.h2 cS hE.g1 cr dr;obtain⟨x0,x1,x2,x3⟩:=(hE.h2).c4;obtain⟨fL,fM,fV,fW⟩:=hE.h2.f4;have bR:=af bn;clear bn;go_wp2_with fail
 clear dX dY eu eF;rw[<-bR.out];obtain⟨y0,y1,y2,y3⟩:=hB.c4;refine aK (v:= .agg (az sr Ar nr cr tr Br mr dr)) (by simp[results,Tryz.results131,go_sem,y0,y1,y2,y3]) rfl ?_;exact⟨sr,Ar,nr,cr,tr,Br,mr,dr,rfl,hV,aM⟩
theorem mD {g:Nat}{a b:Rat}{sa ta sb tb:Bool}{Aa Ba Ab Bb:Option Addr}{na ca ma da nb cb mb db:Nat}{w:World}(hs:jx g w)(ha:FV w a sa Aa na ta Ba ma)(hb:FV w b sb Ab nb tb Bb mb)(la:fl a<=256)(lb:fl b<=256)(lr:fl (a-b)<=256):
  Calls Tryz.prog 97 #[.pointer (some ⟨g,0,none⟩),.agg (az sa Aa na ca ta Ba ma da),.agg (az sb Ab nb cb tb Bb mb db)] w (FR (a-b) w):=by
 have oe:=af hs;clear hs;have hE:=((((Env.start w).fv ha).fv hb).blk 29 (az sa Aa na ca ta Ba ma da) (g:=w.heap.size) rfl).blk 29 (az sb Ab nb cb tb Bb mb db) (g:=w.heap.size+1) (by simp);have hE:=hE.blk 29 aW (g:=w.heap.size+1+1) (by simp)
 obtain⟨W0,aC⟩:∃W0,W0=(((w.alloc (.cells (az sa Aa na ca ta Ba ma da) 29)).alloc (.cells (az sb Ab nb cb tb Bb mb db) 29)).alloc (.cells aW 29)):=⟨_,rfl⟩
 rw[<-aC] at hE;have aZ:=af aC;clear aC
 go_enter Tryz.func97,Tryz.ntmps97
 go_upto_region 1 with(fail)
 rw[<-aZ.out];obtain⟨k1,k2,k3,k4⟩:=(hE.h2).c4;obtain⟨k5,k6,k7,k8⟩:=(hE.g1).c4;go_wp2_with fail
 refine hE.fr (Ul (ca:=ca) (da:=da) (cb:=cb) (db:=db) (oe.out.below hE.ax) hE.h4 hE.h3 la lb lr) ?_;clear hE k1 k2 k3 k4 k5 k6 k7 k8;intro sr Ar nr cr tr Br mr dr w9 hE
 have cS:w.heap.size<=w.heap.size+1+1:=by omega
 obtain⟨WW,bn,hB,hV,aM⟩:=aR hE hE.g1 cS hE.g0 cr dr;obtain⟨x0,x1,x2,x3⟩:=(hE.g1).c4;obtain⟨fL,fM,fV,fW⟩:=hE.g1.f4;have bR:=af bn;clear bn;go_wp2_with fail
 clear x0 x1 x2 x3;rw[<-bR.out];obtain⟨y0,y1,y2,y3⟩:=hB.c4;refine aK (v:= .agg (az sr Ar nr cr tr Br mr dr)) (by simp[results,Tryz.results97,go_sem,y0,y1,y2,y3]) rfl ?_;exact⟨sr,Ar,nr,cr,tr,Br,mr,dr,rfl,hV,aM⟩
theorem Um {g:Nat}{a b:Rat}{sa ta sb tb:Bool}{Aa Ba Ab Bb:Option Addr}{na ca ma da nb cb mb db:Nat}{w:World}(hs:jx g w)(ha:FV w a sa Aa na ta Ba ma)(hb:FV w b sb Ab nb tb Bb mb)(la:fl a<=256)(lb:fl b<=256)(lr:fl (a*b)<=256):
  Calls Tryz.prog 131 #[.pointer (some ⟨g,0,none⟩),.func (.func 78) #[] #[],.agg (az sa Aa na ca ta Ba ma da),.agg (az sb Ab nb cb tb Bb mb db)] w (FR (a*b) w):=by
 have oe:=af hs;clear hs;have hE:=((((Env.start w).fv ha).fv hb).blk 29 (az sa Aa na ca ta Ba ma da) (g:=w.heap.size) rfl).blk 29 (az sb Ab nb cb tb Bb mb db) (g:=w.heap.size+1) (by simp);have hE:=hE.blk 29 aW (g:=w.heap.size+1+1) (by simp)
 obtain⟨W0,aC⟩:∃W0,W0=(((w.alloc (.cells (az sa Aa na ca ta Ba ma da) 29)).alloc (.cells (az sb Ab nb cb tb Bb mb db) 29)).alloc (.cells aW 29)):=⟨_,rfl⟩
 rw[<-aC] at hE;have aZ:=af aC;clear aC
 go_enter Tryz.func131,Tryz.ntmps131
 go_upto_region 1 with(fail)
 rw[<-aZ.out];have s0:=(oe.out.below hE.ax).cell;obtain⟨k1,k2,k3,k4⟩:=(hE.h2).c4;obtain⟨k5,k6,k7,k8⟩:=(hE.g1).c4;go_wp2_with fail
 refine hE.fr (zW (ca:=ca) (da:=da) (cb:=cb) (db:=db) hE.h4 hE.h3 la lb lr) ?_;clear hE k1 k2 k3 k4 k5 k6 k7 k8;intro sr Ar nr cr tr Br mr dr w9 hE;clear s0
 go_upto_region 4 with(fail)
 obtain⟨g10,bL⟩:∃g10,g10=w9.heap.size:=⟨_,rfl⟩
 have jh:w.heap.size<g10:=by rw[bL];exact(hE.h3).lt
 have iF:w.heap.size+1<g10:=by rw[bL];exact(hE.h2).lt
 have jF:w.heap.size+1+1<g10:=by rw[bL];exact(hE.g1).lt
 replace hE:=hE.blk 29 (az sr Ar nr cr tr Br mr dr) (g:=g10) bL.symm;generalize w9.alloc (.cells (az sr Ar nr cr tr Br mr dr) 29)=xQ at hE⊢;rw[<-bL];clear bL;have s0:=(oe.out.below hE.ax).cell;have s1:=(oe.out.below hE.ax).frozen
 go_upto_region 5 with(fail)
 rw[iG s0];clear s0 s1;obtain⟨dX,dY,eu,eF⟩:=(hE.g0).c4
 have cS:w.heap.size<=w.heap.size+1+1:=by omega
 obtain⟨WW,bn,hB,hV,aM⟩:=aR hE hE.h2 cS hE.g1 cr dr;obtain⟨x0,x1,x2,x3⟩:=(hE.h2).c4;obtain⟨fL,fM,fV,fW⟩:=hE.h2.f4;have bR:=af bn;clear bn;go_wp2_with fail
 clear dX dY eu eF;rw[<-bR.out];obtain⟨y0,y1,y2,y3⟩:=hB.c4;refine aK (v:= .agg (az sr Ar nr cr tr Br mr dr)) (by simp[results,Tryz.results131,go_sem,y0,y1,y2,y3]) rfl ?_;exact⟨sr,Ar,nr,cr,tr,Br,mr,dr,rfl,hV,aM⟩
theorem iH {g:Nat}{a b:Rat}{sa ta sb tb:Bool}{Aa Ba Ab Bb:Option Addr}{na ca ma da nb cb mb db:Nat}{w:World}(hs:jx g w)(ha:FV w a sa Aa na ta Ba ma)(hb:FV w b sb Ab nb tb Bb mb)(la:fl a<=256)(lb:fl b<=256)(lr:fl (a*b)<=256):
  Calls Tryz.prog 141 #[.pointer (some ⟨g,0,none⟩),.agg (az sa Aa na ca ta Ba ma da),.agg (az sb Ab nb cb tb Bb mb db)] w (FR (a*b) w):=by
 have oe:=af hs;clear hs;have hE:=((((Env.start w).fv ha).fv hb).blk 29 (az sa Aa na ca ta Ba ma da) (g:=w.heap.size) rfl).blk 29 (az sb Ab nb cb tb Bb mb db) (g:=w.heap.size+1) (by simp);have hE:=hE.blk 29 aW (g:=w.heap.size+1+1) (by simp)
 obtain⟨W0,aC⟩:∃W0,W0=(((w.alloc (.cells (az sa Aa na ca ta Ba ma da) 29)).alloc (.cells (az sb Ab nb cb tb Bb mb db) 29)).alloc (.cells aW 29)):=⟨_,rfl⟩
 rw[<-aC] at hE;have aZ:=af aC;clear aC
 go_enter Tryz.func141,Tryz.ntmps141
 go_upto_region 1 with(fail)
 rw[<-aZ.out];obtain⟨k1,k2,k3,k4⟩:=(hE.h2).c4;obtain⟨k5,k6,k7,k8⟩:=(hE.g1).c4;go_wp2_with fail
 refine hE.fr (Um (ca:=ca) (da:=da) (cb:=cb) (db:=db) (oe.out.below hE.ax) hE.h4 hE.h3 la lb lr) ?_;clear hE k1 k2 k3 k4 k5 k6 k7 k8;intro sr Ar nr cr tr Br mr dr w9 hE
 have cS:w.heap.size<=w.heap.size+1+1:=by omega
 obtain⟨WW,bn,hB,hV,aM⟩:=aR hE hE.g1 cS hE.g0 cr dr;obtain⟨x0,x1,x2,x3⟩:=(hE.g1).c4;obtain⟨fL,fM,fV,fW⟩:=hE.g1.f4;have bR:=af bn;clear bn;go_wp2_with fail
 clear x0 x1 x2 x3;rw[<-bR.out];obtain⟨y0,y1,y2,y3⟩:=hB.c4;refine aK (v:= .agg (az sr Ar nr cr tr Br mr dr)) (by simp[results,Tryz.results141,go_sem,y0,y1,y2,y3]) rfl ?_;exact⟨sr,Ar,nr,cr,tr,Br,mr,dr,rfl,hV,aM⟩
theorem KJ {a:Rat}{sa ta:Bool}{Aa Ba:Option Addr}{na ca ma da:Nat}{w:World}(ha:FV w a sa Aa na ta Ba ma):
  Calls Tryz.prog 143 #[.agg (az sa Aa na ca ta Ba ma da)] w (js (a.num=0) w):=by
 have hn:na=0↔a.num=0:=by rw[ha.1.len,pV aA];omega
 have hE:=((Env.start w).fv ha).blk 29 (az sa Aa na ca ta Ba ma da) (g:=w.heap.size) rfl
 obtain⟨W0,aC⟩:∃W0,W0=(w.alloc (.cells (az sa Aa na ca ta Ba ma da) 29)):=⟨_,rfl⟩
 rw[<-aC] at hE;have aZ:=af aC;clear aC
 go_enter Tryz.func143,Tryz.ntmps143
 go_upto_region 1 with(fail)
 rw[<-aZ.out];obtain⟨k1,k2,k3,k4⟩:=(hE.g0).c4;go_wp2_with fail
 go_ret
 refine⟨_,rfl, ?_,hE.ax⟩;rw[<-hn];simp
theorem xR {A:Option Addr}{n c:Nat}{l:Nat->Int}{w:World}(hl:rR A n l w)(hb:∀k,k<n->-9223372036854775808<=l k/\l k<=9223372036854775807)(k:Nat)(_:k<=9223372036854775807):
  Calls Tryz.prog 139 #[.slice A n c,.int .i64 (k:Int)] w (FR (lY l n k) w):=by
 by_cases hkn:k<n
 ·
  rw[show lY l n k=((l k:Int):Rat) from if_pos hkn];obtain⟨b,o,rfl,ha⟩:=hl k hkn;obtain⟨z1,z2⟩:=hb k hkn;have t1:decide ((k:Int)<(n:Int))=true:=aL (by omega)
  have t2:(k:Int)<(n:Int):=by omega
  obtain⟨x,hx⟩:∃x,x=l k:=⟨_,rfl⟩
  rw[<-hx] at ha z1 z2⊢;have qK:=af hl;clear hl;have kX:=af hb;clear hb;have Hha:=af ha;clear ha;have og:=af hx;clear hx;have hE:=Env.start w;have hE:=hE.blk 29 aW (g:=w.heap.size) rfl
  obtain⟨W0,aC⟩:∃W0,W0=(w.alloc (.cells aW 29)):=⟨_,rfl⟩
  rw[<-aC] at hE;have aZ:=af aC;clear aC
  go_enter Tryz.func139,Tryz.ntmps139
  go_upto_region 1 with(fail)
  rw[<-aZ.out];have k1:=(At.stable _ _ _ _ _ hE.ax Hha.out).2;go_wp2_with fail
  refine hE.fr (bg x _ z1 z2) ?_;clear hE k1;intro sz Az nz cz tz Bz mz dz w2 hE
  have cS:w.heap.size<=w.heap.size:=by omega
  obtain⟨WW,bn,hB,hV,aM⟩:=aR hE hE.g1 cS hE.g0 cz dz;obtain⟨x0,x1,x2,x3⟩:=(hE.g1).c4;obtain⟨fL,fM,fV,fW⟩:=hE.g1.f4;have bR:=af bn;clear bn;go_wp2_with fail
  clear x0 x1 x2 x3;rw[<-bR.out];obtain⟨y0,y1,y2,y3⟩:=hB.c4;refine aK (v:= .agg (az sz Az nz cz tz Bz mz dz)) (by simp[results,Tryz.results139,go_sem,y0,y1,y2,y3]) rfl ?_;exact⟨sz,Az,nz,cz,tz,Bz,mz,dz,rfl,hV,aM⟩
 ·
  rw[show lY l n k=((0:Int):Rat) from if_neg hkn];have t1:decide ((k:Int)<(n:Int))=false:=aH (by omega)
  have t2:¬(k:Int)<(n:Int):=by omega
  have qK:=af hl;clear hl;have kX:=af hb;clear hb;have hE:=Env.start w;have hE:=hE.blk 29 aW (g:=w.heap.size) rfl
  obtain⟨W0,aC⟩:∃W0,W0=(w.alloc (.cells aW 29)):=⟨_,rfl⟩
  rw[<-aC] at hE;have aZ:=af aC;clear aC
  go_enter Tryz.func139,Tryz.ntmps139
  go_upto_region 1 with(fail)
  rw[<-aZ.out];go_wp2_with fail
  refine hE.fr (bg 0 _ (by decide) (by decide)) ?_;clear hE;intro sz Az nz cz tz Bz mz dz w1 hE
  have cS:w.heap.size<=w.heap.size:=by omega
  obtain⟨WW,bn,hB,hV,aM⟩:=aR hE hE.g1 cS hE.g0 cz dz;obtain⟨x0,x1,x2,x3⟩:=(hE.g1).c4;obtain⟨fL,fM,fV,fW⟩:=hE.g1.f4;have bR:=af bn;clear bn;go_wp2_with fail
  clear x0 x1 x2 x3;rw[<-bR.out];obtain⟨y0,y1,y2,y3⟩:=hB.c4;refine aK (v:= .agg (az sz Az nz cz tz Bz mz dz)) (by simp[results,Tryz.results139,go_sem,y0,y1,y2,y3]) rfl ?_;exact⟨sz,Az,nz,cz,tz,Bz,mz,dz,rfl,hV,aM⟩
end Go.Proofs.YtclbiihcbfnjmaaGreat
