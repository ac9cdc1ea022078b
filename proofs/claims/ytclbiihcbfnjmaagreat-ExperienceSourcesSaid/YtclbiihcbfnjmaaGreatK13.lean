/-
  Parts.
-/
import Derived.Test.YtclbiihcbfnjmaaGreatK11
set_option linter.unusedSimpArgs false
set_option maxRecDepth 100000
set_option maxHeartbeats 4000000
namespace Go.Proofs.YtclbiihcbfnjmaaGreat
open Go.RowKit

theorem den_nz (a:Rat):((a.den:Nat):Int)≠0:=by have:=a.den_pos;omega
theorem Sg {q:Rat}{s t:Bool}{A B:Option Addr}{n m c d:Nat}{w:World}(ha:FV w q s A n t B m)(r:Bool)(hr:decide (q.num=0)=r):
  Calls Tryz.prog 146 #[.agg (az s A n c t B m d)] w fun e w'=>e= .returned (.bool r)/\Below w.heap.size w w':=by
 by_cases h0:q.num=0
 ·
  rw[aL h0] at hr;subst hr;have hE:=((Env.start w).fv ha).blk 138 (az s A n c t B m d) (g:=w.heap.size) rfl
  obtain⟨W0,aC⟩:∃W0,W0=(w.alloc (.cells (az s A n c t B m d) 138)):=⟨_,rfl⟩
  rw[<-aC] at hE;have aZ:=af aC;clear aC
  go_enter Tryz.func146,Tryz.ntmps146
  go_upto_region 1 with(fail)
  rw[<-aZ.out]
  obtain rfl:n=0:=by rw[ha.1.len,h0];exact cY
  obtain⟨k1,k2,k3,k4⟩:=(hE.g0).c4;go_wp2_with fail
  go_ret
  exact⟨rfl,hE.ax⟩
 ·
  rw[aH h0] at hr;subst hr;have hE:=((Env.start w).fv ha).blk 138 (az s A n c t B m d) (g:=w.heap.size) rfl
  obtain⟨W0,aC⟩:∃W0,W0=(w.alloc (.cells (az s A n c t B m d) 138)):=⟨_,rfl⟩
  rw[<-aC] at hE;have aZ:=af aC;clear aC
  go_enter Tryz.func146,Tryz.ntmps146
  go_upto_region 1 with(fail)
  rw[<-aZ.out]
  have hz:0<n:=by rw[ha.1.len];exact(dM aA).2 (by have:q.num≠0:=h0;omega)
  have t1:((n:Int)==0)=false:=gh.2 (by omega);have t2:(n==0)=false:=gh.2 (by omega);obtain⟨k1,k2,k3,k4⟩:=(hE.g0).c4;go_wp2_with fail
  go_ret
  exact⟨rfl,hE.ax⟩
theorem sP {a b:Rat}{sa ta sb tb:Bool}{Aa Ba Ab Bb:Option Addr}{na ca ma da nb cb mb db:Nat}{w:World}(ha:FV w a sa Aa na ta Ba ma)(hb:FV w b sb Ab nb tb Bb mb)(la:fl a<=256)(lb:fl b<=256)(hb0:b.num≠0)(lr:fl (a/b)<=256):
  Calls Tryz.prog 111 #[.agg (az sa Aa na ca ta Ba ma da),.agg (az sb Ab nb cb tb Bb mb db)] w (IB (a/b) w):=by
 have hE:=((((Env.start w).fv ha).fv hb).blk 29 (az sa Aa na ca ta Ba ma da) (g:=w.heap.size) rfl).blk 29 (az sb Ab nb cb tb Bb mb db) (g:=w.heap.size+1) (by simp);have hE:=hE.blk 29 aW (g:=w.heap.size+1+1) (by simp)
 obtain⟨W0,aC⟩:∃W0,W0=(((w.alloc (.cells (az sa Aa na ca ta Ba ma da) 29)).alloc (.cells (az sb Ab nb cb tb Bb mb db) 29)).alloc (.cells aW 29)):=⟨_,rfl⟩
 rw[<-aC] at hE;have aZ:=af aC;clear aC
 go_enter Tryz.func111,Tryz.ntmps111
 go_upto_region 1 with(fail)
 rw[<-aZ.out];obtain⟨k1,k2,k3,k4⟩:=(hE.h2).c4;obtain⟨k5,k6,k7,k8⟩:=(hE.g1).c4;go_wp2_with fail
 have hc:=iq (c:=ca) (d:=da) (c2:=cb) (d2:=db) hE.h4 hE.h3 la lb;refine hc.mono ?_;clear hc;clear k1 k2 k3 k4 k5 k6 k7 k8
 rintro e w9 ⟨rfl,hb⟩
 replace hE:=hE.step hb;clear hb;obtain⟨fU,dX,dY,eu⟩:=(hE.g1).c4;go_wp2_with fail
 refine hE.br (Sg (c:=cb) (d:=db) hE.h3 false (aH hb0)) ?_;clear hE fU dX dY eu;intro FC hE
 go_upto_region 5 with(fail)
 obtain⟨xx,mP⟩:=uT (hE.h4) la;obtain⟨wY,nH⟩:=uT (hE.h3) lb;obtain⟨JD,vq⟩:=(hE.h4).ln la;obtain⟨eD,eS⟩:=(hE.h3).ln lb;replace hE:=hE.drew;refine bH (S:=fun w'=>w'.cell? ⟨w.heap.size,0,none⟩=some (.bool sa)/\w'.cell? ⟨w.heap.size,1,none⟩=some (.slice Aa na ca)/\w'.cell? ⟨w.heap.size,2,none⟩=some (.bool ta)/\w'.cell? ⟨w.heap.size,3,none⟩=some (.slice Ba ma da)/\w'.cell? ⟨w.heap.size+1,0,none⟩=some (.bool sb)/\w'.cell? ⟨w.heap.size+1,1,none⟩=some (.slice Ab nb cb)/\w'.cell? ⟨w.heap.size+1,2,none⟩=some (.bool tb)/\w'.cell? ⟨w.heap.size+1,3,none⟩=some (.slice Bb mb db)) (by kernel_rfl) (hE.h2.j4 hE.g1.c4) (fun hHeld=> ?_);refine tk 0 ?_;refine tk 1 ?_;refine tk 2 ?_;refine tk 3 ?_;refine tk 5 ?_;refine tk 6 ?_;refine tk 7 ?_;refine tk 8 ?_;refine r1 4 (fun K hK=> ?_);go_simp;have hc:=eI (ca:=ca) (cb:=db) (hE.h4).1 (hE.h3).2 (ay JD (by decide)) (ay eS (by decide)) (ay (bE (m:=256) (n:=256) xx nH) (by decide));refine hc.mono ?_;clear hc
 rintro e wX ⟨su,Au,nu,cu,rfl,hu,hb⟩
 replace hE:=hE.step hb;clear hb;replace hE:=hE.wv hu;clear hu
 have lu:nu<=512:=by rw[(hE.g0).len];exact(bE (m:=256) (n:=256) xx nH)
 go_wp2_with fail
 refine hK.out _ _ (hE.h3.j4 hE.h2.c4) (fun hHeld=> ?_);clear hK K;try simp only[PL]
 refine r1 9 (fun K hK=> ?_);go_simp;have hc:=eI (ca:=da) (cb:=cb) (hE.h5).2 (hE.h4).1 (ay vq (by decide)) (ay eD (by decide)) (ay (bE (m:=256) (n:=256) mP wY) (by decide));refine hc.mono ?_;clear hc
 rintro e FD ⟨sv,Av,nv,cv,rfl,hv,hb⟩
 replace hE:=hE.step hb;clear hb;replace hE:=hE.wv hv;clear hv
 have lv:nv<=512:=by rw[(hE.g0).len];exact(bE (m:=256) (n:=256) mP wY)
 go_wp2_with fail
 refine hK.out _ _ (hE.h4.j4 hE.h3.c4) (fun hHeld=> ?_);clear hK K;try simp only[PL]
 refine r1 10 (fun K hK=> ?_);go_simp;have hc:=lf (ca:=cu) (cb:=cv) hE.g1 hE.g0 (ay lu (by decide)) (ay lv (by decide)) (Int.mul_ne_zero (den_nz a) hb0);rw[WK a b] at hc;refine hE.fr hc ?_;clear hE hc;intro sf Af nf cf tf Bf mf df Gc hE;go_wp2_with fail
 refine hK.out _ _ (hE.h5.j4 hE.h4.c4) (fun hHeld=> ?_);clear hK K;try simp only[PL]
 refine r1 11 (fun K hK=> ?_);go_simp;refine hE.fr (mZ (c:=cf) (d:=df) hE.g0 lr) ?_;clear hE;intro sr Ar nr cr tr Br mr dr TL hE;go_wp2_with fail
 refine hK.out _ _ (hE.h6.j4 hE.h5.c4) (fun hHeld=> ?_);clear hK K;try simp only[PL]
 refine tk 12 ?_;refine tk 13 ?_;refine r1 14 (fun K hK=> ?_)
 have cS:w.heap.size<=w.heap.size+1+1:=by omega
 obtain⟨WW,bn,hB,hV,aM⟩:=aR hE hE.h4 cS hE.g0 cr dr;obtain⟨x0,x1,x2,x3⟩:=(hE.h4).c4;obtain⟨fL,fM,fV,fW⟩:=hE.h4.f4;have bR:=af bn;clear bn;have q19:=(hE.h6).aj (R:=w.heap.size+1+1) (by omega) (.bool sr) (.slice Ar nr cr) (.bool tr) (.slice Br mr dr);rw[<-bR.out] at q19;have q20:=(hE.h5).aj (R:=w.heap.size+1+1) (by omega) (.bool sr) (.slice Ar nr cr) (.bool tr) (.slice Br mr dr);rw[<-bR.out] at q20;go_simp;rw[<-bR.out];refine hK.out _ _ (q19.j4 q20.c4) (fun hHeld=> ?_);clear hK K;try simp only[PL]
 refine tk 15 ?_;refine aX (by kernel_rfl) ?_ _;go_wp2_with fail
 obtain⟨y0,y1,y2,y3⟩:=hB.c4;refine aK (v:= .tuple #[.agg (az sr Ar nr cr tr Br mr dr),.int .i64 0]) (by simp[results,Tryz.results111,go_sem,y0,y1,y2,y3]) rfl ?_;exact⟨sr,Ar,nr,cr,tr,Br,mr,dr,rfl,hV,aM⟩
end Go.Proofs.YtclbiihcbfnjmaaGreat
