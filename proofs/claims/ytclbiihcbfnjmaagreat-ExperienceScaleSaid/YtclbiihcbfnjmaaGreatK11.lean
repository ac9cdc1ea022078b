/-
  Parts.
-/
import Derived.Test.YtclbiihcbfnjmaaGreatK10
set_option linter.unusedSimpArgs false
set_option maxRecDepth 100000
set_option maxHeartbeats 2000000
namespace Go.Proofs.YtclbiihcbfnjmaaGreat
section
open Go.RowKit

def Kt (q:Rat)(w:World)(e:Ending)(w':World):Prop:=∃s A n c t B m d,e= .returned (.tuple #[.agg (az s A n c t B m d),.int .i64 0])/\FV w' q s A n t B m/\Below w.heap.size w w'
def agc (k:Int)(w:World)(e:Ending)(w':World):Prop:=e= .returned (.tuple #[.agg aY,.int .i64 k])/\Below w.heap.size w w'
theorem TY {w:World}{q:Rat}{s t:Bool}{A B:Option Addr}{n m:Nat}(h:FV w q s A n t B m)(r:Bool)(hq:decide (256<fl q)=r):(decide (256<n)||decide (256<m))=r:=by
 have h1:=h.1.len;have h3:=h.2.len;rw[Int.natAbs_natCast] at h3;rw[<-hq,Bool.eq_iff_iff,Bool.or_eq_true,decide_eq_true_iff,decide_eq_true_iff,decide_eq_true_iff];unfold fl;omega
theorem kZ {q:Rat}{s t:Bool}{A B:Option Addr}{n m c d:Nat}{w:World}(ha:FV w q s A n t B m)(hf:fl q<=256):
  Calls Tryz.prog 117 #[.agg (az s A n c t B m d)] w (Kt q w):=by
 have hq:=TY ha false (decide_eq_false (by omega));have hE:=((Env.start w).fv ha).blk 138 (az s A n c t B m d) (g:=w.heap.size) rfl;have hE:=hE.blk 29 aY (g:=w.heap.size+1) (by simp)
 obtain⟨W0,aC⟩:∃W0,W0=((w.alloc (.cells (az s A n c t B m d) 138)).alloc (.cells aY 29)):=⟨_,rfl⟩
 rw[<-aC] at hE;have aU:=Lib.hid aC;clear aC
 go_enter Tryz.func117,Tryz.ntmps117
 go_upto_region 1 with(fail)
 rw[<-aU.out];obtain⟨k1,k2,k3,k4⟩:=(hE.here.1.2).c4;go_wp2_with fail
 refine hE.br (kY s t A B n m c d W0 false hq) ?_;clear hE k1 k2 k3 k4;intro w5 hE;obtain⟨k6,k7,k8,k9⟩:=(hE.here.1.2).c4
 have cA:w.heap.size<=w.heap.size+1:=by omega
 obtain⟨WW,bn,hB,hV,aQ⟩:=aO hE hE.here.2 cA hE.h2 c d;obtain⟨x0,x1,x2,x3⟩:=(hE.here.2).c4;obtain⟨fQ,fR,gJ,gK⟩:=hE.here.2.f4;have bJ:=Lib.hid bn;clear bn;go_wp2_with fail
 clear k6 k7 k8 k9;rw[<-bJ.out];obtain⟨y0,y1,y2,y3⟩:=hB.c4;refine bodyPost_ret (v:= .tuple #[.agg (az s A n c t B m d),.int .i64 0]) (by simp[results,Tryz.results117,go_sem,y0,y1,y2,y3]) rfl ?_;exact⟨s,A,n,c,t,B,m,d,rfl,hV,aQ⟩
theorem wI (z:Int)(w:World)(h1:-9223372036854775808<=z)(h2:z<=9223372036854775807):Calls Tryz.prog 73 #[.int .i64 z] w (WR z w):=
 (C5 z w h1 h2).mono fun _ _ h=>by obtain⟨s,A,n,c,he,ho,hb⟩:=h.vi;exact⟨s,A,n,c,he,ho.v,hb⟩
theorem aR (z:Int)(w:World)(h1:-9223372036854775808<=z)(h2:z<=9223372036854775807):
  Calls Tryz.prog 24 #[.int .i64 z] w (FR (z:Rat) w):=by
 have hE:=Env.start w;have hE:=hE.blk 29 aY (g:=w.heap.size) rfl
 obtain⟨W0,aC⟩:∃W0,W0=(w.alloc (.cells aY 29)):=⟨_,rfl⟩
 rw[<-aC] at hE;have aU:=Lib.hid aC;clear aC
 go_enter Tryz.func24,Tryz.ntmps24
 go_upto_region 1 with(fail)
 rw[<-aU.out];go_wp2_with fail
 have hc:=wI z W0 h1 h2;refine hc.mono ?_;clear hc
 rintro e w1 ⟨sn,An,nn,cn,rfl,hn,hb⟩
 replace hE:=hE.step hb;clear hb;replace hE:=hE.wv hn;clear hn;go_wp2_with fail
 have hc:=wI 1 w1 (by decide) (by decide);refine hc.mono ?_;clear hc
 rintro e w2 ⟨sd,Ad,nd,cd,rfl,hd,hb⟩
 replace hE:=hE.step hb;clear hb;replace hE:=hE.wv hd;clear hd;have mV:FV w2 (z:Rat) sn An nn sd Ad nd:=⟨hE.here.1.2,hE.here.2⟩;replace hE:=hE.fv mV;clear mV
 have cA:w.heap.size<=w.heap.size:=by omega
 obtain⟨WW,bn,hB,hV,aQ⟩:=aO hE hE.h3 cA hE.here.2 cn cd;obtain⟨x0,x1,x2,x3⟩:=(hE.h3).c4;obtain⟨fQ,fR,gJ,gK⟩:=hE.h3.f4;have bJ:=Lib.hid bn;clear bn;go_wp2_with fail
 rw[<-bJ.out];obtain⟨y0,y1,y2,y3⟩:=hB.c4;refine bodyPost_ret (v:= .agg (az sn An nn cn sd Ad nd cd)) (by simp[results,Tryz.results24,go_sem,y0,y1,y2,y3]) rfl ?_;exact⟨sn,An,nn,cn,sd,Ad,nd,cd,rfl,hV,aQ⟩
theorem Fj (a b:Rat):(a.den:Int)*(b.den:Int)≠0:=by
 have h1:=den_pos a;have h2:=den_pos b;have:=Int.mul_pos (show(0:Int)<a.den by omega) (show(0:Int)<b.den by omega);omega
theorem yl {a b:Rat}{sa ta sb tb:Bool}{Aa Ba Ab Bb:Option Addr}{na ca ma da nb cb mb db:Nat}{w:World}(ha:FV w a sa Aa na ta Ba ma)(hb:FV w b sb Ab nb tb Bb mb)(la:fl a<=256)(lb:fl b<=256)(lr:fl (a+b)<=256):
  Calls Tryz.prog 77 #[.agg (az sa Aa na ca ta Ba ma da),.agg (az sb Ab nb cb tb Bb mb db)] w (Kt (a+b) w):=by
 have hE:=((((Env.start w).fv ha).fv hb).blk 29 (az sa Aa na ca ta Ba ma da) (g:=w.heap.size) rfl).blk 29 (az sb Ab nb cb tb Bb mb db) (g:=w.heap.size+1) (by simp);have hE:=hE.blk 29 aY (g:=w.heap.size+1+1) (by simp)
 obtain⟨W0,aC⟩:∃W0,W0=(((w.alloc (.cells (az sa Aa na ca ta Ba ma da) 29)).alloc (.cells (az sb Ab nb cb tb Bb mb db) 29)).alloc (.cells aY 29)):=⟨_,rfl⟩
 rw[<-aC] at hE;have aU:=Lib.hid aC;clear aC
 go_enter Tryz.func77,Tryz.ntmps77
 go_upto_region 1 with(fail)
 rw[<-aU.out];obtain⟨k1,k2,k3,k4⟩:=(hE.h2).c4;obtain⟨k5,k6,k7,k8⟩:=(hE.here.1.2).c4;go_wp2_with fail
 have hc:=iJ (c:=ca) (d:=da) (c2:=cb) (d2:=db) hE.h4 hE.h3 la lb;refine hc.mono ?_;clear hc;clear k1 k2 k3 k4 k5 k6 k7 k8
 rintro e w9 ⟨rfl,hb⟩
 replace hE:=hE.step hb;clear hb
 go_upto_region 3 with(fail)
 obtain⟨Hv,rP⟩:=bV.1 la;obtain⟨Hw,rQ⟩:=bV.1 lb;obtain⟨TZ,Ep⟩:=(hE.h4).ln la;obtain⟨dI,dL⟩:=(hE.h3).ln lb
 have rP:ln aj ((a.den:Nat):Int).natAbs<=256:=by rw[Int.natAbs_natCast];exact rP
 have rQ:ln aj ((b.den:Nat):Int).natAbs<=256:=by rw[Int.natAbs_natCast];exact rQ
 replace hE:=hE.drew;refine wp_region_held_drew (S:=fun w'=>w'.cell? ⟨w.heap.size,0,none⟩=some (.bool sa)/\w'.cell? ⟨w.heap.size,1,none⟩=some (.slice Aa na ca)/\w'.cell? ⟨w.heap.size,2,none⟩=some (.bool ta)/\w'.cell? ⟨w.heap.size,3,none⟩=some (.slice Ba ma da)/\w'.cell? ⟨w.heap.size+1,0,none⟩=some (.bool sb)/\w'.cell? ⟨w.heap.size+1,1,none⟩=some (.slice Ab nb cb)/\w'.cell? ⟨w.heap.size+1,2,none⟩=some (.bool tb)/\w'.cell? ⟨w.heap.size+1,3,none⟩=some (.slice Bb mb db)) (by kernel_rfl) (hE.h2.j4 hE.here.1.2.c4) (fun hHeld=> ?_);refine tk 0 ?_;refine tk 1 ?_;refine tk 2 ?_;refine tk 3 ?_;refine tk 5 ?_;refine tk 6 ?_;refine tk 7 ?_;refine tk 8 ?_;refine tk 11 ?_;refine tk 12 ?_;refine tk 13 ?_;refine tk 14 ?_;refine r1 4 (fun K hK=> ?_);go_simp;have hc:=er (ca:=ca) (cb:=db) (hE.h4).1 (hE.h3).2 (Nat.le_trans TZ (by decide)) (Nat.le_trans dL (by decide)) (Nat.le_trans (bY (m:=256) (n:=256) Hv rQ) (by decide));refine hc.mono ?_;clear hc
 rintro e yx ⟨sx,Ax,nx,cx,rfl,hx,hb⟩
 replace hE:=hE.step hb;clear hb;replace hE:=hE.wv hx;clear hx
 have lx:nx<=512:=by rw[(hE.here.2).len];exact(bY (m:=256) (n:=256) Hv rQ)
 go_wp2_with fail
 refine hK.out _ _ (hE.h3.j4 hE.h2.c4) (fun hHeld=> ?_);clear hK K;try simp only[PL]
 refine r1 9 (fun K hK=> ?_);go_simp;have hc:=er (ca:=cb) (cb:=da) (hE.h4).1 (hE.h5).2 (Nat.le_trans dI (by decide)) (Nat.le_trans Ep (by decide)) (Nat.le_trans (bY (m:=256) (n:=256) Hw rP) (by decide));refine hc.mono ?_;clear hc
 rintro e zY ⟨sy,Ay,ny,cy,rfl,hy,hb⟩
 replace hE:=hE.step hb;clear hb;replace hE:=hE.wv hy;clear hy
 have ly:ny<=512:=by rw[(hE.here.2).len];exact(bY (m:=256) (n:=256) Hw rP)
 go_wp2_with fail
 refine hK.out _ _ (hE.h4.j4 hE.h3.c4) (fun hHeld=> ?_);clear hK K;try simp only[PL]
 refine r1 10 (fun K hK=> ?_);go_simp;have hc:=Hx (ca:=cx) (cb:=cy) hE.here.1.2 hE.here.2 (Nat.le_trans lx (by decide)) (Nat.le_trans ly (by decide)) (Nat.le_trans (sW (m:=512) (by rw[<-(hE.here.1.2).len];exact lx) (by rw[<-(hE.here.2).len];exact ly)) (by decide));refine hc.mono ?_;clear hc
 rintro e IV ⟨sz,Az,nz,cz,rfl,hz,hb⟩
 replace hE:=hE.step hb;clear hb;replace hE:=hE.wv hz;clear hz
 have lz:nz<=513:=by rw[(hE.here.2).len];exact(sW (m:=512) (by rw[<-(hE.h2).len];exact lx) (by rw[<-(hE.here.1.2).len];exact ly))
 go_wp2_with fail
 refine hK.out _ _ (hE.h5.j4 hE.h4.c4) (fun hHeld=> ?_);clear hK K;try simp only[PL]
 refine r1 15 (fun K hK=> ?_);go_simp;have hc:=er (ca:=da) (cb:=db) (hE.h7).2 (hE.h6).2 (Nat.le_trans Ep (by decide)) (Nat.le_trans dL (by decide)) (Nat.le_trans (bY (m:=256) (n:=256) rP rQ) (by decide));refine hc.mono ?_;clear hc
 rintro e VM ⟨su,Au,nu,cu,rfl,hu,hb⟩
 replace hE:=hE.step hb;clear hb;replace hE:=hE.wv hu;clear hu
 have lu:nu<=512:=by rw[(hE.here.2).len];exact(bY (m:=256) (n:=256) rP rQ)
 go_wp2_with fail
 refine hK.out _ _ (hE.h6.j4 hE.h5.c4) (fun hHeld=> ?_);clear hK K;try simp only[PL]
 refine r1 16 (fun K hK=> ?_);go_simp;have hc:=nC (ca:=cz) (cb:=cu) hE.here.1.2 hE.here.2 (Nat.le_trans lz (by decide)) (Nat.le_trans lu (by decide)) (Fj a b);rw[TR a b] at hc;refine hE.fr hc ?_;clear hE hc;intro sf Af nf cf tf Bf mf df zQ hE;go_wp2_with fail
 refine hK.out _ _ (hE.h7.j4 hE.h6.c4) (fun hHeld=> ?_);clear hK K;try simp only[PL]
 refine r1 17 (fun K hK=> ?_);go_simp;refine hE.fr (kZ (c:=cf) (d:=df) hE.here.2 lr) ?_;clear hE;intro sr Ar nr cr tr Br mr dr w15 hE;go_wp2_with fail
 refine hK.out _ _ (hE.h8.j4 hE.h7.c4) (fun hHeld=> ?_);clear hK K;try simp only[PL]
 refine tk 18 ?_;refine tk 19 ?_;refine r1 20 (fun K hK=> ?_)
 have cA:w.heap.size<=w.heap.size+1+1:=by omega
 obtain⟨WW,bn,hB,hV,aQ⟩:=aO hE hE.h6 cA hE.here.2 cr dr;obtain⟨x0,x1,x2,x3⟩:=(hE.h6).c4;obtain⟨fQ,fR,gJ,gK⟩:=hE.h6.f4;have bJ:=Lib.hid bn;clear bn;have q16:=(hE.h8).ai (R:=w.heap.size+1+1) (by omega) (.bool sr) (.slice Ar nr cr) (.bool tr) (.slice Br mr dr);rw[<-bJ.out] at q16;have q17:=(hE.h7).ai (R:=w.heap.size+1+1) (by omega) (.bool sr) (.slice Ar nr cr) (.bool tr) (.slice Br mr dr);rw[<-bJ.out] at q17;go_simp;rw[<-bJ.out];refine hK.out _ _ (q16.j4 q17.c4) (fun hHeld=> ?_);clear hK K;try simp only[PL]
 refine tk 21 ?_;refine wpAnyH_done (by kernel_rfl) ?_ _;go_wp2_with fail
 obtain⟨y0,y1,y2,y3⟩:=hB.c4;refine bodyPost_ret (v:= .tuple #[.agg (az sr Ar nr cr tr Br mr dr),.int .i64 0]) (by simp[results,Tryz.results77,go_sem,y0,y1,y2,y3]) rfl ?_;exact⟨sr,Ar,nr,cr,tr,Br,mr,dr,rfl,hV,aQ⟩
theorem tG {a b:Rat}{sa ta sb tb:Bool}{Aa Ba Ab Bb:Option Addr}{na ca ma da nb cb mb db:Nat}{w:World}(ha:FV w a sa Aa na ta Ba ma)(hb:FV w b sb Ab nb tb Bb mb)(la:fl a<=256)(lb:fl b<=256)(lr:fl (a-b)<=256):
  Calls Tryz.prog 72 #[.agg (az sa Aa na ca ta Ba ma da),.agg (az sb Ab nb cb tb Bb mb db)] w (Kt (a-b) w):=by
 have hE:=((((Env.start w).fv ha).fv hb).blk 29 (az sa Aa na ca ta Ba ma da) (g:=w.heap.size) rfl).blk 29 (az sb Ab nb cb tb Bb mb db) (g:=w.heap.size+1) (by simp);have hE:=hE.blk 29 aY (g:=w.heap.size+1+1) (by simp)
 obtain⟨W0,aC⟩:∃W0,W0=(((w.alloc (.cells (az sa Aa na ca ta Ba ma da) 29)).alloc (.cells (az sb Ab nb cb tb Bb mb db) 29)).alloc (.cells aY 29)):=⟨_,rfl⟩
 rw[<-aC] at hE;have aU:=Lib.hid aC;clear aC
 go_enter Tryz.func72,Tryz.ntmps72
 go_upto_region 1 with(fail)
 rw[<-aU.out];obtain⟨k1,k2,k3,k4⟩:=(hE.h2).c4;obtain⟨k5,k6,k7,k8⟩:=(hE.here.1.2).c4;go_wp2_with fail
 have hc:=iJ (c:=ca) (d:=da) (c2:=cb) (d2:=db) hE.h4 hE.h3 la lb;refine hc.mono ?_;clear hc;clear k1 k2 k3 k4 k5 k6 k7 k8
 rintro e w9 ⟨rfl,hb⟩
 replace hE:=hE.step hb;clear hb
 go_upto_region 3 with(fail)
 obtain⟨Hv,rP⟩:=bV.1 la;obtain⟨Hw,rQ⟩:=bV.1 lb;obtain⟨TZ,Ep⟩:=(hE.h4).ln la;obtain⟨dI,dL⟩:=(hE.h3).ln lb
 have rP:ln aj ((a.den:Nat):Int).natAbs<=256:=by rw[Int.natAbs_natCast];exact rP
 have rQ:ln aj ((b.den:Nat):Int).natAbs<=256:=by rw[Int.natAbs_natCast];exact rQ
 replace hE:=hE.drew;refine wp_region_held_drew (S:=fun w'=>w'.cell? ⟨w.heap.size,0,none⟩=some (.bool sa)/\w'.cell? ⟨w.heap.size,1,none⟩=some (.slice Aa na ca)/\w'.cell? ⟨w.heap.size,2,none⟩=some (.bool ta)/\w'.cell? ⟨w.heap.size,3,none⟩=some (.slice Ba ma da)/\w'.cell? ⟨w.heap.size+1,0,none⟩=some (.bool sb)/\w'.cell? ⟨w.heap.size+1,1,none⟩=some (.slice Ab nb cb)/\w'.cell? ⟨w.heap.size+1,2,none⟩=some (.bool tb)/\w'.cell? ⟨w.heap.size+1,3,none⟩=some (.slice Bb mb db)) (by kernel_rfl) (hE.h2.j4 hE.here.1.2.c4) (fun hHeld=> ?_);refine tk 0 ?_;refine tk 1 ?_;refine tk 2 ?_;refine tk 3 ?_;refine tk 5 ?_;refine tk 6 ?_;refine tk 7 ?_;refine tk 8 ?_;refine tk 12 ?_;refine tk 13 ?_;refine tk 14 ?_;refine tk 15 ?_;refine r1 4 (fun K hK=> ?_);go_simp;have hc:=er (ca:=ca) (cb:=db) (hE.h4).1 (hE.h3).2 (Nat.le_trans TZ (by decide)) (Nat.le_trans dL (by decide)) (Nat.le_trans (bY (m:=256) (n:=256) Hv rQ) (by decide));refine hc.mono ?_;clear hc
 rintro e yx ⟨sx,Ax,nx,cx,rfl,hx,hb⟩
 replace hE:=hE.step hb;clear hb;replace hE:=hE.wv hx;clear hx
 have lx:nx<=512:=by rw[(hE.here.2).len];exact(bY (m:=256) (n:=256) Hv rQ)
 go_wp2_with fail
 refine hK.out _ _ (hE.h3.j4 hE.h2.c4) (fun hHeld=> ?_);clear hK K;try simp only[PL]
 refine r1 9 (fun K hK=> ?_);go_simp;have hc:=er (ca:=cb) (cb:=da) (hE.h4).1 (hE.h5).2 (Nat.le_trans dI (by decide)) (Nat.le_trans Ep (by decide)) (Nat.le_trans (bY (m:=256) (n:=256) Hw rP) (by decide));refine hc.mono ?_;clear hc
 rintro e zY ⟨sy,Ay,ny,cy,rfl,hy,hb⟩
 replace hE:=hE.step hb;clear hb;replace hE:=hE.wv hy;clear hy
 have ly:ny<=512:=by rw[(hE.here.2).len];exact(bY (m:=256) (n:=256) Hw rP)
 go_wp2_with fail
 refine hK.out _ _ (hE.h4.j4 hE.h3.c4) (fun hHeld=> ?_);clear hK K;try simp only[PL]
 refine r1 10 (fun K hK=> ?_);go_simp;have hc:=eK (c:=cy) hE.here.2 (Nat.le_trans ly (by decide));refine hc.mono ?_;clear hc
 rintro e IV ⟨so,Ao,no,co,rfl,ho,hb⟩
 replace hE:=hE.step hb;clear hb;replace hE:=hE.wv ho;clear ho;have lo:=zh hE.here.1.2 hE.here.2 ly;go_wp2_with fail
 refine hK.out _ _ (hE.h5.j4 hE.h4.c4) (fun hHeld=> ?_);clear hK K;try simp only[PL]
 refine r1 11 (fun K hK=> ?_);go_simp;have hc:=Hx (ca:=cx) (cb:=co) hE.h2 hE.here.2 (Nat.le_trans lx (by decide)) (Nat.le_trans lo (by decide)) (Nat.le_trans (sW (m:=512) (by rw[<-(hE.h2).len];exact lx) (by rw[<-(hE.here.2).len];exact lo)) (by decide));refine hc.mono ?_;clear hc
 rintro e VM ⟨sz,Az,nz,cz,rfl,hz,hb⟩
 replace hE:=hE.step hb;clear hb;replace hE:=hE.wv hz;clear hz
 have lz:nz<=513:=by rw[(hE.here.2).len];exact(sW (m:=512) (by rw[<-(hE.h3).len];exact lx) (by rw[<-(hE.here.1.2).len];exact lo))
 go_wp2_with fail
 refine hK.out _ _ (hE.h6.j4 hE.h5.c4) (fun hHeld=> ?_);clear hK K;try simp only[PL]
 refine r1 16 (fun K hK=> ?_);go_simp;have hc:=er (ca:=da) (cb:=db) (hE.h8).2 (hE.h7).2 (Nat.le_trans Ep (by decide)) (Nat.le_trans dL (by decide)) (Nat.le_trans (bY (m:=256) (n:=256) rP rQ) (by decide));refine hc.mono ?_;clear hc
 rintro e zQ ⟨su,Au,nu,cu,rfl,hu,hb⟩
 replace hE:=hE.step hb;clear hb;replace hE:=hE.wv hu;clear hu
 have lu:nu<=512:=by rw[(hE.here.2).len];exact(bY (m:=256) (n:=256) rP rQ)
 go_wp2_with fail
 refine hK.out _ _ (hE.h7.j4 hE.h6.c4) (fun hHeld=> ?_);clear hK K;try simp only[PL]
 refine r1 17 (fun K hK=> ?_);go_simp;have hc:=nC (ca:=cz) (cb:=cu) hE.here.1.2 hE.here.2 (Nat.le_trans lz (by decide)) (Nat.le_trans lu (by decide)) (Fj a b);rw[TS a b] at hc;refine hE.fr hc ?_;clear hE hc;intro sf Af nf cf tf Bf mf df w15 hE;go_wp2_with fail
 refine hK.out _ _ (hE.h8.j4 hE.h7.c4) (fun hHeld=> ?_);clear hK K;try simp only[PL]
 refine r1 18 (fun K hK=> ?_);go_simp;refine hE.fr (kZ (c:=cf) (d:=df) hE.here.2 lr) ?_;clear hE;intro sr Ar nr cr tr Br mr dr EC hE;go_wp2_with fail
 refine hK.out _ _ (hE.h9.j4 hE.h8.c4) (fun hHeld=> ?_);clear hK K;try simp only[PL]
 refine tk 19 ?_;refine tk 20 ?_;refine r1 21 (fun K hK=> ?_)
 have cA:w.heap.size<=w.heap.size+1+1:=by omega
 obtain⟨WW,bn,hB,hV,aQ⟩:=aO hE hE.h7 cA hE.here.2 cr dr;obtain⟨x0,x1,x2,x3⟩:=(hE.h7).c4;obtain⟨fQ,fR,gJ,gK⟩:=hE.h7.f4;have bJ:=Lib.hid bn;clear bn;have q17:=(hE.h9).ai (R:=w.heap.size+1+1) (by omega) (.bool sr) (.slice Ar nr cr) (.bool tr) (.slice Br mr dr);rw[<-bJ.out] at q17;have q18:=(hE.h8).ai (R:=w.heap.size+1+1) (by omega) (.bool sr) (.slice Ar nr cr) (.bool tr) (.slice Br mr dr);rw[<-bJ.out] at q18;go_simp;rw[<-bJ.out];refine hK.out _ _ (q17.j4 q18.c4) (fun hHeld=> ?_);clear hK K;try simp only[PL]
 refine tk 22 ?_;refine wpAnyH_done (by kernel_rfl) ?_ _;go_wp2_with fail
 obtain⟨y0,y1,y2,y3⟩:=hB.c4;refine bodyPost_ret (v:= .tuple #[.agg (az sr Ar nr cr tr Br mr dr),.int .i64 0]) (by simp[results,Tryz.results72,go_sem,y0,y1,y2,y3]) rfl ?_;exact⟨sr,Ar,nr,cr,tr,Br,mr,dr,rfl,hV,aQ⟩
theorem tH {a b:Rat}{sa ta sb tb:Bool}{Aa Ba Ab Bb:Option Addr}{na ca ma da nb cb mb db:Nat}{w:World}(ha:FV w a sa Aa na ta Ba ma)(hb:FV w b sb Ab nb tb Bb mb)(la:fl a<=256)(lb:fl b<=256)(lr:fl (a*b)<=256):
  Calls Tryz.prog 78 #[.agg (az sa Aa na ca ta Ba ma da),.agg (az sb Ab nb cb tb Bb mb db)] w (Kt (a*b) w):=by
 have hE:=((((Env.start w).fv ha).fv hb).blk 29 (az sa Aa na ca ta Ba ma da) (g:=w.heap.size) rfl).blk 29 (az sb Ab nb cb tb Bb mb db) (g:=w.heap.size+1) (by simp);have hE:=hE.blk 29 aY (g:=w.heap.size+1+1) (by simp)
 obtain⟨W0,aC⟩:∃W0,W0=(((w.alloc (.cells (az sa Aa na ca ta Ba ma da) 29)).alloc (.cells (az sb Ab nb cb tb Bb mb db) 29)).alloc (.cells aY 29)):=⟨_,rfl⟩
 rw[<-aC] at hE;have aU:=Lib.hid aC;clear aC
 go_enter Tryz.func78,Tryz.ntmps78
 go_upto_region 1 with(fail)
 rw[<-aU.out];obtain⟨k1,k2,k3,k4⟩:=(hE.h2).c4;obtain⟨k5,k6,k7,k8⟩:=(hE.here.1.2).c4;go_wp2_with fail
 have hc:=iJ (c:=ca) (d:=da) (c2:=cb) (d2:=db) hE.h4 hE.h3 la lb;refine hc.mono ?_;clear hc;clear k1 k2 k3 k4 k5 k6 k7 k8
 rintro e w9 ⟨rfl,hb⟩
 replace hE:=hE.step hb;clear hb
 go_upto_region 3 with(fail)
 obtain⟨Hv,rP⟩:=bV.1 la;obtain⟨Hw,rQ⟩:=bV.1 lb;obtain⟨TZ,Ep⟩:=(hE.h4).ln la;obtain⟨dI,dL⟩:=(hE.h3).ln lb
 have rP:ln aj ((a.den:Nat):Int).natAbs<=256:=by rw[Int.natAbs_natCast];exact rP
 have rQ:ln aj ((b.den:Nat):Int).natAbs<=256:=by rw[Int.natAbs_natCast];exact rQ
 replace hE:=hE.drew;refine wp_region_held_drew (S:=fun w'=>w'.cell? ⟨w.heap.size,0,none⟩=some (.bool sa)/\w'.cell? ⟨w.heap.size,1,none⟩=some (.slice Aa na ca)/\w'.cell? ⟨w.heap.size,2,none⟩=some (.bool ta)/\w'.cell? ⟨w.heap.size,3,none⟩=some (.slice Ba ma da)/\w'.cell? ⟨w.heap.size+1,0,none⟩=some (.bool sb)/\w'.cell? ⟨w.heap.size+1,1,none⟩=some (.slice Ab nb cb)/\w'.cell? ⟨w.heap.size+1,2,none⟩=some (.bool tb)/\w'.cell? ⟨w.heap.size+1,3,none⟩=some (.slice Bb mb db)) (by kernel_rfl) (hE.h2.j4 hE.here.1.2.c4) (fun hHeld=> ?_);refine tk 0 ?_;refine tk 1 ?_;refine tk 2 ?_;refine tk 3 ?_;refine tk 5 ?_;refine tk 6 ?_;refine tk 7 ?_;refine tk 8 ?_;refine r1 4 (fun K hK=> ?_);go_simp;have hc:=er (ca:=ca) (cb:=cb) (hE.h4).1 (hE.h3).1 (Nat.le_trans TZ (by decide)) (Nat.le_trans dI (by decide)) (Nat.le_trans (bY (m:=256) (n:=256) Hv Hw) (by decide));refine hc.mono ?_;clear hc
 rintro e yx ⟨sx,Ax,nx,cx,rfl,hx,hb⟩
 replace hE:=hE.step hb;clear hb;replace hE:=hE.wv hx;clear hx
 have lx:nx<=512:=by rw[(hE.here.2).len];exact(bY (m:=256) (n:=256) Hv Hw)
 go_wp2_with fail
 refine hK.out _ _ (hE.h3.j4 hE.h2.c4) (fun hHeld=> ?_);clear hK K;try simp only[PL]
 refine r1 9 (fun K hK=> ?_);go_simp;have hc:=er (ca:=da) (cb:=db) (hE.h5).2 (hE.h4).2 (Nat.le_trans Ep (by decide)) (Nat.le_trans dL (by decide)) (Nat.le_trans (bY (m:=256) (n:=256) rP rQ) (by decide));refine hc.mono ?_;clear hc
 rintro e zY ⟨su,Au,nu,cu,rfl,hu,hb⟩
 replace hE:=hE.step hb;clear hb;replace hE:=hE.wv hu;clear hu
 have lu:nu<=512:=by rw[(hE.here.2).len];exact(bY (m:=256) (n:=256) rP rQ)
 go_wp2_with fail
 refine hK.out _ _ (hE.h4.j4 hE.h3.c4) (fun hHeld=> ?_);clear hK K;try simp only[PL]
 refine r1 10 (fun K hK=> ?_);go_simp;have hc:=nC (ca:=cx) (cb:=cu) hE.here.1.2 hE.here.2 (Nat.le_trans lx (by decide)) (Nat.le_trans lu (by decide)) (Fj a b);rw[TT a b] at hc;refine hE.fr hc ?_;clear hE hc;intro sf Af nf cf tf Bf mf df IV hE;go_wp2_with fail
 refine hK.out _ _ (hE.h5.j4 hE.h4.c4) (fun hHeld=> ?_);clear hK K;try simp only[PL]
 refine r1 11 (fun K hK=> ?_);go_simp;refine hE.fr (kZ (c:=cf) (d:=df) hE.here.2 lr) ?_;clear hE;intro sr Ar nr cr tr Br mr dr VM hE;go_wp2_with fail
 refine hK.out _ _ (hE.h6.j4 hE.h5.c4) (fun hHeld=> ?_);clear hK K;try simp only[PL]
 refine tk 12 ?_;refine tk 13 ?_;refine r1 14 (fun K hK=> ?_)
 have cA:w.heap.size<=w.heap.size+1+1:=by omega
 obtain⟨WW,bn,hB,hV,aQ⟩:=aO hE hE.h4 cA hE.here.2 cr dr;obtain⟨x0,x1,x2,x3⟩:=(hE.h4).c4;obtain⟨fQ,fR,gJ,gK⟩:=hE.h4.f4;have bJ:=Lib.hid bn;clear bn;have q14:=(hE.h6).ai (R:=w.heap.size+1+1) (by omega) (.bool sr) (.slice Ar nr cr) (.bool tr) (.slice Br mr dr);rw[<-bJ.out] at q14;have q15:=(hE.h5).ai (R:=w.heap.size+1+1) (by omega) (.bool sr) (.slice Ar nr cr) (.bool tr) (.slice Br mr dr);rw[<-bJ.out] at q15;go_simp;rw[<-bJ.out];refine hK.out _ _ (q14.j4 q15.c4) (fun hHeld=> ?_);clear hK K;try simp only[PL]
 refine tk 15 ?_;refine wpAnyH_done (by kernel_rfl) ?_ _;go_wp2_with fail
 obtain⟨y0,y1,y2,y3⟩:=hB.c4;refine bodyPost_ret (v:= .tuple #[.agg (az sr Ar nr cr tr Br mr dr),.int .i64 0]) (by simp[results,Tryz.results78,go_sem,y0,y1,y2,y3]) rfl ?_;exact⟨sr,Ar,nr,cr,tr,Br,mr,dr,rfl,hV,aQ⟩
end
section
open Go.RowKit

def JJ (a b:Rat):Int:=vA (a.num*(b.den:Int)) (b.num*(a.den:Int))
theorem aaS {a b:Rat}{sa ta sb tb:Bool}{Aa Ba Ab Bb:Option Addr}{na ca ma da nb cb mb db:Nat}{w:World}(ha:FV w a sa Aa na ta Ba ma)(hb:FV w b sb Ab nb tb Bb mb)(la:fl a<=256)(lb:fl b<=256):
  Calls Tryz.prog 31 #[.agg (az sa Aa na ca ta Ba ma da),.agg (az sb Ab nb cb tb Bb mb db)] w (fun e w'=>e= .returned (.int .i64 (JJ a b))/\Below w.heap.size w w'):=by
 have hE:=((((Env.start w).fv ha).fv hb).blk 29 (az sa Aa na ca ta Ba ma da) (g:=w.heap.size) rfl).blk 29 (az sb Ab nb cb tb Bb mb db) (g:=w.heap.size+1) (by simp)
 obtain⟨W0,aC⟩:∃W0,W0=((w.alloc (.cells (az sa Aa na ca ta Ba ma da) 29)).alloc (.cells (az sb Ab nb cb tb Bb mb db) 29)):=⟨_,rfl⟩
 rw[<-aC] at hE;have aU:=Lib.hid aC;clear aC
 go_enter Tryz.func31,Tryz.ntmps31
 go_upto_region 1 with(fail)
 rw[<-aU.out];obtain⟨k1,k2,k3,k4⟩:=(hE.here.1.2).c4;obtain⟨k5,k6,k7,k8⟩:=(hE.here.2).c4;go_wp2_with fail
 have hc:=iJ (c:=ca) (d:=da) (c2:=cb) (d2:=db) hE.h3 hE.h2 la lb;refine hc.mono ?_;clear hc;clear k1 k2 k3 k4 k5 k6 k7 k8
 rintro e w9 ⟨rfl,hb⟩
 replace hE:=hE.step hb;clear hb
 go_upto_region 3 with(fail)
 obtain⟨Hv,rP⟩:=bV.1 la;obtain⟨Hw,rQ⟩:=bV.1 lb;obtain⟨TZ,Ep⟩:=(hE.h3).ln la;obtain⟨dI,dL⟩:=(hE.h2).ln lb
 have rP:ln aj ((a.den:Nat):Int).natAbs<=256:=by rw[Int.natAbs_natCast];exact rP
 have rQ:ln aj ((b.den:Nat):Int).natAbs<=256:=by rw[Int.natAbs_natCast];exact rQ
 obtain⟨v,hv⟩:∃v,v=vA (a.num*(b.den:Int)) (b.num*(a.den:Int)):=⟨_,rfl⟩
 have HV:=Lib.hid hv;clear hv;replace hE:=hE.drew;refine wp_region_held_drew (S:=fun w'=>w'.cell? ⟨w.heap.size,0,none⟩=some (.bool sa)/\w'.cell? ⟨w.heap.size,1,none⟩=some (.slice Aa na ca)/\w'.cell? ⟨w.heap.size,2,none⟩=some (.bool ta)/\w'.cell? ⟨w.heap.size,3,none⟩=some (.slice Ba ma da)/\w'.cell? ⟨w.heap.size+1,0,none⟩=some (.bool sb)/\w'.cell? ⟨w.heap.size+1,1,none⟩=some (.slice Ab nb cb)/\w'.cell? ⟨w.heap.size+1,2,none⟩=some (.bool tb)/\w'.cell? ⟨w.heap.size+1,3,none⟩=some (.slice Bb mb db)) (by kernel_rfl) (hE.here.1.2.j4 hE.here.2.c4) (fun hHeld=> ?_);refine tk 0 ?_;refine tk 1 ?_;refine tk 2 ?_;refine tk 3 ?_;refine tk 5 ?_;refine tk 6 ?_;refine tk 7 ?_;refine tk 8 ?_;refine r1 4 (fun K hK=> ?_);go_simp;have hc:=er (ca:=ca) (cb:=db) (hE.h3).1 (hE.h2).2 (Nat.le_trans TZ (by decide)) (Nat.le_trans dL (by decide)) (Nat.le_trans (bY (m:=256) (n:=256) Hv rQ) (by decide));refine hc.mono ?_;clear hc
 rintro e yx ⟨sx,Ax,nx,cx,rfl,hx,hb⟩
 replace hE:=hE.step hb;clear hb;replace hE:=hE.wv hx;clear hx
 have lx:nx<=512:=by rw[(hE.here.2).len];exact(bY (m:=256) (n:=256) Hv rQ)
 go_wp2_with fail
 refine hK.out _ _ (hE.h2.j4 hE.here.1.2.c4) (fun hHeld=> ?_);clear hK K;try simp only[PL]
 refine r1 9 (fun K hK=> ?_);go_simp;have hc:=er (ca:=cb) (cb:=da) (hE.h3).1 (hE.h4).2 (Nat.le_trans dI (by decide)) (Nat.le_trans Ep (by decide)) (Nat.le_trans (bY (m:=256) (n:=256) Hw rP) (by decide));refine hc.mono ?_;clear hc
 rintro e zY ⟨sy,Ay,ny,cy,rfl,hy,hb⟩
 replace hE:=hE.step hb;clear hb;replace hE:=hE.wv hy;clear hy
 have ly:ny<=512:=by rw[(hE.here.2).len];exact(bY (m:=256) (n:=256) Hw rP)
 go_wp2_with fail
 refine hK.out _ _ (hE.h3.j4 hE.h2.c4) (fun hHeld=> ?_);clear hK K;try simp only[PL]
 refine r1 10 (fun K hK=> ?_);go_simp;have hc:=agd (c:=cx) (d:=cy) hE.here.1.2 hE.here.2 (Nat.le_trans lx (by decide)) (Nat.le_trans ly (by decide));rw[<-HV.out] at hc;refine hE.br hc ?_;clear hE hc;intro IV hE;go_wp2_with fail
 refine hK.out _ _ (hE.h3.j4 hE.h2.c4) (fun hHeld=> ?_);clear hK K;try simp only[PL]
 refine tk 11 ?_;refine wpAnyH_done (by kernel_rfl) ?_ _;go_wp2_with fail
 go_ret
 exact⟨by rw[HV.out];rfl,hE.av⟩
theorem T3 {a b:Rat}{sa ta sb tb:Bool}{Aa Ba Ab Bb:Option Addr}{na ca ma da nb cb mb db:Nat}{w:World}(ha:FV w a sa Aa na ta Ba ma)(hb:FV w b sb Ab nb tb Bb mb)(la1:na<=1000000)(Xb:ma<=1000000)(lb1:nb<=1000000)(TV:mb<=1000000):
  Calls Tryz.prog 155 #[.agg (az sa Aa na ca ta Ba ma da),.agg (az sb Ab nb cb tb Bb mb db)] w fun e w'=>e= .returned (.bool (decide (a=b)))/\Below w.heap.size w w':=by
 by_cases h1:a.num=b.num
 ·
  have hE:=((((Env.start w).fv ha).fv hb).blk 29 (az sa Aa na ca ta Ba ma da) (g:=w.heap.size) rfl).blk 29 (az sb Ab nb cb tb Bb mb db) (g:=w.heap.size+1) (by simp)
  obtain⟨W0,aC⟩:∃W0,W0=((w.alloc (.cells (az sa Aa na ca ta Ba ma da) 29)).alloc (.cells (az sb Ab nb cb tb Bb mb db) 29)):=⟨_,rfl⟩
  rw[<-aC] at hE;have aU:=Lib.hid aC;clear aC
  go_enter Tryz.func155,Tryz.ntmps155
  go_upto_region 1 with(fail)
  rw[<-aU.out];obtain⟨k1,k2,k3,k4⟩:=(hE.here.1.2).c4;obtain⟨k5,k6,k7,k8⟩:=(hE.here.2).c4;go_wp2_with fail
  have hc:=Fl (c:=ca) (d:=cb) (hE.h3).1 (hE.h2).1 la1 lb1;rw[decide_eq_true h1] at hc;refine hE.br hc ?_;clear hE hc k1 k2 k3 k4 k5 k6 k7 k8;intro w1 hE;obtain⟨k9,eG,cS,cZ⟩:=(hE.here.1.2).c4;obtain⟨dG,dN,fP,lC⟩:=(hE.here.2).c4;go_wp2_with fail
  refine hE.br (Fl (c:=da) (d:=db) (hE.h3).2 (hE.h2).2 Xb TV) ?_;clear hE k9 eG cS cZ dG dN fP lC;intro w2 hE
  obtain⟨v,hv⟩:∃v,v=decide (((a.den:Nat):Int)=((b.den:Nat):Int)):=⟨_,rfl⟩
  rw[<-hv];have HV:=Lib.hid hv;clear hv;have H1:=Lib.hid h1;clear h1;go_wp2_with fail
  go_ret
  refine⟨aS ?_,hE.av⟩;rw[HV.out];exact decide_eq_decide.2 ⟨fun h=>Rat.ext H1.out (by omega),fun h=>by rw[h]⟩
 ·
  have hE:=((((Env.start w).fv ha).fv hb).blk 29 (az sa Aa na ca ta Ba ma da) (g:=w.heap.size) rfl).blk 29 (az sb Ab nb cb tb Bb mb db) (g:=w.heap.size+1) (by simp)
  obtain⟨W0,aC⟩:∃W0,W0=((w.alloc (.cells (az sa Aa na ca ta Ba ma da) 29)).alloc (.cells (az sb Ab nb cb tb Bb mb db) 29)):=⟨_,rfl⟩
  rw[<-aC] at hE;have aU:=Lib.hid aC;clear aC
  go_enter Tryz.func155,Tryz.ntmps155
  go_upto_region 1 with(fail)
  rw[<-aU.out];obtain⟨k1,k2,k3,k4⟩:=(hE.here.1.2).c4;obtain⟨k5,k6,k7,k8⟩:=(hE.here.2).c4;go_wp2_with fail
  have hc:=Fl (c:=ca) (d:=cb) (hE.h3).1 (hE.h2).1 la1 lb1;rw[decide_eq_false h1] at hc;refine hE.br hc ?_;clear hE hc k1 k2 k3 k4 k5 k6 k7 k8;intro w1 hE;go_wp2_with fail
  go_ret
  exact⟨aS (decide_eq_false (fun h=>h1 (by rw[h]))).symm,hE.av⟩
theorem AM {a b:Rat}{sa ta sb tb:Bool}{Aa Ba Ab Bb:Option Addr}{na ca ma da nb cb mb db:Nat}{w:World}(ha:FV w a sa Aa na ta Ba ma)(hb:FV w b sb Ab nb tb Bb mb)(la1:na<=1000000)(Xb:ma<=1000000)(lb1:nb<=1000000)(TV:mb<=1000000):
  Calls Tryz.prog 30 #[.agg (az sa Aa na ca ta Ba ma da),.agg (az sb Ab nb cb tb Bb mb db)] w fun e w'=>e= .returned (.bool (decide (a=b)))/\Below w.heap.size w w':=by
 by_cases h1:a.num=b.num
 ·
  have hE:=((((Env.start w).fv ha).fv hb).blk 29 (az sa Aa na ca ta Ba ma da) (g:=w.heap.size) rfl).blk 29 (az sb Ab nb cb tb Bb mb db) (g:=w.heap.size+1) (by simp)
  obtain⟨W0,aC⟩:∃W0,W0=((w.alloc (.cells (az sa Aa na ca ta Ba ma da) 29)).alloc (.cells (az sb Ab nb cb tb Bb mb db) 29)):=⟨_,rfl⟩
  rw[<-aC] at hE;have aU:=Lib.hid aC;clear aC
  go_enter Tryz.func30,Tryz.ntmps30
  go_upto_region 1 with(fail)
  rw[<-aU.out];obtain⟨k1,k2,k3,k4⟩:=(hE.here.1.2).c4;obtain⟨k5,k6,k7,k8⟩:=(hE.here.2).c4;go_wp2_with fail
  have hc:=qL (c:=ca) (d:=cb) (hE.h3).1 (hE.h2).1 la1 lb1;rw[decide_eq_true h1] at hc;refine hE.br hc ?_;clear hE hc k1 k2 k3 k4 k5 k6 k7 k8;intro w1 hE;obtain⟨k9,eG,cS,cZ⟩:=(hE.here.1.2).c4;obtain⟨dG,dN,fP,lC⟩:=(hE.here.2).c4;go_wp2_with fail
  refine hE.br (qL (c:=da) (d:=db) (hE.h3).2 (hE.h2).2 Xb TV) ?_;clear hE k9 eG cS cZ dG dN fP lC;intro w2 hE
  obtain⟨v,hv⟩:∃v,v=decide (((a.den:Nat):Int)=((b.den:Nat):Int)):=⟨_,rfl⟩
  rw[<-hv];have HV:=Lib.hid hv;clear hv;have H1:=Lib.hid h1;clear h1;go_wp2_with fail
  go_ret
  refine⟨aS ?_,hE.av⟩;rw[HV.out];exact decide_eq_decide.2 ⟨fun h=>Rat.ext H1.out (by omega),fun h=>by rw[h]⟩
 ·
  have hE:=((((Env.start w).fv ha).fv hb).blk 29 (az sa Aa na ca ta Ba ma da) (g:=w.heap.size) rfl).blk 29 (az sb Ab nb cb tb Bb mb db) (g:=w.heap.size+1) (by simp)
  obtain⟨W0,aC⟩:∃W0,W0=((w.alloc (.cells (az sa Aa na ca ta Ba ma da) 29)).alloc (.cells (az sb Ab nb cb tb Bb mb db) 29)):=⟨_,rfl⟩
  rw[<-aC] at hE;have aU:=Lib.hid aC;clear aC
  go_enter Tryz.func30,Tryz.ntmps30
  go_upto_region 1 with(fail)
  rw[<-aU.out];obtain⟨k1,k2,k3,k4⟩:=(hE.here.1.2).c4;obtain⟨k5,k6,k7,k8⟩:=(hE.here.2).c4;go_wp2_with fail
  have hc:=qL (c:=ca) (d:=cb) (hE.h3).1 (hE.h2).1 la1 lb1;rw[decide_eq_false h1] at hc;refine hE.br hc ?_;clear hE hc k1 k2 k3 k4 k5 k6 k7 k8;intro w1 hE;go_wp2_with fail
  go_ret
  exact⟨aS (decide_eq_false (fun h=>h1 (by rw[h]))).symm,hE.av⟩
end
section
open Go.RowKit

theorem OX {z:Int}{A:Option Addr}{n c:Nat}{w:World}(ha:WV w z false A n)(hn:n<=1000000):
  Calls Tryz.prog 133 #[.slice A n c] w fun e w'=>e= .returned (.bool (decide (z=1)))/\Below w.heap.size w w':=by
 obtain⟨hs,hl,hr⟩:=ha;have hz:¬z<0:=of_decide_eq_false hs.symm
 by_cases h1:n=1
 ·
  subst h1;obtain⟨b,o,rfl,hb,hc⟩:=hr (by omega);have c1:=hc 0 (by omega);rw[Nat.add_zero] at c1
  have hv:aB aj z.natAbs 0=z.natAbs:=by
   have h:=cL aD (x:=z.natAbs);rw[<-hl,aZ,jC] at h
   simpa using h
  rw[hv] at c1;have hlt:b<w.heap.size:=hb;clear hl hs hc hr hv
  by_cases h2:z=1
  ·
   have t2:(((z.natAbs:Nat):Int)==1)=true:=beq_iff_eq.2 (by omega);have HE:=Lib.hid (decide_eq_true h2);clear h2
   go_enter Tryz.func133,Tryz.ntmps133
   go_wp2_with fail
   go_ret
   exact⟨aS HE.out.symm,Below.refl _ _⟩
  ·
   have t2:(((z.natAbs:Nat):Int)==1)=false:=beq_eq_false_iff_ne.2 (by omega);have HE:=Lib.hid (decide_eq_false h2);clear h2
   go_enter Tryz.func133,Tryz.ntmps133
   go_wp2_with fail
   go_ret
   exact⟨aS HE.out.symm,Below.refl _ _⟩
 ·
  have vG:¬z=1:=fun e=>h1 (by rw[hl,e];decide)
  have HE:=Lib.hid (decide_eq_false vG);have t1:((n:Int)==1)=false:=beq_eq_false_iff_ne.2 (by omega);clear hl vG hs hr
  go_enter Tryz.func133,Tryz.ntmps133
  go_wp2_with fail
  go_ret
  exact⟨aS HE.out.symm,Below.refl _ _⟩
theorem WV.nat {w:World}{x:Nat}{A:Option Addr}(h:aN w A x):WV w (x:Int) false A (ln aj x):=⟨(decide_eq_false (by omega)).symm,by rw[Int.natAbs_natCast],by rw[Int.natAbs_natCast];exact h⟩
def LR (x:Nat)(w:World)(e:Ending)(w':World):Prop:=∃A n c,e= .returned (.slice A n c)/\WV w' (x:Int) false A n/\Below w.heap.size w w'
def LR2 (x y:Nat)(w:World)(e:Ending)(w':World):Prop:=∃A n c B m d,e= .returned (.tuple #[.slice A n c,.slice B m d])/\WV w' (x:Int) false A n/\WV w' (y:Int) false B m/\Below w.heap.size w w'
section
variable {a b:Int} {s t:Bool} {A B:Option Addr} {n m c d:Nat} {w:World}
theorem wK (ha:WV w a s A n)(hb:WV w b t B m)(la:n<=900000)(lb:m<=900000):
  Calls Tryz.prog 134 #[.slice A n c,.slice B m d] w (LR (Nat.gcd a.natAbs b.natAbs) w):=by
 obtain⟨-,rfl,hA⟩:=ha;obtain⟨-,rfl,hB⟩:=hb
 exact(C6 A B c d a.natAbs b.natAbs w hA hB la lb).mono fun _ _ ⟨A',c',he,h,hb⟩=>⟨A',_,c',he,WV.nat h,hb⟩
theorem uz (ha:WV w a s A n)(hb:WV w b t B m)(la:n<=900000)(lb:m<=900000)(hb0:b≠0):
  Calls Tryz.prog 161 #[.slice A n c,.slice B m d] w (LR2 (a.natAbs/b.natAbs) (a.natAbs%b.natAbs) w):=by
 obtain⟨-,rfl,hA⟩:=ha;obtain⟨-,rfl,hB⟩:=hb
 exact(pP A B c d a.natAbs b.natAbs w hA hB (by omega) la lb).mono fun _ _ ⟨A',c',B',d',he,h,h',hb⟩=>⟨A',_,c',B',_,d',he,WV.nat h,WV.nat h',hb⟩
theorem zj (r:Bool)(ha:WV w a s A n):Calls Tryz.prog 162 #[.bool r,.slice A n c] w (WR (jg r a.natAbs) w):=by
 obtain⟨-,rfl,hA⟩:=ha
 refine(C7 r A (ln aj a.natAbs) c w).mono fun e w' h=> ?_
 have hs:=aaT (z:=jg r a.natAbs) (s:=r) (x:=a.natAbs) rfl;obtain⟨he,hb⟩:=h;exact⟨_,A,_,c,he,⟨hs.2,by rw[hs.1],by rw[hs.1];exact aN.below hA hb⟩,hb⟩
end
theorem Hy (a b:Int)(hb:b≠0):(Rat.divInt a b).num=jg (decide (a<0) !=decide (b<0)) (a.natAbs/Nat.gcd a.natAbs b.natAbs)/\(((Rat.divInt a b).den:Nat):Int)=jg false (b.natAbs/Nat.gcd a.natAbs b.natAbs):=by
 have hg:((Nat.gcd a.natAbs b.natAbs:Nat):Int)∣a:=Int.ofNat_dvd_left.2 (Nat.gcd_dvd_left _ _)
 rcases Int.lt_or_lt_of_ne hb with h|h
 ·
  have h1:=zg (n:=-a) (d:=-b) (by omega);rw[Ho,Int.natAbs_neg,Int.natAbs_neg] at h1;refine⟨?_, ?_⟩
  ·
   rw[h1.1,Int.neg_ediv_of_dvd hg]
   by_cases ha:a<0
   ·
    rw[decide_eq_true ha,decide_eq_true h]
    obtain⟨k,rfl⟩:∃k:Nat,a=-(k:Int):=⟨a.natAbs,by omega⟩
    rw[Int.natAbs_neg,Int.natAbs_natCast] at hg⊢;rw[Int.neg_ediv_of_dvd (Int.natCast_dvd_natCast.2 (Nat.gcd_dvd_left _ _)),Int.neg_neg];show _=((k/Nat.gcd k b.natAbs:Nat):Int);rw[Int.natCast_ediv]
   ·
    rw[decide_eq_false ha,decide_eq_true h]
    obtain⟨k,rfl⟩:∃k:Nat,a=(k:Int):=⟨a.natAbs,by omega⟩
    rw[Int.natAbs_natCast];show _=-((k/Nat.gcd k b.natAbs:Nat):Int);rw[Int.natCast_ediv]
  ·
   rw[h1.2]
   obtain⟨k,rfl⟩:∃k:Nat,b=-(k:Int):=⟨b.natAbs,by omega⟩
   rw[Int.neg_neg,Int.natAbs_neg,Int.natAbs_natCast];show _=((k/Nat.gcd a.natAbs k:Nat):Int);rw[Int.natCast_ediv]
 ·
  have h1:=zg (n:=a) (d:=b) h;refine⟨?_, ?_⟩
  ·
   rw[h1.1,decide_eq_false (show¬b<0 by omega)]
   by_cases ha:a<0
   ·
    rw[decide_eq_true ha]
    obtain⟨k,rfl⟩:∃k:Nat,a=-(k:Int):=⟨a.natAbs,by omega⟩
    rw[Int.natAbs_neg,Int.natAbs_natCast] at hg⊢;rw[Int.neg_ediv_of_dvd (Int.natCast_dvd_natCast.2 (Nat.gcd_dvd_left _ _))];show _=-((k/Nat.gcd k b.natAbs:Nat):Int);rw[Int.natCast_ediv]
   ·
    rw[decide_eq_false ha]
    obtain⟨k,rfl⟩:∃k:Nat,a=(k:Int):=⟨a.natAbs,by omega⟩
    rw[Int.natAbs_natCast];show _=((k/Nat.gcd k b.natAbs:Nat):Int);rw[Int.natCast_ediv]
  ·
   rw[h1.2]
   obtain⟨k,rfl⟩:∃k:Nat,b=(k:Int):=⟨b.natAbs,by omega⟩
   rw[Int.natAbs_natCast];show _=((k/Nat.gcd a.natAbs k:Nat):Int);rw[Int.natCast_ediv]
theorem JK {a b:Int}{sa sb:Bool}{Aa Ab:Option Addr}{na ca nb cb:Nat}{w:World}(ha:WV w a sa Aa na)(hb:WV w b sb Ab nb)(la:na<=900000)(lb:nb<=900000)(hb0:b≠0):
  Calls Tryz.prog 137 #[.agg #[.bool sa,.slice Aa na ca],.agg #[.bool sb,.slice Ab nb cb]] w (FR (Rat.divInt a b) w):=by
 by_cases Ru:Nat.gcd a.natAbs b.natAbs=1
 ·
  have hE:=((((Env.start w).wv ha).wv hb).blk 27 #[.bool sa,.slice Aa na ca] (g:=w.heap.size) rfl).blk 27 #[.bool sb,.slice Ab nb cb] (g:=w.heap.size+1) (by simp);have hE:=hE.blk 29 aY (g:=w.heap.size+1+1) (by simp)
  obtain⟨W0,aC⟩:∃W0,W0=(((w.alloc (.cells #[.bool sa,.slice Aa na ca] 27)).alloc (.cells #[.bool sb,.slice Ab nb cb] 27)).alloc (.cells aY 29)):=⟨_,rfl⟩
  rw[<-aC] at hE;have aU:=Lib.hid aC;clear aC
  go_enter Tryz.func137,Tryz.ntmps137
  go_upto_region 1 with(fail)
  rw[<-aU.out];obtain⟨k1,k2⟩:=(hE.h2).c2;obtain⟨k3,k4⟩:=(hE.here.1.2).c2;go_wp2_with fail
  have hc:=wK (c:=ca) (d:=cb) hE.h4 hE.h3 la lb;refine hc.mono ?_;clear hc;clear k1 k2 k3 k4
  rintro e w5 ⟨Ag,ng,cg,rfl,hg,hb⟩
  replace hE:=hE.step hb;clear hb;replace hE:=hE.wv hg;clear hg
  have lg:ng<=900000:=by rw[(hE.here.2).len,Int.natAbs_natCast];refine Nat.le_trans (bO aD (Nat.gcd_le_right _ (show 0<b.natAbs by omega))) ?_;rw[<-(hE.h4).len];exact lb
  go_wp2_with fail
  have hc:=OX (c:=cg) hE.here.2 (by omega);rw[decide_eq_true (show((Nat.gcd a.natAbs b.natAbs:Nat):Int)=1 by omega)] at hc;refine hE.br hc ?_;clear hE hc;intro w20 hE;obtain⟨e1,e2⟩:=Hy a b hb0;rw[<-(hE.h5).EA,<-(hE.h4).EA] at e1;rw[Ru,Nat.div_one] at e1 e2;have E1:=Lib.hid e1;have E2:=Lib.hid e2;have HG:=Lib.hid Ru;clear e1 e2 Ru
  go_upto_region 3 with(fail)
  replace hE:=hE.drew;refine wp_region_held_drew (S:=fun w'=>w'.cell? ⟨w.heap.size,0,none⟩=some (.bool sa)/\w'.cell? ⟨w.heap.size,1,none⟩=some (.slice Aa na ca)/\w'.cell? ⟨w.heap.size+1,0,none⟩=some (.bool sb)/\w'.cell? ⟨w.heap.size+1,1,none⟩=some (.slice Ab nb cb)) (by kernel_rfl) (hE.h3.j2 hE.h2.c2) (fun hHeld=> ?_);refine tk 0 ?_;refine tk 1 ?_;refine tk 2 ?_;refine tk 3 ?_;refine tk 4 ?_;refine tk 5 ?_;refine tk 6 ?_;refine tk 8 ?_;refine tk 9 ?_;refine r1 7 (fun K hK=> ?_);go_simp;have hc:=zj (c:=ca) (sa !=sb) hE.h5;refine hc.mono ?_;clear hc
  rintro e w6 ⟨sx,Ax,nx,cx,rfl,hx,hb⟩
  replace hE:=hE.step hb;clear hb;replace hE:=hE.wv hx;clear hx;go_wp2_with fail
  refine hK.out _ _ (hE.h4.j2 hE.h3.c2) (fun hHeld=> ?_);clear hK K;try simp only[PL]
  refine r1 10 (fun K hK=> ?_);go_simp;have hc:=zj (c:=cb) false hE.h5;refine hc.mono ?_;clear hc
  rintro e w7 ⟨sy,Ay,ny,cy,rfl,hy,hb⟩
  replace hE:=hE.step hb;clear hb;replace hE:=hE.wv hy;clear hy;have mV:FV w7 (Rat.divInt a b) sx Ax nx sy Ay ny:=⟨by rw[E1.out];exact hE.here.1.2,by rw[E2.out];exact hE.here.2⟩;replace hE:=hE.fv mV;clear mV;go_wp2_with fail
  refine hK.out _ _ (hE.h6.j2 hE.h5.c2) (fun hHeld=> ?_);clear hK K;try simp only[PL]
  refine tk 11 ?_;refine r1 12 (fun K hK=> ?_)
  have cA:w.heap.size<=w.heap.size+1+1:=by omega
  obtain⟨WW,bn,hB,hV,aQ⟩:=aO hE hE.h4 cA hE.here.2 cx cy;obtain⟨x0,x1,x2,x3⟩:=(hE.h4).c4;obtain⟨fQ,fR,gJ,gK⟩:=hE.h4.f4;have bJ:=Lib.hid bn;clear bn;have q8:=(hE.h6).ai (R:=w.heap.size+1+1) (by omega) (.bool sx) (.slice Ax nx cx) (.bool sy) (.slice Ay ny cy);rw[<-bJ.out] at q8;have q9:=(hE.h5).ai (R:=w.heap.size+1+1) (by omega) (.bool sx) (.slice Ax nx cx) (.bool sy) (.slice Ay ny cy);rw[<-bJ.out] at q9;go_simp;rw[<-bJ.out];refine hK.out _ _ (q8.j2 q9.c2) (fun hHeld=> ?_);clear hK K;try simp only[PL]
  refine wpAnyH_done (by kernel_rfl) ?_ _;go_wp2_with fail
  obtain⟨y0,y1,y2,y3⟩:=hB.c4;refine bodyPost_ret (v:= .agg (az sx Ax nx cx sy Ay ny cy)) (by simp[results,Tryz.results137,go_sem,y0,y1,y2,y3]) rfl ?_;exact⟨sx,Ax,nx,cx,sy,Ay,ny,cy,rfl,hV,aQ⟩
 ·
  have hE:=((((Env.start w).wv ha).wv hb).blk 27 #[.bool sa,.slice Aa na ca] (g:=w.heap.size) rfl).blk 27 #[.bool sb,.slice Ab nb cb] (g:=w.heap.size+1) (by simp);have hE:=hE.blk 29 aY (g:=w.heap.size+1+1) (by simp)
  obtain⟨W0,aC⟩:∃W0,W0=(((w.alloc (.cells #[.bool sa,.slice Aa na ca] 27)).alloc (.cells #[.bool sb,.slice Ab nb cb] 27)).alloc (.cells aY 29)):=⟨_,rfl⟩
  rw[<-aC] at hE;have aU:=Lib.hid aC;clear aC
  go_enter Tryz.func137,Tryz.ntmps137
  go_upto_region 1 with(fail)
  rw[<-aU.out];obtain⟨k1,k2⟩:=(hE.h2).c2;obtain⟨k3,k4⟩:=(hE.here.1.2).c2;go_wp2_with fail
  have hc:=wK (c:=ca) (d:=cb) hE.h4 hE.h3 la lb;refine hc.mono ?_;clear hc;clear k1 k2 k3 k4
  rintro e w5 ⟨Ag,ng,cg,rfl,hg,hb⟩
  replace hE:=hE.step hb;clear hb;replace hE:=hE.wv hg;clear hg
  have lg:ng<=900000:=by rw[(hE.here.2).len,Int.natAbs_natCast];refine Nat.le_trans (bO aD (Nat.gcd_le_right _ (show 0<b.natAbs by omega))) ?_;rw[<-(hE.h4).len];exact lb
  go_wp2_with fail
  have hc:=OX (c:=cg) hE.here.2 (by omega);rw[decide_eq_false (show¬((Nat.gcd a.natAbs b.natAbs:Nat):Int)=1 by omega)] at hc;refine hE.br hc ?_;clear hE hc;intro w20 hE;obtain⟨e1,e2⟩:=Hy a b hb0;rw[<-(hE.h5).EA,<-(hE.h4).EA] at e1;have E1:=Lib.hid e1;have E2:=Lib.hid e2;have HG:=Lib.hid Ru;clear e1 e2 Ru;have dS:((Nat.gcd a.natAbs b.natAbs:Nat):Int)≠0:=ux hb0;obtain⟨k6,k7⟩:=(hE.h3).c2;go_wp2_with fail
  have hc:=uz (c:=ca) (d:=cg) hE.h5 hE.here.2 la lg dS;rw[Int.natAbs_natCast] at hc;refine hc.mono ?_;clear hc;clear k6 k7
  rintro e w8 ⟨Ap,np,cp,Ar,nr,cr,rfl,hp,hr,hb⟩
  replace hE:=hE.step hb;clear hb;replace hE:=(hE.wv hp).wv hr;clear hp hr;obtain⟨k9,eG⟩:=(hE.h4).c2;go_wp2_with fail
  have hc:=uz (c:=cb) (d:=cg) hE.h6 hE.h2 lb lg dS;rw[Int.natAbs_natCast] at hc;refine hc.mono ?_;clear hc;clear k9 eG
  rintro e zY ⟨Aq,nq,cq,Au,nu,cu,rfl,hq,hu,hb⟩
  replace hE:=hE.step hb;clear hb;replace hE:=(hE.wv hq).wv hu;clear hq hu;obtain⟨cZ,dG⟩:=(hE.h7).c2;obtain⟨dN,fP⟩:=(hE.h6).c2;go_wp2_with fail
  have hc:=zj (c:=cp) (sa !=sb) hE.h3;rw[Int.natAbs_natCast] at hc;refine hc.mono ?_;clear hc;clear cZ dG dN fP
  rintro e EC ⟨sx,Ax,nx,cx,rfl,hx,hb⟩
  replace hE:=hE.step hb;clear hb;replace hE:=hE.wv hx;clear hx;go_wp2_with fail
  have hc:=zj (c:=cq) false hE.h2;rw[Int.natAbs_natCast] at hc;refine hc.mono ?_;clear hc
  rintro e Mc ⟨sy,Ay,ny,cy,rfl,hy,hb⟩
  replace hE:=hE.step hb;clear hb;replace hE:=hE.wv hy;clear hy;have mV:FV Mc (Rat.divInt a b) sx Ax nx sy Ay ny:=⟨by rw[E1.out];exact hE.here.1.2,by rw[E2.out];exact hE.here.2⟩;replace hE:=hE.fv mV;clear mV
  have cA:w.heap.size<=w.heap.size+1+1:=by omega
  obtain⟨WW,bn,hB,hV,aQ⟩:=aO hE hE.h8 cA hE.here.2 cx cy;obtain⟨x0,x1,x2,x3⟩:=(hE.h8).c4;obtain⟨fQ,fR,gJ,gK⟩:=hE.h8.f4;have bJ:=Lib.hid bn;clear bn;go_wp2_with fail
  rw[<-bJ.out];obtain⟨y0,y1,y2,y3⟩:=hB.c4;refine bodyPost_ret (v:= .agg (az sx Ax nx cx sy Ay ny cy)) (by simp[results,Tryz.results137,go_sem,y0,y1,y2,y3]) rfl ?_;exact⟨sx,Ax,nx,cx,sy,Ay,ny,cy,rfl,hV,aQ⟩
theorem uA (z:Int)(w:World)(h1:-9223372036854775808<=z)(h2:z<=9223372036854775807):Calls Tryz.prog 168 #[.int .i64 z] w (WR z w):=
 (uB z w h1 h2).mono fun _ _ h=>by obtain⟨s,A,n,c,he,ho,hb⟩:=h.vi;exact⟨s,A,n,c,he,ho.v,hb⟩
theorem wL {w:World}{z:Int}{s:Bool}{A:Option Addr}{n:Nat}(h:WV w z s A n)(h1:-9223372036854775808<=z)(h2:z<=9223372036854775807):n<=4:=by
 rw[h.len];exact aaU h1 h2
theorem N7 (n d:Int)(w:World)(h1:-9223372036854775808<=n)(h2:n<=9223372036854775807)(h3:-9223372036854775808<=d)(h4:d<=9223372036854775807)(hd:d≠0):
  Calls Tryz.prog 144 #[.int .i64 n,.int .i64 d] w (FR (Rat.divInt n d) w):=by
 have hE:=Env.start w;have hE:=hE.blk 29 aY (g:=w.heap.size) rfl
 obtain⟨W0,aC⟩:∃W0,W0=(w.alloc (.cells aY 29)):=⟨_,rfl⟩
 rw[<-aC] at hE;have aU:=Lib.hid aC;clear aC
 go_enter Tryz.func144,Tryz.ntmps144
 go_upto_region 1 with(fail)
 rw[<-aU.out];go_wp2_with fail
 have hc:=uA n W0 h1 h2;refine hc.mono ?_;clear hc
 rintro e w1 ⟨sx,Ax,nx,cx,rfl,hx,hb⟩
 replace hE:=hE.step hb;clear hb;replace hE:=hE.wv hx;clear hx;go_wp2_with fail
 have hc:=uA d w1 h3 h4;refine hc.mono ?_;clear hc
 rintro e w2 ⟨sy,Ay,ny,cy,rfl,hy,hb⟩
 replace hE:=hE.step hb;clear hb;replace hE:=hE.wv hy;clear hy;have lx:=wL hE.here.1.2 h1 h2;have ly:=wL hE.here.2 h3 h4;go_wp2_with fail
 refine hE.fr (JK (ca:=cx) (cb:=cy) hE.here.1.2 hE.here.2 (Nat.le_trans lx (by decide)) (Nat.le_trans ly (by decide)) hd) ?_;clear hE;intro sf Af nf cf tf Bf mf df w3 hE
 have cA:w.heap.size<=w.heap.size:=by omega
 obtain⟨WW,bn,hB,hV,aQ⟩:=aO hE hE.h3 cA hE.here.2 cf df;obtain⟨x0,x1,x2,x3⟩:=(hE.h3).c4;obtain⟨fQ,fR,gJ,gK⟩:=hE.h3.f4;have bJ:=Lib.hid bn;clear bn;go_wp2_with fail
 rw[<-bJ.out];obtain⟨y0,y1,y2,y3⟩:=hB.c4;refine bodyPost_ret (v:= .agg (az sf Af nf cf tf Bf mf df)) (by simp[results,Tryz.results144,go_sem,y0,y1,y2,y3]) rfl ?_;exact⟨sf,Af,nf,cf,tf,Bf,mf,df,rfl,hV,aQ⟩
end
section
open Go.RowKit

theorem H6 {w:World}{q:Rat}{s t:Bool}{A B:Option Addr}{n m k:Nat}(_:FV w q s A n t B m)(hq:fl q<=k):ln aj q.num.natAbs<=k/\ln aj ((q.den:Nat):Int).natAbs<=k:=by
 rw[Int.natAbs_natCast];exact bV.1 hq
end
end Go.Proofs.YtclbiihcbfnjmaaGreat
