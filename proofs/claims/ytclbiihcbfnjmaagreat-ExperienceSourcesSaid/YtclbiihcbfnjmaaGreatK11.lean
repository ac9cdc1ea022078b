/-
  Parts.
-/
import Derived.Test.YtclbiihcbfnjmaaGreatK10
set_option linter.unusedSimpArgs false
set_option maxRecDepth 100000
set_option maxHeartbeats 4000000
namespace Go.Proofs.YtclbiihcbfnjmaaGreat
section
open Go.RowKit

def IB (q:Rat)(w:World)(e:Ending)(w':World):Prop:=∃s A n c t B m d,e= .returned (.tuple #[.agg (az s A n c t B m d),.int .i64 0])/\FV w' q s A n t B m/\Below w.heap.size w w'
def vL (k:Int)(w:World)(e:Ending)(w':World):Prop:=e= .returned (.tuple #[.agg aW,.int .i64 k])/\Below w.heap.size w w'
theorem JC {w:World}{q:Rat}{s t:Bool}{A B:Option Addr}{n m:Nat}(h:FV w q s A n t B m)(r:Bool)(hq:decide (256<fl q)=r):(decide (256<n)||decide (256<m))=r:=by
 have h1:=h.1.len;have h3:=h.2.len;rw[bV] at h3;rw[<-hq,Bool.eq_iff_iff,Bool.or_eq_true,oN,oN,oN];unfold fl;omega
theorem WQ (w:World):WV w 0 false none 0:=⟨rfl,cY.symm,fun h=>absurd h (by rw[show(0:Int).natAbs=0 from rfl,cY];exact Nat.lt_irrefl 0)⟩
theorem mZ {q:Rat}{s t:Bool}{A B:Option Addr}{n m c d:Nat}{w:World}(ha:FV w q s A n t B m)(hf:fl q<=256):
  Calls Tryz.prog 117 #[.agg (az s A n c t B m d)] w (IB q w):=by
 have hq:=JC ha false (aH (by omega));have hE:=((Env.start w).fv ha).blk 138 (az s A n c t B m d) (g:=w.heap.size) rfl;have hE:=hE.blk 29 aW (g:=w.heap.size+1) (by simp)
 obtain⟨W0,aC⟩:∃W0,W0=((w.alloc (.cells (az s A n c t B m d) 138)).alloc (.cells aW 29)):=⟨_,rfl⟩
 rw[<-aC] at hE;have aZ:=af aC;clear aC
 go_enter Tryz.func117,Tryz.ntmps117
 go_upto_region 1 with(fail)
 rw[<-aZ.out];obtain⟨k1,k2,k3,k4⟩:=(hE.g1).c4;go_wp2_with fail
 refine hE.br (kG s t A B n m c d W0 false hq) ?_;clear hE k1 k2 k3 k4;intro w5 hE;obtain⟨k6,k7,k8,k9⟩:=(hE.g1).c4
 have cS:w.heap.size<=w.heap.size+1:=by omega
 obtain⟨WW,bn,hB,hV,aM⟩:=aR hE hE.g0 cS hE.h2 c d;obtain⟨x0,x1,x2,x3⟩:=(hE.g0).c4;obtain⟨fL,fM,fV,fW⟩:=hE.g0.f4;have bR:=af bn;clear bn;go_wp2_with fail
 clear k6 k7 k8 k9;rw[<-bR.out];obtain⟨y0,y1,y2,y3⟩:=hB.c4;refine aK (v:= .tuple #[.agg (az s A n c t B m d),.int .i64 0]) (by simp[results,Tryz.results117,go_sem,y0,y1,y2,y3]) rfl ?_;exact⟨s,A,n,c,t,B,m,d,rfl,hV,aM⟩
theorem yI (z:Int)(w:World)(h1:-9223372036854775808<=z)(h2:z<=9223372036854775807):Calls Tryz.prog 73 #[.int .i64 z] w (WR z w):=
 (EA z w h1 h2).mono fun _ _ h=>by obtain⟨s,A,n,c,he,ho,hb⟩:=h.vi;exact⟨s,A,n,c,he,ho.v,hb⟩
theorem bg (z:Int)(w:World)(h1:-9223372036854775808<=z)(h2:z<=9223372036854775807):
  Calls Tryz.prog 24 #[.int .i64 z] w (FR (z:Rat) w):=by
 have hE:=Env.start w;have hE:=hE.blk 29 aW (g:=w.heap.size) rfl
 obtain⟨W0,aC⟩:∃W0,W0=(w.alloc (.cells aW 29)):=⟨_,rfl⟩
 rw[<-aC] at hE;have aZ:=af aC;clear aC
 go_enter Tryz.func24,Tryz.ntmps24
 go_upto_region 1 with(fail)
 rw[<-aZ.out];go_wp2_with fail
 have hc:=yI z W0 h1 h2;refine hc.mono ?_;clear hc
 rintro e w1 ⟨sn,An,nn,cn,rfl,hn,hb⟩
 replace hE:=hE.step hb;clear hb;replace hE:=hE.wv hn;clear hn;go_wp2_with fail
 have hc:=yI 1 w1 (by decide) (by decide);refine hc.mono ?_;clear hc
 rintro e w2 ⟨sd,Ad,nd,cd,rfl,hd,hb⟩
 replace hE:=hE.step hb;clear hb;replace hE:=hE.wv hd;clear hd;have oM:FV w2 (z:Rat) sn An nn sd Ad nd:=⟨hE.g1,hE.g0⟩;replace hE:=hE.fv oM;clear oM
 have cS:w.heap.size<=w.heap.size:=by omega
 obtain⟨WW,bn,hB,hV,aM⟩:=aR hE hE.h3 cS hE.g0 cn cd;obtain⟨x0,x1,x2,x3⟩:=(hE.h3).c4;obtain⟨fL,fM,fV,fW⟩:=hE.h3.f4;have bR:=af bn;clear bn;go_wp2_with fail
 rw[<-bR.out];obtain⟨y0,y1,y2,y3⟩:=hB.c4;refine aK (v:= .agg (az sn An nn cn sd Ad nd cd)) (by simp[results,Tryz.results24,go_sem,y0,y1,y2,y3]) rfl ?_;exact⟨sn,An,nn,cn,sd,Ad,nd,cd,rfl,hV,aM⟩
theorem vM (a b:Rat):(a.den:Int)*(b.den:Int)≠0:=by
 have h1:=den_pos a;have h2:=den_pos b;have:=Int.mul_pos (show(0:Int)<a.den by omega) (show(0:Int)<b.den by omega);omega
theorem FZ {a b:Rat}{sa ta sb tb:Bool}{Aa Ba Ab Bb:Option Addr}{na ca ma da nb cb mb db:Nat}{w:World}(ha:FV w a sa Aa na ta Ba ma)(hb:FV w b sb Ab nb tb Bb mb)(la:fl a<=256)(lb:fl b<=256)(lr:fl (a+b)<=256):
  Calls Tryz.prog 77 #[.agg (az sa Aa na ca ta Ba ma da),.agg (az sb Ab nb cb tb Bb mb db)] w (IB (a+b) w):=by
 have hE:=((((Env.start w).fv ha).fv hb).blk 29 (az sa Aa na ca ta Ba ma da) (g:=w.heap.size) rfl).blk 29 (az sb Ab nb cb tb Bb mb db) (g:=w.heap.size+1) (by simp);have hE:=hE.blk 29 aW (g:=w.heap.size+1+1) (by simp)
 obtain⟨W0,aC⟩:∃W0,W0=(((w.alloc (.cells (az sa Aa na ca ta Ba ma da) 29)).alloc (.cells (az sb Ab nb cb tb Bb mb db) 29)).alloc (.cells aW 29)):=⟨_,rfl⟩
 rw[<-aC] at hE;have aZ:=af aC;clear aC
 go_enter Tryz.func77,Tryz.ntmps77
 go_upto_region 1 with(fail)
 rw[<-aZ.out];obtain⟨k1,k2,k3,k4⟩:=(hE.h2).c4;obtain⟨k5,k6,k7,k8⟩:=(hE.g1).c4;go_wp2_with fail
 have hc:=iq (c:=ca) (d:=da) (c2:=cb) (d2:=db) hE.h4 hE.h3 la lb;refine hc.mono ?_;clear hc;clear k1 k2 k3 k4 k5 k6 k7 k8
 rintro e w9 ⟨rfl,hb⟩
 replace hE:=hE.step hb;clear hb
 go_upto_region 3 with(fail)
 obtain⟨xx,mP⟩:=dA.1 la;obtain⟨wY,nH⟩:=dA.1 lb;obtain⟨JD,vq⟩:=(hE.h4).ln la;obtain⟨eD,eS⟩:=(hE.h3).ln lb
 have mP:ln ai ((a.den:Nat):Int).natAbs<=256:=by rw[bV];exact mP
 have nH:ln ai ((b.den:Nat):Int).natAbs<=256:=by rw[bV];exact nH
 replace hE:=hE.drew;refine bH (S:=fun w'=>w'.cell? ⟨w.heap.size,0,none⟩=some (.bool sa)/\w'.cell? ⟨w.heap.size,1,none⟩=some (.slice Aa na ca)/\w'.cell? ⟨w.heap.size,2,none⟩=some (.bool ta)/\w'.cell? ⟨w.heap.size,3,none⟩=some (.slice Ba ma da)/\w'.cell? ⟨w.heap.size+1,0,none⟩=some (.bool sb)/\w'.cell? ⟨w.heap.size+1,1,none⟩=some (.slice Ab nb cb)/\w'.cell? ⟨w.heap.size+1,2,none⟩=some (.bool tb)/\w'.cell? ⟨w.heap.size+1,3,none⟩=some (.slice Bb mb db)) (by kernel_rfl) (hE.h2.j4 hE.g1.c4) (fun hHeld=> ?_);refine tk 0 ?_;refine tk 1 ?_;refine tk 2 ?_;refine tk 3 ?_;refine tk 5 ?_;refine tk 6 ?_;refine tk 7 ?_;refine tk 8 ?_;refine tk 11 ?_;refine tk 12 ?_;refine tk 13 ?_;refine tk 14 ?_;refine r1 4 (fun K hK=> ?_);go_simp;have hc:=eI (ca:=ca) (cb:=db) (hE.h4).1 (hE.h3).2 (ay JD (by decide)) (ay eS (by decide)) (ay (bE (m:=256) (n:=256) xx nH) (by decide));refine hc.mono ?_;clear hc
 rintro e rU ⟨sx,Ax,nx,cx,rfl,hx,hb⟩
 replace hE:=hE.step hb;clear hb;replace hE:=hE.wv hx;clear hx
 have lx:nx<=512:=by rw[(hE.g0).len];exact(bE (m:=256) (n:=256) xx nH)
 go_wp2_with fail
 refine hK.out _ _ (hE.h3.j4 hE.h2.c4) (fun hHeld=> ?_);clear hK K;try simp only[PL]
 refine r1 9 (fun K hK=> ?_);go_simp;have hc:=eI (ca:=cb) (cb:=da) (hE.h4).1 (hE.h5).2 (ay eD (by decide)) (ay vq (by decide)) (ay (bE (m:=256) (n:=256) wY mP) (by decide));refine hc.mono ?_;clear hc
 rintro e Kw ⟨sy,Ay,ny,cy,rfl,hy,hb⟩
 replace hE:=hE.step hb;clear hb;replace hE:=hE.wv hy;clear hy
 have ly:ny<=512:=by rw[(hE.g0).len];exact(bE (m:=256) (n:=256) wY mP)
 go_wp2_with fail
 refine hK.out _ _ (hE.h4.j4 hE.h3.c4) (fun hHeld=> ?_);clear hK K;try simp only[PL]
 refine r1 10 (fun K hK=> ?_);go_simp;have hc:=AQ (ca:=cx) (cb:=cy) hE.g1 hE.g0 (ay lx (by decide)) (ay ly (by decide)) (ay (gL (m:=512) (by rw[<-(hE.g1).len];exact lx) (by rw[<-(hE.g0).len];exact ly)) (by decide));refine hc.mono ?_;clear hc
 rintro e On ⟨sz,Az,nz,cz,rfl,hz,hb⟩
 replace hE:=hE.step hb;clear hb;replace hE:=hE.wv hz;clear hz
 have lz:nz<=513:=by rw[(hE.g0).len];exact(gL (m:=512) (by rw[<-(hE.h2).len];exact lx) (by rw[<-(hE.g1).len];exact ly))
 go_wp2_with fail
 refine hK.out _ _ (hE.h5.j4 hE.h4.c4) (fun hHeld=> ?_);clear hK K;try simp only[PL]
 refine r1 15 (fun K hK=> ?_);go_simp;have hc:=eI (ca:=da) (cb:=db) (hE.h7).2 (hE.h6).2 (ay vq (by decide)) (ay eS (by decide)) (ay (bE (m:=256) (n:=256) mP nH) (by decide));refine hc.mono ?_;clear hc
 rintro e Ud ⟨su,Au,nu,cu,rfl,hu,hb⟩
 replace hE:=hE.step hb;clear hb;replace hE:=hE.wv hu;clear hu
 have lu:nu<=512:=by rw[(hE.g0).len];exact(bE (m:=256) (n:=256) mP nH)
 go_wp2_with fail
 refine hK.out _ _ (hE.h6.j4 hE.h5.c4) (fun hHeld=> ?_);clear hK K;try simp only[PL]
 refine r1 16 (fun K hK=> ?_);go_simp;have hc:=lf (ca:=cz) (cb:=cu) hE.g1 hE.g0 (ay lz (by decide)) (ay lu (by decide)) (vM a b);rw[uP a b] at hc;refine hE.fr hc ?_;clear hE hc;intro sf Af nf cf tf Bf mf df FC hE;go_wp2_with fail
 refine hK.out _ _ (hE.h7.j4 hE.h6.c4) (fun hHeld=> ?_);clear hK K;try simp only[PL]
 refine r1 17 (fun K hK=> ?_);go_simp;refine hE.fr (mZ (c:=cf) (d:=df) hE.g0 lr) ?_;clear hE;intro sr Ar nr cr tr Br mr dr wX hE;go_wp2_with fail
 refine hK.out _ _ (hE.h8.j4 hE.h7.c4) (fun hHeld=> ?_);clear hK K;try simp only[PL]
 refine tk 18 ?_;refine tk 19 ?_;refine r1 20 (fun K hK=> ?_)
 have cS:w.heap.size<=w.heap.size+1+1:=by omega
 obtain⟨WW,bn,hB,hV,aM⟩:=aR hE hE.h6 cS hE.g0 cr dr;obtain⟨x0,x1,x2,x3⟩:=(hE.h6).c4;obtain⟨fL,fM,fV,fW⟩:=hE.h6.f4;have bR:=af bn;clear bn;have q16:=(hE.h8).aj (R:=w.heap.size+1+1) (by omega) (.bool sr) (.slice Ar nr cr) (.bool tr) (.slice Br mr dr);rw[<-bR.out] at q16;have q17:=(hE.h7).aj (R:=w.heap.size+1+1) (by omega) (.bool sr) (.slice Ar nr cr) (.bool tr) (.slice Br mr dr);rw[<-bR.out] at q17;go_simp;rw[<-bR.out];refine hK.out _ _ (q16.j4 q17.c4) (fun hHeld=> ?_);clear hK K;try simp only[PL]
 refine tk 21 ?_;refine aX (by kernel_rfl) ?_ _;go_wp2_with fail
 obtain⟨y0,y1,y2,y3⟩:=hB.c4;refine aK (v:= .tuple #[.agg (az sr Ar nr cr tr Br mr dr),.int .i64 0]) (by simp[results,Tryz.results77,go_sem,y0,y1,y2,y3]) rfl ?_;exact⟨sr,Ar,nr,cr,tr,Br,mr,dr,rfl,hV,aM⟩
theorem zV {a b:Rat}{sa ta sb tb:Bool}{Aa Ba Ab Bb:Option Addr}{na ca ma da nb cb mb db:Nat}{w:World}(ha:FV w a sa Aa na ta Ba ma)(hb:FV w b sb Ab nb tb Bb mb)(la:fl a<=256)(lb:fl b<=256)(lr:fl (a-b)<=256):
  Calls Tryz.prog 72 #[.agg (az sa Aa na ca ta Ba ma da),.agg (az sb Ab nb cb tb Bb mb db)] w (IB (a-b) w):=by
 have hE:=((((Env.start w).fv ha).fv hb).blk 29 (az sa Aa na ca ta Ba ma da) (g:=w.heap.size) rfl).blk 29 (az sb Ab nb cb tb Bb mb db) (g:=w.heap.size+1) (by simp);have hE:=hE.blk 29 aW (g:=w.heap.size+1+1) (by simp)
 obtain⟨W0,aC⟩:∃W0,W0=(((w.alloc (.cells (az sa Aa na ca ta Ba ma da) 29)).alloc (.cells (az sb Ab nb cb tb Bb mb db) 29)).alloc (.cells aW 29)):=⟨_,rfl⟩
 rw[<-aC] at hE;have aZ:=af aC;clear aC
 go_enter Tryz.func72,Tryz.ntmps72
 go_upto_region 1 with(fail)
 rw[<-aZ.out];obtain⟨k1,k2,k3,k4⟩:=(hE.h2).c4;obtain⟨k5,k6,k7,k8⟩:=(hE.g1).c4;go_wp2_with fail
 have hc:=iq (c:=ca) (d:=da) (c2:=cb) (d2:=db) hE.h4 hE.h3 la lb;refine hc.mono ?_;clear hc;clear k1 k2 k3 k4 k5 k6 k7 k8
 rintro e w9 ⟨rfl,hb⟩
 replace hE:=hE.step hb;clear hb
 go_upto_region 3 with(fail)
 obtain⟨xx,mP⟩:=dA.1 la;obtain⟨wY,nH⟩:=dA.1 lb;obtain⟨JD,vq⟩:=(hE.h4).ln la;obtain⟨eD,eS⟩:=(hE.h3).ln lb
 have mP:ln ai ((a.den:Nat):Int).natAbs<=256:=by rw[bV];exact mP
 have nH:ln ai ((b.den:Nat):Int).natAbs<=256:=by rw[bV];exact nH
 replace hE:=hE.drew;refine bH (S:=fun w'=>w'.cell? ⟨w.heap.size,0,none⟩=some (.bool sa)/\w'.cell? ⟨w.heap.size,1,none⟩=some (.slice Aa na ca)/\w'.cell? ⟨w.heap.size,2,none⟩=some (.bool ta)/\w'.cell? ⟨w.heap.size,3,none⟩=some (.slice Ba ma da)/\w'.cell? ⟨w.heap.size+1,0,none⟩=some (.bool sb)/\w'.cell? ⟨w.heap.size+1,1,none⟩=some (.slice Ab nb cb)/\w'.cell? ⟨w.heap.size+1,2,none⟩=some (.bool tb)/\w'.cell? ⟨w.heap.size+1,3,none⟩=some (.slice Bb mb db)) (by kernel_rfl) (hE.h2.j4 hE.g1.c4) (fun hHeld=> ?_);refine tk 0 ?_;refine tk 1 ?_;refine tk 2 ?_;refine tk 3 ?_;refine tk 5 ?_;refine tk 6 ?_;refine tk 7 ?_;refine tk 8 ?_;refine tk 12 ?_;refine tk 13 ?_;refine tk 14 ?_;refine tk 15 ?_;refine r1 4 (fun K hK=> ?_);go_simp;have hc:=eI (ca:=ca) (cb:=db) (hE.h4).1 (hE.h3).2 (ay JD (by decide)) (ay eS (by decide)) (ay (bE (m:=256) (n:=256) xx nH) (by decide));refine hc.mono ?_;clear hc
 rintro e rU ⟨sx,Ax,nx,cx,rfl,hx,hb⟩
 replace hE:=hE.step hb;clear hb;replace hE:=hE.wv hx;clear hx
 have lx:nx<=512:=by rw[(hE.g0).len];exact(bE (m:=256) (n:=256) xx nH)
 go_wp2_with fail
 refine hK.out _ _ (hE.h3.j4 hE.h2.c4) (fun hHeld=> ?_);clear hK K;try simp only[PL]
 refine r1 9 (fun K hK=> ?_);go_simp;have hc:=eI (ca:=cb) (cb:=da) (hE.h4).1 (hE.h5).2 (ay eD (by decide)) (ay vq (by decide)) (ay (bE (m:=256) (n:=256) wY mP) (by decide));refine hc.mono ?_;clear hc
 rintro e Kw ⟨sy,Ay,ny,cy,rfl,hy,hb⟩
 replace hE:=hE.step hb;clear hb;replace hE:=hE.wv hy;clear hy
 have ly:ny<=512:=by rw[(hE.g0).len];exact(bE (m:=256) (n:=256) wY mP)
 go_wp2_with fail
 refine hK.out _ _ (hE.h4.j4 hE.h3.c4) (fun hHeld=> ?_);clear hK K;try simp only[PL]
 refine r1 10 (fun K hK=> ?_);go_simp;have hc:=fN (c:=cy) hE.g0 (ay ly (by decide));refine hc.mono ?_;clear hc
 rintro e On ⟨so,Ao,no,co,rfl,ho,hb⟩
 replace hE:=hE.step hb;clear hb;replace hE:=hE.wv ho;clear ho;have lo:=BN hE.g1 hE.g0 ly;go_wp2_with fail
 refine hK.out _ _ (hE.h5.j4 hE.h4.c4) (fun hHeld=> ?_);clear hK K;try simp only[PL]
 refine r1 11 (fun K hK=> ?_);go_simp;have hc:=AQ (ca:=cx) (cb:=co) hE.h2 hE.g0 (ay lx (by decide)) (ay lo (by decide)) (ay (gL (m:=512) (by rw[<-(hE.h2).len];exact lx) (by rw[<-(hE.g0).len];exact lo)) (by decide));refine hc.mono ?_;clear hc
 rintro e Ud ⟨sz,Az,nz,cz,rfl,hz,hb⟩
 replace hE:=hE.step hb;clear hb;replace hE:=hE.wv hz;clear hz
 have lz:nz<=513:=by rw[(hE.g0).len];exact(gL (m:=512) (by rw[<-(hE.h3).len];exact lx) (by rw[<-(hE.g1).len];exact lo))
 go_wp2_with fail
 refine hK.out _ _ (hE.h6.j4 hE.h5.c4) (fun hHeld=> ?_);clear hK K;try simp only[PL]
 refine r1 16 (fun K hK=> ?_);go_simp;have hc:=eI (ca:=da) (cb:=db) (hE.h8).2 (hE.h7).2 (ay vq (by decide)) (ay eS (by decide)) (ay (bE (m:=256) (n:=256) mP nH) (by decide));refine hc.mono ?_;clear hc
 rintro e FC ⟨su,Au,nu,cu,rfl,hu,hb⟩
 replace hE:=hE.step hb;clear hb;replace hE:=hE.wv hu;clear hu
 have lu:nu<=512:=by rw[(hE.g0).len];exact(bE (m:=256) (n:=256) mP nH)
 go_wp2_with fail
 refine hK.out _ _ (hE.h7.j4 hE.h6.c4) (fun hHeld=> ?_);clear hK K;try simp only[PL]
 refine r1 17 (fun K hK=> ?_);go_simp;have hc:=lf (ca:=cz) (cb:=cu) hE.g1 hE.g0 (ay lz (by decide)) (ay lu (by decide)) (vM a b);rw[WH a b] at hc;refine hE.fr hc ?_;clear hE hc;intro sf Af nf cf tf Bf mf df wX hE;go_wp2_with fail
 refine hK.out _ _ (hE.h8.j4 hE.h7.c4) (fun hHeld=> ?_);clear hK K;try simp only[PL]
 refine r1 18 (fun K hK=> ?_);go_simp;refine hE.fr (mZ (c:=cf) (d:=df) hE.g0 lr) ?_;clear hE;intro sr Ar nr cr tr Br mr dr FD hE;go_wp2_with fail
 refine hK.out _ _ (hE.h9.j4 hE.h8.c4) (fun hHeld=> ?_);clear hK K;try simp only[PL]
 refine tk 19 ?_;refine tk 20 ?_;refine r1 21 (fun K hK=> ?_)
 have cS:w.heap.size<=w.heap.size+1+1:=by omega
 obtain⟨WW,bn,hB,hV,aM⟩:=aR hE hE.h7 cS hE.g0 cr dr;obtain⟨x0,x1,x2,x3⟩:=(hE.h7).c4;obtain⟨fL,fM,fV,fW⟩:=hE.h7.f4;have bR:=af bn;clear bn;have q17:=(hE.h9).aj (R:=w.heap.size+1+1) (by omega) (.bool sr) (.slice Ar nr cr) (.bool tr) (.slice Br mr dr);rw[<-bR.out] at q17;have q18:=(hE.h8).aj (R:=w.heap.size+1+1) (by omega) (.bool sr) (.slice Ar nr cr) (.bool tr) (.slice Br mr dr);rw[<-bR.out] at q18;go_simp;rw[<-bR.out];refine hK.out _ _ (q17.j4 q18.c4) (fun hHeld=> ?_);clear hK K;try simp only[PL]
 refine tk 22 ?_;refine aX (by kernel_rfl) ?_ _;go_wp2_with fail
 obtain⟨y0,y1,y2,y3⟩:=hB.c4;refine aK (v:= .tuple #[.agg (az sr Ar nr cr tr Br mr dr),.int .i64 0]) (by simp[results,Tryz.results72,go_sem,y0,y1,y2,y3]) rfl ?_;exact⟨sr,Ar,nr,cr,tr,Br,mr,dr,rfl,hV,aM⟩
theorem zW {a b:Rat}{sa ta sb tb:Bool}{Aa Ba Ab Bb:Option Addr}{na ca ma da nb cb mb db:Nat}{w:World}(ha:FV w a sa Aa na ta Ba ma)(hb:FV w b sb Ab nb tb Bb mb)(la:fl a<=256)(lb:fl b<=256)(lr:fl (a*b)<=256):
  Calls Tryz.prog 78 #[.agg (az sa Aa na ca ta Ba ma da),.agg (az sb Ab nb cb tb Bb mb db)] w (IB (a*b) w):=by
 have hE:=((((Env.start w).fv ha).fv hb).blk 29 (az sa Aa na ca ta Ba ma da) (g:=w.heap.size) rfl).blk 29 (az sb Ab nb cb tb Bb mb db) (g:=w.heap.size+1) (by simp);have hE:=hE.blk 29 aW (g:=w.heap.size+1+1) (by simp)
 obtain⟨W0,aC⟩:∃W0,W0=(((w.alloc (.cells (az sa Aa na ca ta Ba ma da) 29)).alloc (.cells (az sb Ab nb cb tb Bb mb db) 29)).alloc (.cells aW 29)):=⟨_,rfl⟩
 rw[<-aC] at hE;have aZ:=af aC;clear aC
 go_enter Tryz.func78,Tryz.ntmps78
 go_upto_region 1 with(fail)
 rw[<-aZ.out];obtain⟨k1,k2,k3,k4⟩:=(hE.h2).c4;obtain⟨k5,k6,k7,k8⟩:=(hE.g1).c4;go_wp2_with fail
 have hc:=iq (c:=ca) (d:=da) (c2:=cb) (d2:=db) hE.h4 hE.h3 la lb;refine hc.mono ?_;clear hc;clear k1 k2 k3 k4 k5 k6 k7 k8
 rintro e w9 ⟨rfl,hb⟩
 replace hE:=hE.step hb;clear hb
 go_upto_region 3 with(fail)
 obtain⟨xx,mP⟩:=dA.1 la;obtain⟨wY,nH⟩:=dA.1 lb;obtain⟨JD,vq⟩:=(hE.h4).ln la;obtain⟨eD,eS⟩:=(hE.h3).ln lb
 have mP:ln ai ((a.den:Nat):Int).natAbs<=256:=by rw[bV];exact mP
 have nH:ln ai ((b.den:Nat):Int).natAbs<=256:=by rw[bV];exact nH
 replace hE:=hE.drew;refine bH (S:=fun w'=>w'.cell? ⟨w.heap.size,0,none⟩=some (.bool sa)/\w'.cell? ⟨w.heap.size,1,none⟩=some (.slice Aa na ca)/\w'.cell? ⟨w.heap.size,2,none⟩=some (.bool ta)/\w'.cell? ⟨w.heap.size,3,none⟩=some (.slice Ba ma da)/\w'.cell? ⟨w.heap.size+1,0,none⟩=some (.bool sb)/\w'.cell? ⟨w.heap.size+1,1,none⟩=some (.slice Ab nb cb)/\w'.cell? ⟨w.heap.size+1,2,none⟩=some (.bool tb)/\w'.cell? ⟨w.heap.size+1,3,none⟩=some (.slice Bb mb db)) (by kernel_rfl) (hE.h2.j4 hE.g1.c4) (fun hHeld=> ?_);refine tk 0 ?_;refine tk 1 ?_;refine tk 2 ?_;refine tk 3 ?_;refine tk 5 ?_;refine tk 6 ?_;refine tk 7 ?_;refine tk 8 ?_;refine r1 4 (fun K hK=> ?_);go_simp;have hc:=eI (ca:=ca) (cb:=cb) (hE.h4).1 (hE.h3).1 (ay JD (by decide)) (ay eD (by decide)) (ay (bE (m:=256) (n:=256) xx wY) (by decide));refine hc.mono ?_;clear hc
 rintro e rU ⟨sx,Ax,nx,cx,rfl,hx,hb⟩
 replace hE:=hE.step hb;clear hb;replace hE:=hE.wv hx;clear hx
 have lx:nx<=512:=by rw[(hE.g0).len];exact(bE (m:=256) (n:=256) xx wY)
 go_wp2_with fail
 refine hK.out _ _ (hE.h3.j4 hE.h2.c4) (fun hHeld=> ?_);clear hK K;try simp only[PL]
 refine r1 9 (fun K hK=> ?_);go_simp;have hc:=eI (ca:=da) (cb:=db) (hE.h5).2 (hE.h4).2 (ay vq (by decide)) (ay eS (by decide)) (ay (bE (m:=256) (n:=256) mP nH) (by decide));refine hc.mono ?_;clear hc
 rintro e Kw ⟨su,Au,nu,cu,rfl,hu,hb⟩
 replace hE:=hE.step hb;clear hb;replace hE:=hE.wv hu;clear hu
 have lu:nu<=512:=by rw[(hE.g0).len];exact(bE (m:=256) (n:=256) mP nH)
 go_wp2_with fail
 refine hK.out _ _ (hE.h4.j4 hE.h3.c4) (fun hHeld=> ?_);clear hK K;try simp only[PL]
 refine r1 10 (fun K hK=> ?_);go_simp;have hc:=lf (ca:=cx) (cb:=cu) hE.g1 hE.g0 (ay lx (by decide)) (ay lu (by decide)) (vM a b);rw[WJ a b] at hc;refine hE.fr hc ?_;clear hE hc;intro sf Af nf cf tf Bf mf df On hE;go_wp2_with fail
 refine hK.out _ _ (hE.h5.j4 hE.h4.c4) (fun hHeld=> ?_);clear hK K;try simp only[PL]
 refine r1 11 (fun K hK=> ?_);go_simp;refine hE.fr (mZ (c:=cf) (d:=df) hE.g0 lr) ?_;clear hE;intro sr Ar nr cr tr Br mr dr Ud hE;go_wp2_with fail
 refine hK.out _ _ (hE.h6.j4 hE.h5.c4) (fun hHeld=> ?_);clear hK K;try simp only[PL]
 refine tk 12 ?_;refine tk 13 ?_;refine r1 14 (fun K hK=> ?_)
 have cS:w.heap.size<=w.heap.size+1+1:=by omega
 obtain⟨WW,bn,hB,hV,aM⟩:=aR hE hE.h4 cS hE.g0 cr dr;obtain⟨x0,x1,x2,x3⟩:=(hE.h4).c4;obtain⟨fL,fM,fV,fW⟩:=hE.h4.f4;have bR:=af bn;clear bn;have q14:=(hE.h6).aj (R:=w.heap.size+1+1) (by omega) (.bool sr) (.slice Ar nr cr) (.bool tr) (.slice Br mr dr);rw[<-bR.out] at q14;have q15:=(hE.h5).aj (R:=w.heap.size+1+1) (by omega) (.bool sr) (.slice Ar nr cr) (.bool tr) (.slice Br mr dr);rw[<-bR.out] at q15;go_simp;rw[<-bR.out];refine hK.out _ _ (q14.j4 q15.c4) (fun hHeld=> ?_);clear hK K;try simp only[PL]
 refine tk 15 ?_;refine aX (by kernel_rfl) ?_ _;go_wp2_with fail
 obtain⟨y0,y1,y2,y3⟩:=hB.c4;refine aK (v:= .tuple #[.agg (az sr Ar nr cr tr Br mr dr),.int .i64 0]) (by simp[results,Tryz.results78,go_sem,y0,y1,y2,y3]) rfl ?_;exact⟨sr,Ar,nr,cr,tr,Br,mr,dr,rfl,hV,aM⟩
end
section
open Go.RowKit

def LM (a b:Rat):Int:=xF (a.num*(b.den:Int)) (b.num*(a.den:Int))
theorem adP {a b:Rat}{sa ta sb tb:Bool}{Aa Ba Ab Bb:Option Addr}{na ca ma da nb cb mb db:Nat}{w:World}(ha:FV w a sa Aa na ta Ba ma)(hb:FV w b sb Ab nb tb Bb mb)(la:fl a<=256)(lb:fl b<=256):
  Calls Tryz.prog 31 #[.agg (az sa Aa na ca ta Ba ma da),.agg (az sb Ab nb cb tb Bb mb db)] w (fun e w'=>e= .returned (.int .i64 (LM a b))/\Below w.heap.size w w'):=by
 have hE:=((((Env.start w).fv ha).fv hb).blk 29 (az sa Aa na ca ta Ba ma da) (g:=w.heap.size) rfl).blk 29 (az sb Ab nb cb tb Bb mb db) (g:=w.heap.size+1) (by simp)
 obtain⟨W0,aC⟩:∃W0,W0=((w.alloc (.cells (az sa Aa na ca ta Ba ma da) 29)).alloc (.cells (az sb Ab nb cb tb Bb mb db) 29)):=⟨_,rfl⟩
 rw[<-aC] at hE;have aZ:=af aC;clear aC
 go_enter Tryz.func31,Tryz.ntmps31
 go_upto_region 1 with(fail)
 rw[<-aZ.out];obtain⟨k1,k2,k3,k4⟩:=(hE.g1).c4;obtain⟨k5,k6,k7,k8⟩:=(hE.g0).c4;go_wp2_with fail
 have hc:=iq (c:=ca) (d:=da) (c2:=cb) (d2:=db) hE.h3 hE.h2 la lb;refine hc.mono ?_;clear hc;clear k1 k2 k3 k4 k5 k6 k7 k8
 rintro e w9 ⟨rfl,hb⟩
 replace hE:=hE.step hb;clear hb
 go_upto_region 3 with(fail)
 obtain⟨xx,mP⟩:=dA.1 la;obtain⟨wY,nH⟩:=dA.1 lb;obtain⟨JD,vq⟩:=(hE.h3).ln la;obtain⟨eD,eS⟩:=(hE.h2).ln lb
 have mP:ln ai ((a.den:Nat):Int).natAbs<=256:=by rw[bV];exact mP
 have nH:ln ai ((b.den:Nat):Int).natAbs<=256:=by rw[bV];exact nH
 obtain⟨v,hv⟩:∃v,v=xF (a.num*(b.den:Int)) (b.num*(a.den:Int)):=⟨_,rfl⟩
 have HV:=af hv;clear hv;replace hE:=hE.drew;refine bH (S:=fun w'=>w'.cell? ⟨w.heap.size,0,none⟩=some (.bool sa)/\w'.cell? ⟨w.heap.size,1,none⟩=some (.slice Aa na ca)/\w'.cell? ⟨w.heap.size,2,none⟩=some (.bool ta)/\w'.cell? ⟨w.heap.size,3,none⟩=some (.slice Ba ma da)/\w'.cell? ⟨w.heap.size+1,0,none⟩=some (.bool sb)/\w'.cell? ⟨w.heap.size+1,1,none⟩=some (.slice Ab nb cb)/\w'.cell? ⟨w.heap.size+1,2,none⟩=some (.bool tb)/\w'.cell? ⟨w.heap.size+1,3,none⟩=some (.slice Bb mb db)) (by kernel_rfl) (hE.g1.j4 hE.g0.c4) (fun hHeld=> ?_);refine tk 0 ?_;refine tk 1 ?_;refine tk 2 ?_;refine tk 3 ?_;refine tk 5 ?_;refine tk 6 ?_;refine tk 7 ?_;refine tk 8 ?_;refine r1 4 (fun K hK=> ?_);go_simp;have hc:=eI (ca:=ca) (cb:=db) (hE.h3).1 (hE.h2).2 (ay JD (by decide)) (ay eS (by decide)) (ay (bE (m:=256) (n:=256) xx nH) (by decide));refine hc.mono ?_;clear hc
 rintro e rU ⟨sx,Ax,nx,cx,rfl,hx,hb⟩
 replace hE:=hE.step hb;clear hb;replace hE:=hE.wv hx;clear hx
 have lx:nx<=512:=by rw[(hE.g0).len];exact(bE (m:=256) (n:=256) xx nH)
 go_wp2_with fail
 refine hK.out _ _ (hE.h2.j4 hE.g1.c4) (fun hHeld=> ?_);clear hK K;try simp only[PL]
 refine r1 9 (fun K hK=> ?_);go_simp;have hc:=eI (ca:=cb) (cb:=da) (hE.h3).1 (hE.h4).2 (ay eD (by decide)) (ay vq (by decide)) (ay (bE (m:=256) (n:=256) wY mP) (by decide));refine hc.mono ?_;clear hc
 rintro e Kw ⟨sy,Ay,ny,cy,rfl,hy,hb⟩
 replace hE:=hE.step hb;clear hb;replace hE:=hE.wv hy;clear hy
 have ly:ny<=512:=by rw[(hE.g0).len];exact(bE (m:=256) (n:=256) wY mP)
 go_wp2_with fail
 refine hK.out _ _ (hE.h3.j4 hE.h2.c4) (fun hHeld=> ?_);clear hK K;try simp only[PL]
 refine r1 10 (fun K hK=> ?_);go_simp;have hc:=aiv (c:=cx) (d:=cy) hE.g1 hE.g0 (ay lx (by decide)) (ay ly (by decide));rw[<-HV.out] at hc;refine hE.br hc ?_;clear hE hc;intro On hE;go_wp2_with fail
 refine hK.out _ _ (hE.h3.j4 hE.h2.c4) (fun hHeld=> ?_);clear hK K;try simp only[PL]
 refine tk 11 ?_;refine aX (by kernel_rfl) ?_ _;go_wp2_with fail
 go_ret
 exact⟨by rw[HV.out];rfl,hE.ax⟩
theorem WS {a b:Rat}{sa ta sb tb:Bool}{Aa Ba Ab Bb:Option Addr}{na ca ma da nb cb mb db:Nat}{w:World}(ha:FV w a sa Aa na ta Ba ma)(hb:FV w b sb Ab nb tb Bb mb)(la1:na<=1000000)(la2:ma<=1000000)(lb1:nb<=1000000)(WL:mb<=1000000):
  Calls Tryz.prog 155 #[.agg (az sa Aa na ca ta Ba ma da),.agg (az sb Ab nb cb tb Bb mb db)] w fun e w'=>e= .returned (.bool (decide (a=b)))/\Below w.heap.size w w':=by
 by_cases h1:a.num=b.num
 ·
  have hE:=((((Env.start w).fv ha).fv hb).blk 29 (az sa Aa na ca ta Ba ma da) (g:=w.heap.size) rfl).blk 29 (az sb Ab nb cb tb Bb mb db) (g:=w.heap.size+1) (by simp)
  obtain⟨W0,aC⟩:∃W0,W0=((w.alloc (.cells (az sa Aa na ca ta Ba ma da) 29)).alloc (.cells (az sb Ab nb cb tb Bb mb db) 29)):=⟨_,rfl⟩
  rw[<-aC] at hE;have aZ:=af aC;clear aC
  go_enter Tryz.func155,Tryz.ntmps155
  go_upto_region 1 with(fail)
  rw[<-aZ.out];obtain⟨k1,k2,k3,k4⟩:=(hE.g1).c4;obtain⟨k5,k6,k7,k8⟩:=(hE.g0).c4;go_wp2_with fail
  have hc:=GX (c:=ca) (d:=cb) (hE.h3).1 (hE.h2).1 la1 lb1;rw[aL h1] at hc;refine hE.br hc ?_;clear hE hc k1 k2 k3 k4 k5 k6 k7 k8;intro w1 hE;obtain⟨k9,fU,dX,dY⟩:=(hE.g1).c4;obtain⟨eu,eF,iA,kz⟩:=(hE.g0).c4;go_wp2_with fail
  refine hE.br (GX (c:=da) (d:=db) (hE.h3).2 (hE.h2).2 la2 WL) ?_;clear hE k9 fU dX dY eu eF iA kz;intro w2 hE
  obtain⟨v,hv⟩:∃v,v=decide (((a.den:Nat):Int)=((b.den:Nat):Int)):=⟨_,rfl⟩
  rw[<-hv];have HV:=af hv;clear hv;have H1:=af h1;clear h1;go_wp2_with fail
  go_ret
  refine⟨aT ?_,hE.ax⟩;rw[HV.out];exact decide_eq_decide.2 ⟨fun h=>Rat.ext H1.out (by omega),fun h=>by rw[h]⟩
 ·
  have hE:=((((Env.start w).fv ha).fv hb).blk 29 (az sa Aa na ca ta Ba ma da) (g:=w.heap.size) rfl).blk 29 (az sb Ab nb cb tb Bb mb db) (g:=w.heap.size+1) (by simp)
  obtain⟨W0,aC⟩:∃W0,W0=((w.alloc (.cells (az sa Aa na ca ta Ba ma da) 29)).alloc (.cells (az sb Ab nb cb tb Bb mb db) 29)):=⟨_,rfl⟩
  rw[<-aC] at hE;have aZ:=af aC;clear aC
  go_enter Tryz.func155,Tryz.ntmps155
  go_upto_region 1 with(fail)
  rw[<-aZ.out];obtain⟨k1,k2,k3,k4⟩:=(hE.g1).c4;obtain⟨k5,k6,k7,k8⟩:=(hE.g0).c4;go_wp2_with fail
  have hc:=GX (c:=ca) (d:=cb) (hE.h3).1 (hE.h2).1 la1 lb1;rw[aH h1] at hc;refine hE.br hc ?_;clear hE hc k1 k2 k3 k4 k5 k6 k7 k8;intro w1 hE;go_wp2_with fail
  go_ret
  exact⟨aT (aH (fun h=>h1 (by rw[h]))).symm,hE.ax⟩
theorem CP {a b:Rat}{sa ta sb tb:Bool}{Aa Ba Ab Bb:Option Addr}{na ca ma da nb cb mb db:Nat}{w:World}(ha:FV w a sa Aa na ta Ba ma)(hb:FV w b sb Ab nb tb Bb mb)(la1:na<=1000000)(la2:ma<=1000000)(lb1:nb<=1000000)(WL:mb<=1000000):
  Calls Tryz.prog 30 #[.agg (az sa Aa na ca ta Ba ma da),.agg (az sb Ab nb cb tb Bb mb db)] w fun e w'=>e= .returned (.bool (decide (a=b)))/\Below w.heap.size w w':=by
 by_cases h1:a.num=b.num
 ·
  have hE:=((((Env.start w).fv ha).fv hb).blk 29 (az sa Aa na ca ta Ba ma da) (g:=w.heap.size) rfl).blk 29 (az sb Ab nb cb tb Bb mb db) (g:=w.heap.size+1) (by simp)
  obtain⟨W0,aC⟩:∃W0,W0=((w.alloc (.cells (az sa Aa na ca ta Ba ma da) 29)).alloc (.cells (az sb Ab nb cb tb Bb mb db) 29)):=⟨_,rfl⟩
  rw[<-aC] at hE;have aZ:=af aC;clear aC
  go_enter Tryz.func30,Tryz.ntmps30
  go_upto_region 1 with(fail)
  rw[<-aZ.out];obtain⟨k1,k2,k3,k4⟩:=(hE.g1).c4;obtain⟨k5,k6,k7,k8⟩:=(hE.g0).c4;go_wp2_with fail
  have hc:=lJ (c:=ca) (d:=cb) (hE.h3).1 (hE.h2).1 la1 lb1;rw[aL h1] at hc;refine hE.br hc ?_;clear hE hc k1 k2 k3 k4 k5 k6 k7 k8;intro w1 hE;obtain⟨k9,fU,dX,dY⟩:=(hE.g1).c4;obtain⟨eu,eF,iA,kz⟩:=(hE.g0).c4;go_wp2_with fail
  refine hE.br (lJ (c:=da) (d:=db) (hE.h3).2 (hE.h2).2 la2 WL) ?_;clear hE k9 fU dX dY eu eF iA kz;intro w2 hE
  obtain⟨v,hv⟩:∃v,v=decide (((a.den:Nat):Int)=((b.den:Nat):Int)):=⟨_,rfl⟩
  rw[<-hv];have HV:=af hv;clear hv;have H1:=af h1;clear h1;go_wp2_with fail
  go_ret
  refine⟨aT ?_,hE.ax⟩;rw[HV.out];exact decide_eq_decide.2 ⟨fun h=>Rat.ext H1.out (by omega),fun h=>by rw[h]⟩
 ·
  have hE:=((((Env.start w).fv ha).fv hb).blk 29 (az sa Aa na ca ta Ba ma da) (g:=w.heap.size) rfl).blk 29 (az sb Ab nb cb tb Bb mb db) (g:=w.heap.size+1) (by simp)
  obtain⟨W0,aC⟩:∃W0,W0=((w.alloc (.cells (az sa Aa na ca ta Ba ma da) 29)).alloc (.cells (az sb Ab nb cb tb Bb mb db) 29)):=⟨_,rfl⟩
  rw[<-aC] at hE;have aZ:=af aC;clear aC
  go_enter Tryz.func30,Tryz.ntmps30
  go_upto_region 1 with(fail)
  rw[<-aZ.out];obtain⟨k1,k2,k3,k4⟩:=(hE.g1).c4;obtain⟨k5,k6,k7,k8⟩:=(hE.g0).c4;go_wp2_with fail
  have hc:=lJ (c:=ca) (d:=cb) (hE.h3).1 (hE.h2).1 la1 lb1;rw[aH h1] at hc;refine hE.br hc ?_;clear hE hc k1 k2 k3 k4 k5 k6 k7 k8;intro w1 hE;go_wp2_with fail
  go_ret
  exact⟨aT (aH (fun h=>h1 (by rw[h]))).symm,hE.ax⟩
end
section
open Go.RowKit

theorem Gs {z:Int}{A:Option Addr}{n c:Nat}{w:World}(ha:WV w z false A n)(hn:n<=1000000):
  Calls Tryz.prog 133 #[.slice A n c] w fun e w'=>e= .returned (.bool (decide (z=1)))/\Below w.heap.size w w':=by
 obtain⟨hs,hl,hr⟩:=ha;have hz:¬z<0:=qf hs.symm
 by_cases h1:n=1
 ·
  subst h1;obtain⟨b,o,rfl,hb,hc⟩:=hr (by omega);have c1:=hc 0 (by omega);rw[ko] at c1
  have hv:aB ai z.natAbs 0=z.natAbs:=by
   have h:=dB aA (x:=z.natAbs);rw[<-hl,bz,kI] at h
   simpa using h
  rw[hv] at c1;have hlt:b<w.heap.size:=hb;clear hl hs hc hr hv
  by_cases h2:z=1
  ·
   have t2:(((z.natAbs:Nat):Int)==1)=true:=beq_iff_eq.2 (by omega);have HE:=af (aL h2);clear h2
   go_enter Tryz.func133,Tryz.ntmps133
   go_wp2_with fail
   go_ret
   exact⟨aT HE.out.symm,aU _ _⟩
  ·
   have t2:(((z.natAbs:Nat):Int)==1)=false:=gh.2 (by omega);have HE:=af (aH h2);clear h2
   go_enter Tryz.func133,Tryz.ntmps133
   go_wp2_with fail
   go_ret
   exact⟨aT HE.out.symm,aU _ _⟩
 ·
  have xM:¬z=1:=fun e=>h1 (by rw[hl,e];decide)
  have HE:=af (aH xM);have t1:((n:Int)==1)=false:=gh.2 (by omega);clear hl xM hs hr
  go_enter Tryz.func133,Tryz.ntmps133
  go_wp2_with fail
  go_ret
  exact⟨aT HE.out.symm,aU _ _⟩
theorem WV.nat {w:World}{x:Nat}{A:Option Addr}(h:aJ w A x):WV w (x:Int) false A (ln ai x):=⟨(aH (by omega)).symm,by rw[bV],by rw[bV];exact h⟩
def LR (x:Nat)(w:World)(e:Ending)(w':World):Prop:=∃A n c,e= .returned (.slice A n c)/\WV w' (x:Int) false A n/\Below w.heap.size w w'
def LR2 (x y:Nat)(w:World)(e:Ending)(w':World):Prop:=∃A n c B m d,e= .returned (.tuple #[.slice A n c,.slice B m d])/\WV w' (x:Int) false A n/\WV w' (y:Int) false B m/\Below w.heap.size w w'
section
variable {a b:Int} {s t:Bool} {A B:Option Addr} {n m c d:Nat} {w:World}
theorem sE (ha:WV w a s A n)(hb:WV w b t B m)(la:n<=900000)(lb:m<=900000):
  Calls Tryz.prog 134 #[.slice A n c,.slice B m d] w (LR (Nat.gcd a.natAbs b.natAbs) w):=by
 obtain⟨-,rfl,hA⟩:=ha;obtain⟨-,rfl,hB⟩:=hb
 exact(EB A B c d a.natAbs b.natAbs w hA hB la lb).mono fun _ _ ⟨A',c',he,h,hb⟩=>⟨A',_,c',he,WV.nat h,hb⟩
theorem wm (ha:WV w a s A n)(hb:WV w b t B m)(la:n<=900000)(lb:m<=900000)(hb0:b≠0):
  Calls Tryz.prog 161 #[.slice A n c,.slice B m d] w (LR2 (a.natAbs/b.natAbs) (a.natAbs%b.natAbs) w):=by
 obtain⟨-,rfl,hA⟩:=ha;obtain⟨-,rfl,hB⟩:=hb
 exact(rC A B c d a.natAbs b.natAbs w hA hB (by omega) la lb).mono fun _ _ ⟨A',c',B',d',he,h,h',hb⟩=>⟨A',_,c',B',_,d',he,WV.nat h,WV.nat h',hb⟩
theorem BO (r:Bool)(ha:WV w a s A n):Calls Tryz.prog 162 #[.bool r,.slice A n c] w (WR (jt r a.natAbs) w):=by
 obtain⟨-,rfl,hA⟩:=ha
 refine(lK r A (ln ai a.natAbs) c w).mono fun e w' h=> ?_
 have hs:=BP (z:=jt r a.natAbs) (s:=r) (x:=a.natAbs) rfl;obtain⟨he,hb⟩:=h;exact⟨_,A,_,c,he,⟨hs.2,by rw[hs.1],by rw[hs.1];exact aJ.below hA hb⟩,hb⟩
end
theorem JR (a b:Int)(hb:b≠0):(Rat.divInt a b).num=jt (decide (a<0) !=decide (b<0)) (a.natAbs/Nat.gcd a.natAbs b.natAbs)/\(((Rat.divInt a b).den:Nat):Int)=jt false (b.natAbs/Nat.gcd a.natAbs b.natAbs):=by
 have hg:((Nat.gcd a.natAbs b.natAbs:Nat):Int)∣a:=Int.ofNat_dvd_left.2 (kn _ _)
 rcases Int.lt_or_lt_of_ne hb with h|h
 ·
  have h1:=uQ (n:=-a) (d:=-b) (by omega);rw[JM,kR,kR] at h1;refine⟨?_, ?_⟩
  ·
   rw[h1.1,Int.neg_ediv_of_dvd hg]
   by_cases ha:a<0
   ·
    rw[aL ha,aL h]
    obtain⟨k,rfl⟩:∃k:Nat,a=-(k:Int):=⟨a.natAbs,by omega⟩
    rw[kR,bV] at hg⊢;rw[Int.neg_ediv_of_dvd (Int.natCast_dvd_natCast.2 (kn _ _)),Int.neg_neg];show _=((k/Nat.gcd k b.natAbs:Nat):Int);rw[jl]
   ·
    rw[aH ha,aL h]
    obtain⟨k,rfl⟩:∃k:Nat,a=(k:Int):=⟨a.natAbs,by omega⟩
    rw[bV];show _=-((k/Nat.gcd k b.natAbs:Nat):Int);rw[jl]
  ·
   rw[h1.2]
   obtain⟨k,rfl⟩:∃k:Nat,b=-(k:Int):=⟨b.natAbs,by omega⟩
   rw[Int.neg_neg,kR,bV];show _=((k/Nat.gcd a.natAbs k:Nat):Int);rw[jl]
 ·
  have h1:=uQ (n:=a) (d:=b) h;refine⟨?_, ?_⟩
  ·
   rw[h1.1,aH (show¬b<0 by omega)]
   by_cases ha:a<0
   ·
    rw[aL ha]
    obtain⟨k,rfl⟩:∃k:Nat,a=-(k:Int):=⟨a.natAbs,by omega⟩
    rw[kR,bV] at hg⊢;rw[Int.neg_ediv_of_dvd (Int.natCast_dvd_natCast.2 (kn _ _))];show _=-((k/Nat.gcd k b.natAbs:Nat):Int);rw[jl]
   ·
    rw[aH ha]
    obtain⟨k,rfl⟩:∃k:Nat,a=(k:Int):=⟨a.natAbs,by omega⟩
    rw[bV];show _=((k/Nat.gcd k b.natAbs:Nat):Int);rw[jl]
  ·
   rw[h1.2]
   obtain⟨k,rfl⟩:∃k:Nat,b=(k:Int):=⟨b.natAbs,by omega⟩
   rw[bV];show _=((k/Nat.gcd a.natAbs k:Nat):Int);rw[jl]
theorem yJ {a b:Int}{sa sb:Bool}{Aa Ab:Option Addr}{na ca nb cb:Nat}{w:World}(ha:WV w a sa Aa na)(hb:WV w b sb Ab nb)(la:na<=900000)(lb:nb<=900000)(hb0:b≠0):
  Calls Tryz.prog 137 #[.agg #[.bool sa,.slice Aa na ca],.agg #[.bool sb,.slice Ab nb cb]] w (FR (Rat.divInt a b) w):=by
 by_cases Uo:Nat.gcd a.natAbs b.natAbs=1
 ·
  have hE:=((((Env.start w).wv ha).wv hb).blk 27 #[.bool sa,.slice Aa na ca] (g:=w.heap.size) rfl).blk 27 #[.bool sb,.slice Ab nb cb] (g:=w.heap.size+1) (by simp);have hE:=hE.blk 29 aW (g:=w.heap.size+1+1) (by simp)
  obtain⟨W0,aC⟩:∃W0,W0=(((w.alloc (.cells #[.bool sa,.slice Aa na ca] 27)).alloc (.cells #[.bool sb,.slice Ab nb cb] 27)).alloc (.cells aW 29)):=⟨_,rfl⟩
  rw[<-aC] at hE;have aZ:=af aC;clear aC
  go_enter Tryz.func137,Tryz.ntmps137
  go_upto_region 1 with(fail)
  rw[<-aZ.out];obtain⟨k1,k2⟩:=(hE.h2).c2;obtain⟨k3,k4⟩:=(hE.g1).c2;go_wp2_with fail
  have hc:=sE (c:=ca) (d:=cb) hE.h4 hE.h3 la lb;refine hc.mono ?_;clear hc;clear k1 k2 k3 k4
  rintro e w5 ⟨Ag,ng,cg,rfl,hg,hb⟩
  replace hE:=hE.step hb;clear hb;replace hE:=hE.wv hg;clear hg
  have lg:ng<=900000:=by rw[(hE.g0).len,bV];refine ay (cN aA (Nat.gcd_le_right _ (show 0<b.natAbs by omega))) ?_;rw[<-(hE.h4).len];exact lb
  go_wp2_with fail
  have hc:=Gs (c:=cg) hE.g0 (by omega);rw[aL (show((Nat.gcd a.natAbs b.natAbs:Nat):Int)=1 by omega)] at hc;refine hE.br hc ?_;clear hE hc;intro w20 hE;obtain⟨e1,e2⟩:=JR a b hb0;rw[<-(hE.h5).AM,<-(hE.h4).AM] at e1;rw[Uo,Nat.div_one] at e1 e2;have E1:=af e1;have E2:=af e2;have HG:=af Uo;clear e1 e2 Uo
  go_upto_region 3 with(fail)
  replace hE:=hE.drew;refine bH (S:=fun w'=>w'.cell? ⟨w.heap.size,0,none⟩=some (.bool sa)/\w'.cell? ⟨w.heap.size,1,none⟩=some (.slice Aa na ca)/\w'.cell? ⟨w.heap.size+1,0,none⟩=some (.bool sb)/\w'.cell? ⟨w.heap.size+1,1,none⟩=some (.slice Ab nb cb)) (by kernel_rfl) (hE.h3.j2 hE.h2.c2) (fun hHeld=> ?_);refine tk 0 ?_;refine tk 1 ?_;refine tk 2 ?_;refine tk 3 ?_;refine tk 4 ?_;refine tk 5 ?_;refine tk 6 ?_;refine tk 8 ?_;refine tk 9 ?_;refine r1 7 (fun K hK=> ?_);go_simp;have hc:=BO (c:=ca) (sa !=sb) hE.h5;refine hc.mono ?_;clear hc
  rintro e w6 ⟨sx,Ax,nx,cx,rfl,hx,hb⟩
  replace hE:=hE.step hb;clear hb;replace hE:=hE.wv hx;clear hx;go_wp2_with fail
  refine hK.out _ _ (hE.h4.j2 hE.h3.c2) (fun hHeld=> ?_);clear hK K;try simp only[PL]
  refine r1 10 (fun K hK=> ?_);go_simp;have hc:=BO (c:=cb) false hE.h5;refine hc.mono ?_;clear hc
  rintro e w7 ⟨sy,Ay,ny,cy,rfl,hy,hb⟩
  replace hE:=hE.step hb;clear hb;replace hE:=hE.wv hy;clear hy;have oM:FV w7 (Rat.divInt a b) sx Ax nx sy Ay ny:=⟨by rw[E1.out];exact hE.g1,by rw[E2.out];exact hE.g0⟩;replace hE:=hE.fv oM;clear oM;go_wp2_with fail
  refine hK.out _ _ (hE.h6.j2 hE.h5.c2) (fun hHeld=> ?_);clear hK K;try simp only[PL]
  refine tk 11 ?_;refine r1 12 (fun K hK=> ?_)
  have cS:w.heap.size<=w.heap.size+1+1:=by omega
  obtain⟨WW,bn,hB,hV,aM⟩:=aR hE hE.h4 cS hE.g0 cx cy;obtain⟨x0,x1,x2,x3⟩:=(hE.h4).c4;obtain⟨fL,fM,fV,fW⟩:=hE.h4.f4;have bR:=af bn;clear bn;have q8:=(hE.h6).aj (R:=w.heap.size+1+1) (by omega) (.bool sx) (.slice Ax nx cx) (.bool sy) (.slice Ay ny cy);rw[<-bR.out] at q8;have q9:=(hE.h5).aj (R:=w.heap.size+1+1) (by omega) (.bool sx) (.slice Ax nx cx) (.bool sy) (.slice Ay ny cy);rw[<-bR.out] at q9;go_simp;rw[<-bR.out];refine hK.out _ _ (q8.j2 q9.c2) (fun hHeld=> ?_);clear hK K;try simp only[PL]
  refine aX (by kernel_rfl) ?_ _;go_wp2_with fail
  obtain⟨y0,y1,y2,y3⟩:=hB.c4;refine aK (v:= .agg (az sx Ax nx cx sy Ay ny cy)) (by simp[results,Tryz.results137,go_sem,y0,y1,y2,y3]) rfl ?_;exact⟨sx,Ax,nx,cx,sy,Ay,ny,cy,rfl,hV,aM⟩
 ·
  have hE:=((((Env.start w).wv ha).wv hb).blk 27 #[.bool sa,.slice Aa na ca] (g:=w.heap.size) rfl).blk 27 #[.bool sb,.slice Ab nb cb] (g:=w.heap.size+1) (by simp);have hE:=hE.blk 29 aW (g:=w.heap.size+1+1) (by simp)
  obtain⟨W0,aC⟩:∃W0,W0=(((w.alloc (.cells #[.bool sa,.slice Aa na ca] 27)).alloc (.cells #[.bool sb,.slice Ab nb cb] 27)).alloc (.cells aW 29)):=⟨_,rfl⟩
  rw[<-aC] at hE;have aZ:=af aC;clear aC
  go_enter Tryz.func137,Tryz.ntmps137
  go_upto_region 1 with(fail)
  rw[<-aZ.out];obtain⟨k1,k2⟩:=(hE.h2).c2;obtain⟨k3,k4⟩:=(hE.g1).c2;go_wp2_with fail
  have hc:=sE (c:=ca) (d:=cb) hE.h4 hE.h3 la lb;refine hc.mono ?_;clear hc;clear k1 k2 k3 k4
  rintro e w5 ⟨Ag,ng,cg,rfl,hg,hb⟩
  replace hE:=hE.step hb;clear hb;replace hE:=hE.wv hg;clear hg
  have lg:ng<=900000:=by rw[(hE.g0).len,bV];refine ay (cN aA (Nat.gcd_le_right _ (show 0<b.natAbs by omega))) ?_;rw[<-(hE.h4).len];exact lb
  go_wp2_with fail
  have hc:=Gs (c:=cg) hE.g0 (by omega);rw[aH (show¬((Nat.gcd a.natAbs b.natAbs:Nat):Int)=1 by omega)] at hc;refine hE.br hc ?_;clear hE hc;intro w20 hE;obtain⟨e1,e2⟩:=JR a b hb0;rw[<-(hE.h5).AM,<-(hE.h4).AM] at e1;have E1:=af e1;have E2:=af e2;have HG:=af Uo;clear e1 e2 Uo;have eW:((Nat.gcd a.natAbs b.natAbs:Nat):Int)≠0:=wj hb0;obtain⟨k6,k7⟩:=(hE.h3).c2;go_wp2_with fail
  have hc:=wm (c:=ca) (d:=cg) hE.h5 hE.g0 la lg eW;rw[bV] at hc;refine hc.mono ?_;clear hc;clear k6 k7
  rintro e w8 ⟨Ap,np,cp,Ar,nr,cr,rfl,hp,hr,hb⟩
  replace hE:=hE.step hb;clear hb;replace hE:=(hE.wv hp).wv hr;clear hp hr;obtain⟨k9,fU⟩:=(hE.h4).c2;go_wp2_with fail
  have hc:=wm (c:=cb) (d:=cg) hE.h6 hE.h2 lb lg eW;rw[bV] at hc;refine hc.mono ?_;clear hc;clear k9 fU
  rintro e Kw ⟨Aq,nq,cq,Au,nu,cu,rfl,hq,hu,hb⟩
  replace hE:=hE.step hb;clear hb;replace hE:=(hE.wv hq).wv hu;clear hq hu;obtain⟨dY,eu⟩:=(hE.h7).c2;obtain⟨eF,iA⟩:=(hE.h6).c2;go_wp2_with fail
  have hc:=BO (c:=cp) (sa !=sb) hE.h3;rw[bV] at hc;refine hc.mono ?_;clear hc;clear dY eu eF iA
  rintro e FD ⟨sx,Ax,nx,cx,rfl,hx,hb⟩
  replace hE:=hE.step hb;clear hb;replace hE:=hE.wv hx;clear hx;go_wp2_with fail
  have hc:=BO (c:=cq) false hE.h2;rw[bV] at hc;refine hc.mono ?_;clear hc
  rintro e Gc ⟨sy,Ay,ny,cy,rfl,hy,hb⟩
  replace hE:=hE.step hb;clear hb;replace hE:=hE.wv hy;clear hy;have oM:FV Gc (Rat.divInt a b) sx Ax nx sy Ay ny:=⟨by rw[E1.out];exact hE.g1,by rw[E2.out];exact hE.g0⟩;replace hE:=hE.fv oM;clear oM
  have cS:w.heap.size<=w.heap.size+1+1:=by omega
  obtain⟨WW,bn,hB,hV,aM⟩:=aR hE hE.h8 cS hE.g0 cx cy;obtain⟨x0,x1,x2,x3⟩:=(hE.h8).c4;obtain⟨fL,fM,fV,fW⟩:=hE.h8.f4;have bR:=af bn;clear bn;go_wp2_with fail
  rw[<-bR.out];obtain⟨y0,y1,y2,y3⟩:=hB.c4;refine aK (v:= .agg (az sx Ax nx cx sy Ay ny cy)) (by simp[results,Tryz.results137,go_sem,y0,y1,y2,y3]) rfl ?_;exact⟨sx,Ax,nx,cx,sy,Ay,ny,cy,rfl,hV,aM⟩
theorem wq (z:Int)(w:World)(h1:-9223372036854775808<=z)(h2:z<=9223372036854775807):Calls Tryz.prog 168 #[.int .i64 z] w (WR z w):=
 (wu z w h1 h2).mono fun _ _ h=>by obtain⟨s,A,n,c,he,ho,hb⟩:=h.vi;exact⟨s,A,n,c,he,ho.v,hb⟩
theorem yK {w:World}{z:Int}{s:Bool}{A:Option Addr}{n:Nat}(h:WV w z s A n)(h1:-9223372036854775808<=z)(h2:z<=9223372036854775807):n<=4:=by
 rw[h.len];exact adQ h1 h2
theorem Qi (n d:Int)(w:World)(h1:-9223372036854775808<=n)(h2:n<=9223372036854775807)(h3:-9223372036854775808<=d)(h4:d<=9223372036854775807)(hd:d≠0):
  Calls Tryz.prog 144 #[.int .i64 n,.int .i64 d] w (FR (Rat.divInt n d) w):=by
 have hE:=Env.start w;have hE:=hE.blk 29 aW (g:=w.heap.size) rfl
 obtain⟨W0,aC⟩:∃W0,W0=(w.alloc (.cells aW 29)):=⟨_,rfl⟩
 rw[<-aC] at hE;have aZ:=af aC;clear aC
 go_enter Tryz.func144,Tryz.ntmps144
 go_upto_region 1 with(fail)
 rw[<-aZ.out];go_wp2_with fail
 have hc:=wq n W0 h1 h2;refine hc.mono ?_;clear hc
 rintro e w1 ⟨sx,Ax,nx,cx,rfl,hx,hb⟩
 replace hE:=hE.step hb;clear hb;replace hE:=hE.wv hx;clear hx;go_wp2_with fail
 have hc:=wq d w1 h3 h4;refine hc.mono ?_;clear hc
 rintro e w2 ⟨sy,Ay,ny,cy,rfl,hy,hb⟩
 replace hE:=hE.step hb;clear hb;replace hE:=hE.wv hy;clear hy;have lx:=yK hE.g1 h1 h2;have ly:=yK hE.g0 h3 h4;go_wp2_with fail
 refine hE.fr (yJ (ca:=cx) (cb:=cy) hE.g1 hE.g0 (ay lx (by decide)) (ay ly (by decide)) hd) ?_;clear hE;intro sf Af nf cf tf Bf mf df w3 hE
 have cS:w.heap.size<=w.heap.size:=by omega
 obtain⟨WW,bn,hB,hV,aM⟩:=aR hE hE.h3 cS hE.g0 cf df;obtain⟨x0,x1,x2,x3⟩:=(hE.h3).c4;obtain⟨fL,fM,fV,fW⟩:=hE.h3.f4;have bR:=af bn;clear bn;go_wp2_with fail
 rw[<-bR.out];obtain⟨y0,y1,y2,y3⟩:=hB.c4;refine aK (v:= .agg (az sf Af nf cf tf Bf mf df)) (by simp[results,Tryz.results144,go_sem,y0,y1,y2,y3]) rfl ?_;exact⟨sf,Af,nf,cf,tf,Bf,mf,df,rfl,hV,aM⟩
end
section
open Go.RowKit

theorem uT {w:World}{q:Rat}{s t:Bool}{A B:Option Addr}{n m k:Nat}(_:FV w q s A n t B m)(hq:fl q<=k):ln ai q.num.natAbs<=k/\ln ai ((q.den:Nat):Int).natAbs<=k:=by
 rw[bV];exact dA.1 hq
end
section
open Go.RowKit

theorem jo {a b:Int}{s t:Bool}{A B:Option Addr}{n m c d:Nat}{w:World}(ha:WV w a s A n)(hv:WV w b t B m)(la:n<=1000000)(lb:m<=1000000):
  Calls Tryz.prog 136 #[.agg #[.bool s,.slice A n c],.agg #[.bool t,.slice B m d]] w (WR (a*b) w):=
 (BQ ha hv la lb).mono fun _ _ ⟨s,A,n,c,he,hv,_,hb⟩=>⟨s,A,n,c,he,hv,hb⟩
theorem BR {a b:Int}{s t:Bool}{A B:Option Addr}{n m c d:Nat}{w:World}(ha:WV w a s A n)(hv:WV w b t B m)(la:n<=1000000)(lb:m<=1000000):
  Calls Tryz.prog 135 #[.agg #[.bool s,.slice A n c],.agg #[.bool t,.slice B m d]] w (WR (a+b) w):=
 (Sb ha hv la lb).mono fun _ _ ⟨s,A,n,c,he,hv,_,hb⟩=>⟨s,A,n,c,he,hv,hb⟩
theorem oO {a b:Rat}{sa ta sb tb:Bool}{Aa Ba Ab Bb:Option Addr}{na ca ma da nb cb mb db:Nat}{w:World}(ha:FV w a sa Aa na ta Ba ma)(hb:FV w b sb Ab nb tb Bb mb)(la:fl a<=100000)(lb:fl b<=100000):
  Calls Tryz.prog 93 #[.agg (az sa Aa na ca ta Ba ma da),.agg (az sb Ab nb cb tb Bb mb db)] w (FR (a+b) w):=by
 have hE:=((((Env.start w).fv ha).fv hb).blk 29 (az sa Aa na ca ta Ba ma da) (g:=w.heap.size) rfl).blk 29 (az sb Ab nb cb tb Bb mb db) (g:=w.heap.size+1) (by simp);have hE:=hE.blk 29 aW (g:=w.heap.size+1+1) (by simp)
 obtain⟨W0,aC⟩:∃W0,W0=(((w.alloc (.cells (az sa Aa na ca ta Ba ma da) 29)).alloc (.cells (az sb Ab nb cb tb Bb mb db) 29)).alloc (.cells aW 29)):=⟨_,rfl⟩
 rw[<-aC] at hE;have aZ:=af aC;clear aC
 go_enter Tryz.func93,Tryz.ntmps93
 go_upto_region 1 with(fail)
 rw[<-aZ.out];obtain⟨JD,vq⟩:=(hE.h4).ln la;obtain⟨eD,eS⟩:=(hE.h3).ln lb;obtain⟨xx,mP⟩:=uT (hE.h4) la;obtain⟨wY,nH⟩:=uT (hE.h3) lb
 go_cut [5] from 6 to 16 (fun p wx=>∃G1 sz Az nz cz,p= .pointer (some ⟨G1,0,none⟩)/\w.heap.size+1+1<G1/\Env w (fun V=>(((((((True/\FV V a sa Aa na ta Ba ma)/\FV V b sb Ab nb tb Bb mb)/\au 29 (w.heap.size) (az sa Aa na ca ta Ba ma da) V)/\au 29 (w.heap.size+1) (az sb Ab nb cb tb Bb mb db) V)/\au 29 (w.heap.size+1+1) aW V)/\WV V (a.num*(b.den:Int)+b.num*(a.den:Int)) sz Az nz)/\au 27 (G1) #[.bool sz,.slice Az nz cz] V)) wx)
 case first=>
  replace hE:=hE.drew;refine bH (S:=fun w'=>w'.cell? ⟨w.heap.size,0,none⟩=some (.bool sa)/\w'.cell? ⟨w.heap.size,1,none⟩=some (.slice Aa na ca)/\w'.cell? ⟨w.heap.size,2,none⟩=some (.bool ta)/\w'.cell? ⟨w.heap.size,3,none⟩=some (.slice Ba ma da)/\w'.cell? ⟨w.heap.size+1,0,none⟩=some (.bool sb)/\w'.cell? ⟨w.heap.size+1,1,none⟩=some (.slice Ab nb cb)/\w'.cell? ⟨w.heap.size+1,2,none⟩=some (.bool tb)/\w'.cell? ⟨w.heap.size+1,3,none⟩=some (.slice Bb mb db)) (by kernel_rfl) (hE.h2.j4 hE.g1.c4) (fun hHeld=> ?_)
  generalize W0.drew=wd at*
  refine tk 0 ?_;refine tk 1 ?_;refine tk 2 ?_;refine tk 3 ?_;refine tk 5 ?_;refine tk 6 ?_;refine tk 7 ?_;refine tk 8 ?_;refine cC (rs:=[4,11]) (by kernel_rfl) (by simp) (bq rfl (fun K hK=> ?_) (bq rfl (fun K hK=> ?_) (cD)))
  ·
   go_simp;have hc:=jo (c:=ca) (d:=db) (hE.h4).1 (hE.h3).2 (ay JD (by decide)) (ay eS (by decide));refine hc.mono ?_;clear hc
   rintro e w1 ⟨sx,Ax,nx,cx,rfl,hx,hb⟩
   replace hE:=hE.step hb;clear hb;replace hE:=hE.wv hx;clear hx
   have lx:nx<=200000:=by rw[(hE.g0).len];exact bE (m:=100000) (n:=100000) xx nH
   go_wp2_with fail
   refine hK.out _ _ (hE.h3.j4 hE.h2.c4) (fun hHeld=> ?_);clear hK K;try simp only[PL]
   refine cC (rs:=[9,11]) (by kernel_rfl) (by simp) (bq rfl (fun K hK=> ?_) (bq rfl (fun K hK=> ?_) (cD)))
   ·
    go_simp;have hc:=jo (c:=cb) (d:=da) (hE.h4).1 (hE.h5).2 (ay eD (by decide)) (ay vq (by decide));refine hc.mono ?_;clear hc
    rintro e w2 ⟨sy,Ay,ny,cy,rfl,hy,hb⟩
    replace hE:=hE.step hb;clear hb;replace hE:=hE.wv hy;clear hy
    have ly:ny<=200000:=by rw[(hE.g0).len];exact bE (m:=100000) (n:=100000) wY mP
    go_wp2_with fail
    refine hK.out _ _ (hE.h4.j4 hE.h3.c4) (fun hHeld=> ?_);clear hK K;try simp only[PL]
    refine cC (rs:=[10,11]) (by kernel_rfl) (by simp) (bq rfl (fun K hK=> ?_) (bq rfl (fun K hK=> ?_) (cD)))
    ·
     go_simp;have hc:=BR (c:=cx) (d:=cy) hE.g1 hE.g0 (ay lx (by decide)) (ay ly (by decide));refine hc.mono ?_;clear hc
     rintro e w3 ⟨sz,Az,nz,cz,rfl,hz,hb⟩
     replace hE:=hE.step hb;clear hb;replace hE:=hE.wv hz;clear hz
     have lz:nz<=200001:=by rw[(hE.g0).len];exact gL (m:=200000) (by rw[<-(hE.h2).len];exact lx) (by rw[<-(hE.g1).len];exact ly)
     go_wp2_with fail
     refine hK.out _ _ (hE.h5.j4 hE.h4.c4) (fun hHeld=> ?_);clear hK K;try simp only[PL]
     refine r1 11 (fun K hK=> ?_);go_simp
     obtain⟨g4,xh⟩:∃g4,g4=w3.heap.size:=⟨_,rfl⟩
     have aqY:w.heap.size<g4:=by rw[xh];exact(hE.h5).lt
     have aia:w.heap.size+1<g4:=by rw[xh];exact(hE.h4).lt
     have aib:w.heap.size+1+1<g4:=by rw[xh];exact(hE.h3).lt
     replace hE:=hE.blk 27 #[.bool false,.slice none 0 0] (g:=g4) xh.symm;generalize w3.alloc (.cells #[.bool false,.slice none 0 0] 27)=W4 at hE⊢;rw[<-xh];clear xh;refine hK.out _ _ (hE.h6.j4 hE.h5.c4) (fun hHeld=> ?_);clear hK K;try simp only[PL]
     refine r1 12 (fun K hK=> ?_)
     have aiw:w.heap.size<=g4:=by omega
     obtain⟨aoH,aoI⟩:=(hE.g0).c2;obtain⟨aoJ,aoK⟩:=hE.g0.f2;replace hE:=((((((((((Env.again (oB hE.ax aiw (.bool sz) (.slice Az nz cz))).fv ((hE.h8).cH hE.g0 rfl _ _ rfl)).fv ((hE.h7).cH hE.g0 rfl _ _ rfl)).ag ((hE.h6).fq (by omega) _ _)).ag ((hE.h5).fq (by omega) _ _)).ag ((hE.h4).fq (by omega) _ _)).wv ((hE.h3).cH hE.g0 rfl _ _ rfl)).wv ((hE.h2).cH hE.g0 rfl _ _ rfl)).wv ((hE.g1).cH hE.g0 rfl _ _ rfl)).ag ((hE.g0).s2 _ _));go_simp;clear aoH aoI aoJ aoK aiw;generalize ((W4.setCell ⟨g4,0,none⟩ (.bool sz)).setCell ⟨g4,1,none⟩ (.slice Az nz cz))=W5 at hE⊢;refine hK.out _ _ (hE.h6.j4 hE.h5.c4) (fun hHeld=> ?_);clear hK K;try simp only[PL]
     refine aX (by kernel_rfl) ?_ _;go_wp2_with fail
     go_meet
     exact⟨g4,sz,Az,nz,cz,rfl,by omega,((((((((Env.again hE.ax).fv (hE.h8)).fv (hE.h7)).ag (hE.h6)).ag (hE.h5)).ag (hE.h4)).wv (hE.g1)).ag (hE.g0))⟩
    ·
     go_simp
     obtain⟨g6,pI⟩:∃g6,g6=w2.heap.size:=⟨_,rfl⟩
     have Sc:w.heap.size<g6:=by rw[pI];exact(hE.h4).lt
     have xY:w.heap.size+1<g6:=by rw[pI];exact(hE.h3).lt
     have Sd:w.heap.size+1+1<g6:=by rw[pI];exact(hE.h2).lt
     replace hE:=hE.blk 27 #[.bool false,.slice none 0 0] (g:=g6) pI.symm;generalize w2.alloc (.cells #[.bool false,.slice none 0 0] 27)=W6 at hE⊢;rw[<-pI];clear pI;refine hK.out _ _ (hE.h5.j4 hE.h4.c4) (fun hHeld=> ?_);clear hK K;try simp only[PL]
     refine r1 10 (fun K hK=> ?_);go_simp;have hc:=BR (c:=cx) (d:=cy) hE.h2 hE.g1 (ay lx (by decide)) (ay ly (by decide));refine hc.mono ?_;clear hc
     rintro e w7 ⟨sz,Az,nz,cz,rfl,hz,hb⟩
     replace hE:=hE.step hb;clear hb;replace hE:=hE.wv hz;clear hz
     have lz:nz<=200001:=by rw[(hE.g0).len];exact gL (m:=200000) (by rw[<-(hE.h3).len];exact lx) (by rw[<-(hE.h2).len];exact ly)
     go_wp2_with fail
     refine hK.out _ _ (hE.h6.j4 hE.h5.c4) (fun hHeld=> ?_);clear hK K;try simp only[PL]
     refine r1 12 (fun K hK=> ?_)
     have Ov:w.heap.size<=g6:=by omega
     obtain⟨ab2,ab3⟩:=(hE.g1).c2;obtain⟨ab4,ab5⟩:=hE.g1.f2;replace hE:=((((((((((Env.again (oB hE.ax Ov (.bool sz) (.slice Az nz cz))).fv ((hE.h8).cH hE.g1 rfl _ _ rfl)).fv ((hE.h7).cH hE.g1 rfl _ _ rfl)).ag ((hE.h6).fq (by omega) _ _)).ag ((hE.h5).fq (by omega) _ _)).ag ((hE.h4).fq (by omega) _ _)).wv ((hE.h3).cH hE.g1 rfl _ _ rfl)).wv ((hE.h2).cH hE.g1 rfl _ _ rfl)).ag ((hE.g1).s2 _ _)).wv ((hE.g0).cH hE.g1 rfl _ _ rfl));go_simp;clear ab2 ab3 ab4 ab5 Ov;generalize ((w7.setCell ⟨g6,0,none⟩ (.bool sz)).setCell ⟨g6,1,none⟩ (.slice Az nz cz))=W8 at hE⊢;refine hK.out _ _ (hE.h6.j4 hE.h5.c4) (fun hHeld=> ?_);clear hK K;try simp only[PL]
     refine aX (by kernel_rfl) ?_ _;go_wp2_with fail
     go_meet
     exact⟨g6,sz,Az,nz,cz,rfl,by omega,((((((((Env.again hE.ax).fv (hE.h8)).fv (hE.h7)).ag (hE.h6)).ag (hE.h5)).ag (hE.h4)).wv (hE.g0)).ag (hE.g1))⟩
   ·
    go_simp
    obtain⟨g9,Gn⟩:∃g9,g9=w1.heap.size:=⟨_,rfl⟩
    have aqZ:w.heap.size<g9:=by rw[Gn];exact(hE.h3).lt
    have Pv:w.heap.size+1<g9:=by rw[Gn];exact(hE.h2).lt
    have aq0:w.heap.size+1+1<g9:=by rw[Gn];exact(hE.g1).lt
    replace hE:=hE.blk 27 #[.bool false,.slice none 0 0] (g:=g9) Gn.symm;generalize w1.alloc (.cells #[.bool false,.slice none 0 0] 27)=W9 at hE⊢;rw[<-Gn];clear Gn;refine hK.out _ _ (hE.h4.j4 hE.h3.c4) (fun hHeld=> ?_);clear hK K;try simp only[PL]
    refine r1 9 (fun K hK=> ?_);go_simp;have hc:=jo (c:=cb) (d:=da) (hE.h5).1 (hE.h6).2 (ay eD (by decide)) (ay vq (by decide));refine hc.mono ?_;clear hc
    rintro e rU ⟨sy,Ay,ny,cy,rfl,hy,hb⟩
    replace hE:=hE.step hb;clear hb;replace hE:=hE.wv hy;clear hy
    have ly:ny<=200000:=by rw[(hE.g0).len];exact bE (m:=100000) (n:=100000) wY mP
    go_wp2_with fail
    refine hK.out _ _ (hE.h5.j4 hE.h4.c4) (fun hHeld=> ?_);clear hK K;try simp only[PL]
    refine r1 10 (fun K hK=> ?_);go_simp;have hc:=BR (c:=cx) (d:=cy) hE.h2 hE.g0 (ay lx (by decide)) (ay ly (by decide));refine hc.mono ?_;clear hc
    rintro e Kw ⟨sz,Az,nz,cz,rfl,hz,hb⟩
    replace hE:=hE.step hb;clear hb;replace hE:=hE.wv hz;clear hz
    have lz:nz<=200001:=by rw[(hE.g0).len];exact gL (m:=200000) (by rw[<-(hE.h3).len];exact lx) (by rw[<-(hE.g1).len];exact ly)
    go_wp2_with fail
    refine hK.out _ _ (hE.h6.j4 hE.h5.c4) (fun hHeld=> ?_);clear hK K;try simp only[PL]
    refine r1 12 (fun K hK=> ?_)
    have Da:w.heap.size<=g9:=by omega
    obtain⟨OO,OP⟩:=(hE.h2).c2;obtain⟨OQ,OS⟩:=hE.h2.f2;replace hE:=((((((((((Env.again (oB hE.ax Da (.bool sz) (.slice Az nz cz))).fv ((hE.h8).cH hE.h2 rfl _ _ rfl)).fv ((hE.h7).cH hE.h2 rfl _ _ rfl)).ag ((hE.h6).fq (by omega) _ _)).ag ((hE.h5).fq (by omega) _ _)).ag ((hE.h4).fq (by omega) _ _)).wv ((hE.h3).cH hE.h2 rfl _ _ rfl)).ag ((hE.h2).s2 _ _)).wv ((hE.g1).cH hE.h2 rfl _ _ rfl)).wv ((hE.g0).cH hE.h2 rfl _ _ rfl));go_simp;clear OO OP OQ OS Da;generalize ((Kw.setCell ⟨g9,0,none⟩ (.bool sz)).setCell ⟨g9,1,none⟩ (.slice Az nz cz))=W12 at hE⊢;refine hK.out _ _ (hE.h6.j4 hE.h5.c4) (fun hHeld=> ?_);clear hK K;try simp only[PL]
    refine aX (by kernel_rfl) ?_ _;go_wp2_with fail
    go_meet
    exact⟨g9,sz,Az,nz,cz,rfl,by omega,((((((((Env.again hE.ax).fv (hE.h8)).fv (hE.h7)).ag (hE.h6)).ag (hE.h5)).ag (hE.h4)).wv (hE.g0)).ag (hE.h2))⟩
  ·
   go_simp
   obtain⟨g13,sF⟩:∃g13,g13=wd.heap.size:=⟨_,rfl⟩
   have ady:w.heap.size<g13:=by rw[sF];exact(hE.h2).lt
   have aoL:w.heap.size+1<g13:=by rw[sF];exact(hE.g1).lt
   have aoM:w.heap.size+1+1<g13:=by rw[sF];exact(hE.g0).lt
   replace hE:=hE.blk 27 #[.bool false,.slice none 0 0] (g:=g13) sF.symm;generalize wd.alloc (.cells #[.bool false,.slice none 0 0] 27)=W13 at hE⊢;rw[<-sF];clear sF;refine hK.out _ _ (hE.h3.j4 hE.h2.c4) (fun hHeld=> ?_);clear hK K;try simp only[PL]
   refine r1 4 (fun K hK=> ?_);go_simp;have hc:=jo (c:=ca) (d:=db) (hE.h5).1 (hE.h4).2 (ay JD (by decide)) (ay eS (by decide));refine hc.mono ?_;clear hc
   rintro e FC ⟨sx,Ax,nx,cx,rfl,hx,hb⟩
   replace hE:=hE.step hb;clear hb;replace hE:=hE.wv hx;clear hx
   have lx:nx<=200000:=by rw[(hE.g0).len];exact bE (m:=100000) (n:=100000) xx nH
   go_wp2_with fail
   refine hK.out _ _ (hE.h4.j4 hE.h3.c4) (fun hHeld=> ?_);clear hK K;try simp only[PL]
   refine r1 9 (fun K hK=> ?_);go_simp;have hc:=jo (c:=cb) (d:=da) (hE.h5).1 (hE.h6).2 (ay eD (by decide)) (ay vq (by decide));refine hc.mono ?_;clear hc
   rintro e wX ⟨sy,Ay,ny,cy,rfl,hy,hb⟩
   replace hE:=hE.step hb;clear hb;replace hE:=hE.wv hy;clear hy
   have ly:ny<=200000:=by rw[(hE.g0).len];exact bE (m:=100000) (n:=100000) wY mP
   go_wp2_with fail
   refine hK.out _ _ (hE.h5.j4 hE.h4.c4) (fun hHeld=> ?_);clear hK K;try simp only[PL]
   refine r1 10 (fun K hK=> ?_);go_simp;have hc:=BR (c:=cx) (d:=cy) hE.g1 hE.g0 (ay lx (by decide)) (ay ly (by decide));refine hc.mono ?_;clear hc
   rintro e FD ⟨sz,Az,nz,cz,rfl,hz,hb⟩
   replace hE:=hE.step hb;clear hb;replace hE:=hE.wv hz;clear hz
   have lz:nz<=200001:=by rw[(hE.g0).len];exact gL (m:=200000) (by rw[<-(hE.h2).len];exact lx) (by rw[<-(hE.g1).len];exact ly)
   go_wp2_with fail
   refine hK.out _ _ (hE.h6.j4 hE.h5.c4) (fun hHeld=> ?_);clear hK K;try simp only[PL]
   refine r1 12 (fun K hK=> ?_)
   have kF:w.heap.size<=g13:=by omega
   obtain⟨vw,vz⟩:=(hE.h3).c2;obtain⟨vA,vB⟩:=hE.h3.f2;replace hE:=((((((((((Env.again (oB hE.ax kF (.bool sz) (.slice Az nz cz))).fv ((hE.h8).cH hE.h3 rfl _ _ rfl)).fv ((hE.h7).cH hE.h3 rfl _ _ rfl)).ag ((hE.h6).fq (by omega) _ _)).ag ((hE.h5).fq (by omega) _ _)).ag ((hE.h4).fq (by omega) _ _)).ag ((hE.h3).s2 _ _)).wv ((hE.h2).cH hE.h3 rfl _ _ rfl)).wv ((hE.g1).cH hE.h3 rfl _ _ rfl)).wv ((hE.g0).cH hE.h3 rfl _ _ rfl));go_simp;clear vw vz vA vB kF;generalize ((FD.setCell ⟨g13,0,none⟩ (.bool sz)).setCell ⟨g13,1,none⟩ (.slice Az nz cz))=W17 at hE⊢;refine hK.out _ _ (hE.h6.j4 hE.h5.c4) (fun hHeld=> ?_);clear hK K;try simp only[PL]
   refine aX (by kernel_rfl) ?_ _;go_wp2_with fail
   go_meet
   exact⟨g13,sz,Az,nz,cz,rfl,by omega,((((((((Env.again hE.ax).fv (hE.h8)).fv (hE.h7)).ag (hE.h6)).ag (hE.h5)).ag (hE.h4)).wv (hE.g0)).ag (hE.h3))⟩
 case rest=>
 clear hE;obtain⟨G1,sz,Az,nz,cz,rfl,hG1,hE⟩:=hcut;generalize wc=wk1 at hE⊢
 have lz:nz<=200001:=by rw[(hE.g1).len];exact gL (m:=200000) (bE (m:=100000) (n:=100000) xx nH) (bE (m:=100000) (n:=100000) wY mP)
 go_upto_region 2 with(fail)
 replace hE:=hE.drew;refine bH (S:=fun w'=>w'.cell? ⟨G1,0,none⟩=some (.bool sz)/\w'.cell? ⟨G1,1,none⟩=some (.slice Az nz cz)/\w'.cell? ⟨w.heap.size,0,none⟩=some (.bool sa)/\w'.cell? ⟨w.heap.size,1,none⟩=some (.slice Aa na ca)/\w'.cell? ⟨w.heap.size,2,none⟩=some (.bool ta)/\w'.cell? ⟨w.heap.size,3,none⟩=some (.slice Ba ma da)/\w'.cell? ⟨w.heap.size+1,0,none⟩=some (.bool sb)/\w'.cell? ⟨w.heap.size+1,1,none⟩=some (.slice Ab nb cb)/\w'.cell? ⟨w.heap.size+1,2,none⟩=some (.bool tb)/\w'.cell? ⟨w.heap.size+1,3,none⟩=some (.slice Bb mb db)) (by kernel_rfl) (hE.g0.j2 (hE.h4.j4 hE.h3.c4)) (fun hHeld=> ?_);refine tk 0 ?_;refine tk 1 ?_;refine tk 2 ?_;refine tk 3 ?_;refine tk 4 ?_;refine r1 5 (fun K hK=> ?_);go_simp;have hc:=jo (c:=da) (d:=db) (hE.h6).2 (hE.h5).2 (ay vq (by decide)) (ay eS (by decide));refine hc.mono ?_;clear hc
 rintro e TL ⟨su,Au,nu,cu,rfl,hu,hb⟩
 replace hE:=hE.step hb;clear hb;replace hE:=hE.wv hu;clear hu
 have lu:nu<=200000:=by rw[(hE.g0).len];exact bE (m:=100000) (n:=100000) mP nH
 go_wp2_with fail
 refine hK.out _ _ (hE.g1.j2 (hE.h5.j4 hE.h4.c4)) (fun hHeld=> ?_);clear hK K;try simp only[PL]
 refine r1 6 (fun K hK=> ?_);go_simp;have hc:=yJ (ca:=cz) (cb:=cu) hE.h2 hE.g0 (ay lz (by decide)) (ay lu (by decide)) (vM a b);rw[uP a b] at hc;refine hE.fr hc ?_;clear hE hc;intro sr Ar nr cr tr Br mr dr w19 hE;go_wp2_with fail
 refine hK.out _ _ (hE.h2.j2 (hE.h6.j4 hE.h5.c4)) (fun hHeld=> ?_);clear hK K;try simp only[PL]
 refine r1 7 (fun K hK=> ?_)
 have cS:w.heap.size<=w.heap.size+1+1:=by omega
 obtain⟨WW,bn,hB,hV,aM⟩:=aR hE hE.h4 cS hE.g0 cr dr;obtain⟨x0,x1,x2,x3⟩:=(hE.h4).c4;obtain⟨fL,fM,fV,fW⟩:=hE.h4.f4;have bR:=af bn;clear bn;have q20:=(hE.h2).aj (R:=w.heap.size+1+1) (by omega) (.bool sr) (.slice Ar nr cr) (.bool tr) (.slice Br mr dr);rw[<-bR.out] at q20;have q21:=(hE.h6).aj (R:=w.heap.size+1+1) (by omega) (.bool sr) (.slice Ar nr cr) (.bool tr) (.slice Br mr dr);rw[<-bR.out] at q21;have q22:=(hE.h5).aj (R:=w.heap.size+1+1) (by omega) (.bool sr) (.slice Ar nr cr) (.bool tr) (.slice Br mr dr);rw[<-bR.out] at q22;go_simp;rw[<-bR.out];refine hK.out _ _ (q20.j2 (q21.j4 q22.c4)) (fun hHeld=> ?_);clear hK K;try simp only[PL]
 refine aX (by kernel_rfl) ?_ _;go_wp2_with fail
 obtain⟨y0,y1,y2,y3⟩:=hB.c4;refine aK (v:= .agg (az sr Ar nr cr tr Br mr dr)) (by simp[results,Tryz.results93,go_sem,y0,y1,y2,y3]) rfl ?_;exact⟨sr,Ar,nr,cr,tr,Br,mr,dr,rfl,hV,aM⟩
end
end Go.Proofs.YtclbiihcbfnjmaaGreat
