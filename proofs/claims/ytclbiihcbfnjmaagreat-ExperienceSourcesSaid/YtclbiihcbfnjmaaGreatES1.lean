/-
  Parts.
-/
import Derived.Test.YtclbiihcbfnjmaaGreatE8
set_option linter.unusedSimpArgs false
set_option maxRecDepth 100000
set_option maxHeartbeats 4000000
namespace Go.Proofs.YtclbiihcbfnjmaaGreat
open Go.RowKit

theorem AP {q:Rat}{s t:Bool}{A B:Option Addr}{n m c d:Nat}{w:World}(ha:FV w q s A n t B m)(hf:256<fl q):
  Calls Tryz.prog 117 #[.agg (az s A n c t B m d)] w (vL 3 w):=by
 have hq:=JC ha true (aL hf);have hE:=((Env.start w).fv ha).blk 138 (az s A n c t B m d) (g:=w.heap.size) rfl;have hE:=hE.blk 29 aW (g:=w.heap.size+1) (by simp)
 obtain⟨W0,aC⟩:∃W0,W0=((w.alloc (.cells (az s A n c t B m d) 138)).alloc (.cells aW 29)):=⟨_,rfl⟩
 rw[<-aC] at hE;have aZ:=af aC;clear aC
 go_enter Tryz.func117,Tryz.ntmps117
 go_upto_region 1 with(fail)
 rw[<-aZ.out];obtain⟨k1,k2,k3,k4⟩:=(hE.g1).c4;go_wp2_with fail
 refine hE.br (kG s t A B n m c d W0 true hq) ?_;clear hE k1 k2 k3 k4;intro w5 hE
 go_upto_region 2 with(fail)
 have cS:w.heap.size<=w.heap.size+1:=by omega
 have hB:=(hE.g0).s4 (.bool false) (.slice none 0 0) (.bool false) (.slice none 0 0);have aM:=bW hE.ax cS (.bool false) (.slice none 0 0) (.bool false) (.slice none 0 0)
 obtain⟨WW,bn⟩:∃x,x=((((w5.setCell ⟨w.heap.size+1,0,none⟩ (.bool false)).setCell ⟨w.heap.size+1,1,none⟩ (.slice none 0 0)).setCell ⟨w.heap.size+1,2,none⟩ (.bool false)).setCell ⟨w.heap.size+1,3,none⟩ (.slice none 0 0)):=⟨_,rfl⟩
 rw[<-bn] at hB aM;obtain⟨x0,x1,x2,x3⟩:=(hE.g0).c4;obtain⟨fL,fM,fV,fW⟩:=(hE.g0).f4;have bR:=af bn;clear bn;go_wp2_with fail
 clear x0 x1 x2 x3;rw[<-bR.out];obtain⟨y0,y1,y2,y3⟩:=hB.c4;refine aK (v:= .tuple #[.agg aW,.int .i64 3]) (by simp[results,Tryz.results117,go_sem,y0,y1,y2,y3]) rfl ?_;exact⟨rfl,aM⟩
theorem Ll {a b:Rat}{sa ta sb tb:Bool}{Aa Ba Ab Bb:Option Addr}{na ca ma da nb cb mb db:Nat}{w:World}(ha:FV w a sa Aa na ta Ba ma)(hb:FV w b sb Ab nb tb Bb mb)(la:fl a<=256)(lb:fl b<=256)(lr:256<fl (a+b)):
  Calls Tryz.prog 77 #[.agg (az sa Aa na ca ta Ba ma da),.agg (az sb Ab nb cb tb Bb mb db)] w (vL 3 w):=by
 have hE:=((((Env.start w).fv ha).fv hb).blk 29 (az sa Aa na ca ta Ba ma da) (g:=w.heap.size) rfl).blk 29 (az sb Ab nb cb tb Bb mb db) (g:=w.heap.size+1) (by simp);have hE:=hE.blk 29 aW (g:=w.heap.size+1+1) (by simp)
 obtain⟨W0,aC⟩:∃W0,W0=(((w.alloc (.cells (az sa Aa na ca ta Ba ma da) 29)).alloc (.cells (az sb Ab nb cb tb Bb mb db) 29)).alloc (.cells aW 29)):=⟨_,rfl⟩
 rw[<-aC] at hE;have aZ:=af aC;clear aC
 go_enter Tryz.func77,Tryz.ntmps77
 go_upto_region 1 with(fail)
 rw[<-aZ.out];obtain⟨k1,k2,k3,k4⟩:=(hE.h2).c4;obtain⟨k5,k6,k7,k8⟩:=(hE.g1).c4;go_wp2_with fail
 have hc:=iq (c:=ca) (d:=da) (c2:=cb) (d2:=db) hE.h4 hE.h3 la lb;refine hc.mono ?_;clear hc;clear k1 k2 k3 k4 k5 k6 k7 k8
 rintro e w9 ⟨rfl,hb⟩
 replace hE:=hE.step hb;clear hb
 go_upto_region 3 with(fail)
 obtain⟨xx,mP⟩:=dA.1 la;obtain⟨wY,nH⟩:=dA.1 lb;obtain⟨JD,vq⟩:=(hE.h4).ln la;obtain⟨eD,eS⟩:=(hE.h3).ln lb
 have mP:ln ai ((a.den:Nat):Int).natAbs<=256:=by rw[bV];exact mP
 have nH:ln ai ((b.den:Nat):Int).natAbs<=256:=by rw[bV];exact nH
 replace hE:=hE.drew;refine bH (S:=fun w'=>w'.cell? ⟨w.heap.size,0,none⟩=some (.bool sa)/\w'.cell? ⟨w.heap.size,1,none⟩=some (.slice Aa na ca)/\w'.cell? ⟨w.heap.size,2,none⟩=some (.bool ta)/\w'.cell? ⟨w.heap.size,3,none⟩=some (.slice Ba ma da)/\w'.cell? ⟨w.heap.size+1,0,none⟩=some (.bool sb)/\w'.cell? ⟨w.heap.size+1,1,none⟩=some (.slice Ab nb cb)/\w'.cell? ⟨w.heap.size+1,2,none⟩=some (.bool tb)/\w'.cell? ⟨w.heap.size+1,3,none⟩=some (.slice Bb mb db)) (by kernel_rfl) (hE.h2.j4 hE.g1.c4) (fun hHeld=> ?_);refine tk 0 ?_;refine tk 1 ?_;refine tk 2 ?_;refine tk 3 ?_;refine tk 5 ?_;refine tk 6 ?_;refine tk 7 ?_;refine tk 8 ?_;refine tk 11 ?_;refine tk 12 ?_;refine tk 13 ?_;refine tk 14 ?_;refine r1 4 (fun K hK=> ?_);go_simp;have hc:=eI (ca:=ca) (cb:=db) (hE.h4).1 (hE.h3).2 (ay JD (by decide)) (ay eS (by decide)) (ay (bE (m:=256) (n:=256) xx nH) (by decide));refine hc.mono ?_;clear hc
 rintro e rU ⟨sx,Ax,nx,cx,rfl,hx,hb⟩
 replace hE:=hE.step hb;clear hb;replace hE:=hE.wv hx;clear hx
 have lx:nx<=512:=by rw[(hE.g0).len];exact(bE (m:=256) (n:=256) xx nH)
 go_wp2_with fail
 refine hK.out _ _ (hE.h3.j4 hE.h2.c4) (fun hHeld=> ?_);clear hK K;try simp only[PL]
 refine r1 9 (fun K hK=> ?_);go_simp;have hc:=eI (ca:=cb) (cb:=da) (hE.h4).1 (hE.h5).2 (ay eD (by decide)) (ay vq (by decide)) (ay (bE (m:=256) (n:=256) wY mP) (by decide));refine hc.mono ?_;clear hc
 rintro e Kw ⟨sy,Ay,ny,cy,rfl,hy,hb⟩
 replace hE:=hE.step hb;clear hb;replace hE:=hE.wv hy;clear hy
 have ly:ny<=512:=by rw[(hE.g0).len];exact(bE (m:=256) (n:=256) wY mP)
 go_wp2_with fail
 refine hK.out _ _ (hE.h4.j4 hE.h3.c4) (fun hHeld=> ?_);clear hK K;try simp only[PL]
 refine r1 10 (fun K hK=> ?_);go_simp;have hc:=AQ (ca:=cx) (cb:=cy) hE.g1 hE.g0 (ay lx (by decide)) (ay ly (by decide)) (ay (gL (m:=512) (by rw[<-(hE.g1).len];exact lx) (by rw[<-(hE.g0).len];exact ly)) (by decide));refine hc.mono ?_;clear hc
 rintro e On ⟨sz,Az,nz,cz,rfl,hz,hb⟩
 replace hE:=hE.step hb;clear hb;replace hE:=hE.wv hz;clear hz
 have lz:nz<=513:=by rw[(hE.g0).len];exact(gL (m:=512) (by rw[<-(hE.h2).len];exact lx) (by rw[<-(hE.g1).len];exact ly))
 go_wp2_with fail
 refine hK.out _ _ (hE.h5.j4 hE.h4.c4) (fun hHeld=> ?_);clear hK K;try simp only[PL]
 refine r1 15 (fun K hK=> ?_);go_simp;have hc:=eI (ca:=da) (cb:=db) (hE.h7).2 (hE.h6).2 (ay vq (by decide)) (ay eS (by decide)) (ay (bE (m:=256) (n:=256) mP nH) (by decide));refine hc.mono ?_;clear hc
 rintro e Ud ⟨su,Au,nu,cu,rfl,hu,hb⟩
 replace hE:=hE.step hb;clear hb;replace hE:=hE.wv hu;clear hu
 have lu:nu<=512:=by rw[(hE.g0).len];exact(bE (m:=256) (n:=256) mP nH)
 go_wp2_with fail
 refine hK.out _ _ (hE.h6.j4 hE.h5.c4) (fun hHeld=> ?_);clear hK K;try simp only[PL]
 refine r1 16 (fun K hK=> ?_);go_simp;have hc:=lf (ca:=cz) (cb:=cu) hE.g1 hE.g0 (ay lz (by decide)) (ay lu (by decide)) (vM a b);rw[uP a b] at hc;refine hE.fr hc ?_;clear hE hc;intro sf Af nf cf tf Bf mf df FC hE;go_wp2_with fail
 refine hK.out _ _ (hE.h7.j4 hE.h6.c4) (fun hHeld=> ?_);clear hK K;try simp only[PL]
 refine r1 17 (fun K hK=> ?_);go_simp;refine hE.br (AP (c:=cf) (d:=df) hE.g0 lr) ?_;clear hE;intro wX hE;go_wp2_with fail
 refine hK.out _ _ (hE.h7.j4 hE.h6.c4) (fun hHeld=> ?_);clear hK K;try simp only[PL]
 refine tk 18 ?_;refine tk 19 ?_;refine r1 20 (fun K hK=> ?_)
 have tP:w.heap.size<=w.heap.size+1+1:=by omega
 obtain⟨Dt,Du,Pb,Pc⟩:=(hE.h5).c4;obtain⟨Dw,Dx,Pd,Pe⟩:=hE.h5.f4;replace hE:=(((((((((((Env.again (bW hE.ax tP (.bool false) (.slice none 0 0) (.bool false) (.slice none 0 0))).fv ((hE.h9).ak hE.h5 rfl _ _ _ _ rfl rfl rfl)).fv ((hE.h8).ak hE.h5 rfl _ _ _ _ rfl rfl rfl)).ag ((hE.h7).aj (R:=w.heap.size+1+1) (by omega) _ _ _ _)).ag ((hE.h6).aj (R:=w.heap.size+1+1) (by omega) _ _ _ _)).ag ((hE.h5).s4 _ _ _ _)).wv ((hE.h4).ak hE.h5 rfl _ _ _ _ rfl rfl rfl)).wv ((hE.h3).ak hE.h5 rfl _ _ _ _ rfl rfl rfl)).wv ((hE.h2).ak hE.h5 rfl _ _ _ _ rfl rfl rfl)).wv ((hE.g1).ak hE.h5 rfl _ _ _ _ rfl rfl rfl)).fv ((hE.g0).ak hE.h5 rfl _ _ _ _ rfl rfl rfl));go_simp;clear Dt Du Pb Pc Dw Dx Pd Pe tP;generalize ((((wX.setCell ⟨w.heap.size+1+1,0,none⟩ (.bool false)).setCell ⟨w.heap.size+1+1,1,none⟩ (.slice none 0 0)).setCell ⟨w.heap.size+1+1,2,none⟩ (.bool false)).setCell ⟨w.heap.size+1+1,3,none⟩ (.slice none 0 0))=Pf at hE⊢;refine hK.out _ _ (hE.h7.j4 hE.h6.c4) (fun hHeld=> ?_);clear hK K;try simp only[PL]
 refine tk 21 ?_;refine aX (by kernel_rfl) ?_ _;obtain⟨y0,y1,y2,y3⟩:=(hE.h5).c4;go_wp2_with fail
 refine aK (v:= .tuple #[.agg aW,.int .i64 3]) (by simp[results,Tryz.results77,go_sem,y0,y1,y2,y3]) rfl ?_;exact⟨rfl,hE.ax⟩
def aic (g:Nat)(k:Int)(w:World)(e:Ending)(w':World):Prop:=e= .returned (.agg aW)/\∃u,u=w.setCell ⟨g,0,none⟩ (.int .i64 k)/\Below u.heap.size u w'
def ZO (w:World)(e:Ending)(w':World):Prop:=e= .returned (.agg aW)/\Below w.heap.size w w'
theorem DT {w W:World}{p:Addr}{v:Value}(h:Below w.heap.size w W):Below (w.setCell p v).heap.size (w.setCell p v) (W.setCell p v):=by
 refine⟨h.os,h.tape,h.output,by simp only[World.size_setCell];exact h.size,fun k hk=> ?_⟩;rw[ke] at hk;have h1:=h.block k hk;simp only[World.setCell,Array.getElem?_modify,h1]
theorem size_set (w:World)(p:Addr)(v:Value):(w.setCell p v).heap.size=w.heap.size:=ke ..
theorem Qj {T:TypeId}{g:Nat}{a b:Rat}{sa ta sb tb:Bool}{Aa Ba Ab Bb:Option Addr}{na ca ma da nb cb mb db:Nat}{w:World}(hs:au T g #[.int .i64 0] w)(ha:FV w a sa Aa na ta Ba ma)(hb:FV w b sb Ab nb tb Bb mb)(la:fl a<=256)(lb:fl b<=256)(lr:256<fl (a+b)):
  Calls Tryz.prog 131 #[.pointer (some ⟨g,0,none⟩),.func (.func 77) #[] #[],.agg (az sa Aa na ca ta Ba ma da),.agg (az sb Ab nb cb tb Bb mb db)] w (aic g 3 w):=by
 have oe:=af hs;clear hs;have hE:=((((Env.start w).fv ha).fv hb).blk 29 (az sa Aa na ca ta Ba ma da) (g:=w.heap.size) rfl).blk 29 (az sb Ab nb cb tb Bb mb db) (g:=w.heap.size+1) (by simp);have hE:=hE.blk 29 aW (g:=w.heap.size+1+1) (by simp)
 obtain⟨W0,aC⟩:∃W0,W0=(((w.alloc (.cells (az sa Aa na ca ta Ba ma da) 29)).alloc (.cells (az sb Ab nb cb tb Bb mb db) 29)).alloc (.cells aW 29)):=⟨_,rfl⟩
 rw[<-aC] at hE;have aZ:=af aC;clear aC
 go_enter Tryz.func131,Tryz.ntmps131
 go_upto_region 1 with(fail)
 rw[<-aZ.out];have s0:World.cell? _ ⟨g,0,none⟩=some (.int .i64 0):=(oe.out.below hE.ax oe.out.lt).cell 0;obtain⟨k1,k2,k3,k4⟩:=(hE.h2).c4;obtain⟨k5,k6,k7,k8⟩:=(hE.g1).c4;go_wp2_with fail
 refine hE.br (Ll (ca:=ca) (da:=da) (cb:=cb) (db:=db) hE.h4 hE.h3 la lb lr) ?_;clear hE k1 k2 k3 k4 k5 k6 k7 k8;intro w9 hE;clear s0
 go_upto_region 4 with(fail)
 obtain⟨g10,bL⟩:∃g10,g10=w9.heap.size:=⟨_,rfl⟩
 have jh:w.heap.size<g10:=by rw[bL];exact(hE.h2).lt
 have iF:w.heap.size+1<g10:=by rw[bL];exact(hE.g1).lt
 have jF:w.heap.size+1+1<g10:=by rw[bL];exact(hE.g0).lt
 replace hE:=hE.blk 29 aW (g:=g10) bL.symm;generalize w9.alloc (.cells aW 29)=xQ at hE⊢;rw[<-bL];clear bL;have s0:World.cell? _ ⟨g,0,none⟩=some (.int .i64 0):=(oe.out.below hE.ax oe.out.lt).cell 0;have s1:=(oe.out.below hE.ax oe.out.lt).frozen 0
 go_upto_region 5 with(fail)
 clear s0 s1;have hsz:=size_set w ⟨g,0,none⟩ (.int .i64 3);have MG:=oe.out.lt
 have Qk:w.heap.size+1+1≠g:=by omega
 have aid:g10≠g:=by omega
 have dD:=(((Env.again (DT (p:=⟨g,0,none⟩) (v:= .int .i64 3) hE.ax)).ag ((hE.g1).far (p:=⟨g,0,none⟩) Qk (.int .i64 3))).ag ((hE.g0).far (p:=⟨g,0,none⟩) aid (.int .i64 3)));clear hE Qk aid;have hE:=dD;clear dD
 obtain⟨u,hu⟩:∃u,u=w.setCell ⟨g,0,none⟩ (.int .i64 3):=⟨_,rfl⟩
 rw[<-hu] at hE hsz;have HU:=af hu;clear hu;generalize xQ.setCell ⟨g,0,none⟩ (.int .i64 3)=WX at hE⊢
 have cS:u.heap.size<=w.heap.size+1+1:=by omega
 have hB:=(hE.g1).s4 (.bool false) (.slice none 0 0) (.bool false) (.slice none 0 0);have aM:=bW hE.ax cS (.bool false) (.slice none 0 0) (.bool false) (.slice none 0 0)
 obtain⟨WW,bn⟩:∃x,x=((((WX.setCell ⟨w.heap.size+1+1,0,none⟩ (.bool false)).setCell ⟨w.heap.size+1+1,1,none⟩ (.slice none 0 0)).setCell ⟨w.heap.size+1+1,2,none⟩ (.bool false)).setCell ⟨w.heap.size+1+1,3,none⟩ (.slice none 0 0)):=⟨_,rfl⟩
 rw[<-bn] at hB aM;obtain⟨x0,x1,x2,x3⟩:=(hE.g1).c4;obtain⟨fL,fM,fV,fW⟩:=(hE.g1).f4;obtain⟨dX,dY,eu,eF⟩:=(hE.g0).c4;have bR:=af bn;clear bn;go_wp2_with fail
 clear x0 x1 x2 x3;clear dX dY eu eF;rw[<-bR.out];obtain⟨y0,y1,y2,y3⟩:=hB.c4;refine aK (v:= .agg aW) (by simp[results,Tryz.results131,go_sem,y0,y1,y2,y3]) rfl ?_;exact⟨rfl,u,HU.out,aM⟩
theorem lA {T:TypeId}{g:Nat}{a b:Rat}{sa ta sb tb:Bool}{Aa Ba Ab Bb:Option Addr}{na ca ma da nb cb mb db:Nat}{w:World}(hs:au T g #[.int .i64 0] w)(ha:FV w a sa Aa na ta Ba ma)(hb:FV w b sb Ab nb tb Bb mb)(la:fl a<=256)(lb:fl b<=256)(lr:256<fl (a+b)):
  Calls Tryz.prog 91 #[.pointer (some ⟨g,0,none⟩),.agg (az sa Aa na ca ta Ba ma da),.agg (az sb Ab nb cb tb Bb mb db)] w (aic g 3 w):=by
 have oe:=af hs;clear hs;have hE:=((((Env.start w).fv ha).fv hb).blk 29 (az sa Aa na ca ta Ba ma da) (g:=w.heap.size) rfl).blk 29 (az sb Ab nb cb tb Bb mb db) (g:=w.heap.size+1) (by simp);have hE:=hE.blk 29 aW (g:=w.heap.size+1+1) (by simp)
 obtain⟨W0,aC⟩:∃W0,W0=(((w.alloc (.cells (az sa Aa na ca ta Ba ma da) 29)).alloc (.cells (az sb Ab nb cb tb Bb mb db) 29)).alloc (.cells aW 29)):=⟨_,rfl⟩
 rw[<-aC] at hE;have aZ:=af aC;clear aC
 go_enter Tryz.func91,Tryz.ntmps91
 go_upto_region 1 with(fail)
 rw[<-aZ.out];obtain⟨k1,k2,k3,k4⟩:=(hE.h2).c4;obtain⟨k5,k6,k7,k8⟩:=(hE.g1).c4;go_wp2_with fail
 refine(Qj (ca:=ca) (da:=da) (cb:=cb) (db:=db) (oe.out.below hE.ax oe.out.lt) hE.h4 hE.h3 la lb lr).mono ?_;clear k1 k2 k3 k4 k5 k6 k7 k8
 rintro e w9 ⟨rfl,u2,JE,hb⟩
 subst JE;have hsz:=size_set w ⟨g,0,none⟩ (.int .i64 3);have MG:=oe.out.lt
 have Qk:w.heap.size+1+1≠g:=by omega
 have dD:=((Env.again (DT (p:=⟨g,0,none⟩) (v:= .int .i64 3) hE.ax)).ag ((hE.g0).far (p:=⟨g,0,none⟩) Qk (.int .i64 3)));clear hE Qk;have hE:=dD;clear dD
 obtain⟨u,hu⟩:∃u,u=w.setCell ⟨g,0,none⟩ (.int .i64 3):=⟨_,rfl⟩
 rw[<-hu] at hE hsz;have HU:=af hu;clear hu;replace hE:=hE.step hb;clear hb
 have cS:u.heap.size<=w.heap.size+1+1:=by omega
 have hB:=(hE.g0).s4 (.bool false) (.slice none 0 0) (.bool false) (.slice none 0 0);have aM:=bW hE.ax cS (.bool false) (.slice none 0 0) (.bool false) (.slice none 0 0)
 obtain⟨WW,bn⟩:∃x,x=((((w9.setCell ⟨w.heap.size+1+1,0,none⟩ (.bool false)).setCell ⟨w.heap.size+1+1,1,none⟩ (.slice none 0 0)).setCell ⟨w.heap.size+1+1,2,none⟩ (.bool false)).setCell ⟨w.heap.size+1+1,3,none⟩ (.slice none 0 0)):=⟨_,rfl⟩
 rw[<-bn] at hB aM;obtain⟨x0,x1,x2,x3⟩:=(hE.g0).c4;obtain⟨fL,fM,fV,fW⟩:=(hE.g0).f4;have bR:=af bn;clear bn;go_wp2_with fail
 clear x0 x1 x2 x3;rw[<-bR.out];obtain⟨y0,y1,y2,y3⟩:=hB.c4;refine aK (v:= .agg aW) (by simp[results,Tryz.results91,go_sem,y0,y1,y2,y3]) rfl ?_;exact⟨rfl,u,HU.out,aM⟩
theorem Qm {T:TypeId}{g:Nat}{sa ta sb tb:Bool}{Aa Ba Ab Bb:Option Addr}{na ca ma da nb cb mb db:Nat}{w:World}(hs:au T g #[.int .i64 3] w):
  Calls Tryz.prog 131 #[.pointer (some ⟨g,0,none⟩),.func (.func 77) #[] #[],.agg (az sa Aa na ca ta Ba ma da),.agg (az sb Ab nb cb tb Bb mb db)] w (ZO w):=by
 have oe:=af hs;clear hs;have hE:=((Env.start w).blk 29 (az sa Aa na ca ta Ba ma da) (g:=w.heap.size) rfl).blk 29 (az sb Ab nb cb tb Bb mb db) (g:=w.heap.size+1) (by simp);have hE:=hE.blk 29 aW (g:=w.heap.size+1+1) (by simp)
 obtain⟨W0,aC⟩:∃W0,W0=(((w.alloc (.cells (az sa Aa na ca ta Ba ma da) 29)).alloc (.cells (az sb Ab nb cb tb Bb mb db) 29)).alloc (.cells aW 29)):=⟨_,rfl⟩
 rw[<-aC] at hE;have aZ:=af aC;clear aC
 go_enter Tryz.func131,Tryz.ntmps131
 go_upto_region 1 with(fail)
 rw[<-aZ.out];have s0:World.cell? _ ⟨g,0,none⟩=some (.int .i64 3):=(oe.out.below hE.ax oe.out.lt).cell 0
 go_upto_region 2 with(fail)
 clear s0
 have cS:w.heap.size<=w.heap.size+1+1:=by omega
 have hB:=(hE.g0).s4 (.bool false) (.slice none 0 0) (.bool false) (.slice none 0 0);have aM:=bW hE.ax cS (.bool false) (.slice none 0 0) (.bool false) (.slice none 0 0)
 obtain⟨WW,bn⟩:∃x,x=((((W0.setCell ⟨w.heap.size+1+1,0,none⟩ (.bool false)).setCell ⟨w.heap.size+1+1,1,none⟩ (.slice none 0 0)).setCell ⟨w.heap.size+1+1,2,none⟩ (.bool false)).setCell ⟨w.heap.size+1+1,3,none⟩ (.slice none 0 0)):=⟨_,rfl⟩
 rw[<-bn] at hB aM;obtain⟨x0,x1,x2,x3⟩:=(hE.g0).c4;obtain⟨fL,fM,fV,fW⟩:=(hE.g0).f4;have bR:=af bn;clear bn;go_wp2_with fail
 clear x0 x1 x2 x3;rw[<-bR.out];obtain⟨y0,y1,y2,y3⟩:=hB.c4;refine aK (v:= .agg aW) (by simp[results,Tryz.results131,go_sem,y0,y1,y2,y3]) rfl ?_;exact⟨rfl,aM⟩
theorem sC {T:TypeId}{g:Nat}{sa ta sb tb:Bool}{Aa Ba Ab Bb:Option Addr}{na ca ma da nb cb mb db:Nat}{w:World}(hs:au T g #[.int .i64 3] w):
  Calls Tryz.prog 91 #[.pointer (some ⟨g,0,none⟩),.agg (az sa Aa na ca ta Ba ma da),.agg (az sb Ab nb cb tb Bb mb db)] w (ZO w):=by
 have oe:=af hs;clear hs;have hE:=((Env.start w).blk 29 (az sa Aa na ca ta Ba ma da) (g:=w.heap.size) rfl).blk 29 (az sb Ab nb cb tb Bb mb db) (g:=w.heap.size+1) (by simp);have hE:=hE.blk 29 aW (g:=w.heap.size+1+1) (by simp)
 obtain⟨W0,aC⟩:∃W0,W0=(((w.alloc (.cells (az sa Aa na ca ta Ba ma da) 29)).alloc (.cells (az sb Ab nb cb tb Bb mb db) 29)).alloc (.cells aW 29)):=⟨_,rfl⟩
 rw[<-aC] at hE;have aZ:=af aC;clear aC
 go_enter Tryz.func91,Tryz.ntmps91
 go_upto_region 1 with(fail)
 rw[<-aZ.out];obtain⟨k1,k2,k3,k4⟩:=(hE.h2).c4;obtain⟨k5,k6,k7,k8⟩:=(hE.g1).c4;go_wp2_with fail
 refine hE.br (Qm (sa:=sa) (ta:=ta) (sb:=sb) (tb:=tb) (Aa:=Aa) (Ba:=Ba) (Ab:=Ab) (Bb:=Bb) (na:=na) (ca:=ca) (ma:=ma) (da:=da) (nb:=nb) (cb:=cb) (mb:=mb) (db:=db) (oe.out.below hE.ax oe.out.lt)) ?_;clear hE k1 k2 k3 k4 k5 k6 k7 k8;intro w9 hE
 have cS:w.heap.size<=w.heap.size+1+1:=by omega
 have hB:=(hE.g0).s4 (.bool false) (.slice none 0 0) (.bool false) (.slice none 0 0);have aM:=bW hE.ax cS (.bool false) (.slice none 0 0) (.bool false) (.slice none 0 0)
 obtain⟨WW,bn⟩:∃x,x=((((w9.setCell ⟨w.heap.size+1+1,0,none⟩ (.bool false)).setCell ⟨w.heap.size+1+1,1,none⟩ (.slice none 0 0)).setCell ⟨w.heap.size+1+1,2,none⟩ (.bool false)).setCell ⟨w.heap.size+1+1,3,none⟩ (.slice none 0 0)):=⟨_,rfl⟩
 rw[<-bn] at hB aM;obtain⟨x0,x1,x2,x3⟩:=(hE.g0).c4;obtain⟨fL,fM,fV,fW⟩:=(hE.g0).f4;have bR:=af bn;clear bn;go_wp2_with fail
 clear x0 x1 x2 x3;rw[<-bR.out];obtain⟨y0,y1,y2,y3⟩:=hB.c4;refine aK (v:= .agg aW) (by simp[results,Tryz.results91,go_sem,y0,y1,y2,y3]) rfl ?_;exact⟨rfl,aM⟩
end Go.Proofs.YtclbiihcbfnjmaaGreat
