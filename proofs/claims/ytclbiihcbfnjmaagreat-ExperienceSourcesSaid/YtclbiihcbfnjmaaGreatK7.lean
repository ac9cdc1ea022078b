/-
  Parts.
-/
import Derived.Test.YtclbiihcbfnjmaaGreatK6
import Derived.Deep.DrawnRows
set_option maxRecDepth 100000
set_option maxHeartbeats 4000000
set_option linter.unusedSimpArgs false
namespace Go.Proofs.YtclbiihcbfnjmaaGreat
open Go.RowKit

theorem Ic.below {w:World}{s t:Bool}{A B:Option Addr}{n m c d:Nat}{w' w'':World}(h:Ic w s t A B n m c d w')(h2:Below w'.heap.size w' w''):Ic w s t A B n m c d w'':=
 ⟨h.p0.below h2 h.p0.lt,h.p1.below h2 h.p1.lt,h.r.below h2 h.r.lt,h.q.below h2 h.q.lt,h.ax.trans (h2.mono h.ax.size)⟩
theorem dW.lt {base:Nat}{w:World}{A:Option Addr}{n c:Nat}{f:Nat->Nat}(h:dW base w A n c f):∀p,A=some p->p.block<w.heap.size:=by
 intro p hp
 rcases h.2 with⟨hv,-⟩|⟨g,cap,cur,hv,_,hh,_⟩
 ·
  injection hv with e1
  rw[hp] at e1;cases e1
 ·
  injection hv with e1
  rw[hp] at e1
  injection e1 with e1
  subst e1;exact kJ hh
def DM (w:World)(q r:Int)(e:Ending)(w':World):Prop:=
 ∃A c B d m,e= .returned (.tuple #[.agg #[.bool (decide (q<0)),.slice A (ln ai q.natAbs) c],.agg #[.bool (decide (r<0)),.slice B (ln ai r.natAbs) d],.int .i64 0])/\
  dW w.heap.size w' A (ln ai q.natAbs) c (aB ai q.natAbs)/\(∀p,A=some p->p.block<m)/\w.heap.size<=m/\dW m w' B (ln ai r.natAbs) d (aB ai r.natAbs)/\Below w.heap.size w w'
theorem WW.vals {w w':World}{z:Bool}{x:Nat}{e:Ending}(h:WW w z x e w'):∃s A c,e= .returned (.agg #[.bool s,.slice A (ln ai x) c])/\Hid (s=z)/\dW w.heap.size w' A (ln ai x) c (aB ai x)/\Below w.heap.size w w':=by
 obtain⟨A,c,he,ho,hb⟩:=h;exact⟨z,A,c,he,af rfl,ho,hb⟩
theorem Mr (w:World):aO (w.alloc (.cells #[.int .u32 1] 171)) (some ⟨w.heap.size,0,none⟩) 1:=fun _=>
 ⟨w.heap.size,0,rfl,by simp,fun i hi=>by
  have e1:ln ah 1=1:=vU aE (by decide) (by decide)
  obtain rfl:i=0:=by omega
  exact gZ _ _ 0 _ _ (0,0) (eU _ _)⟩
theorem fF.storeAt {w:World}{s t:Bool}{A B:Option Addr}{n m c d:Nat}{w':World}(h:fF w s t A B n m c d w'){R:Nat}(hR:w.heap.size+1<R)(s':Bool)(v':Value):
  fF w s t A B n m c d ((w'.setCell ⟨R,0,none⟩ (.bool s')).setCell ⟨R,1,none⟩ v'):=
 have e0:w.heap.size≠R:=by omega
 have e1:w.heap.size+1≠R:=by omega
 have e2:w.heap.size<=R:=by omega
 ⟨h.p0.other e0 s' v',h.p1.other e1 s' v',(h.ax.setCell (p:=⟨R,0,none⟩) e2 _).setCell (p:=⟨R,1,none⟩) e2 _⟩
theorem Fp (s t:Bool)(x y:Nat)(zq zr:Int)(A B:Option Addr)(c d:Nat)(w:World)(hA:aJ w A x)(hB:aJ w B y)(la:ln ai x<=1024)(lb:ln ai y<=1024)(hy:0<y)
  (hok:(okW s (ln ai x) (aB ai x)&&okW t (ln ai y) (aB ai y))=true)
  (aay:Hid (¬(s≠t/\0<x%y)->jt (s !=t) (x/y)=zq/\jt t (x%y)=zr)) (HUP:Hid (s≠t->0<x%y->jt (s !=t) (x/y+1)=zq/\jt t (y-x%y)=zr)):
  Calls Tryz.prog 170 #[.agg #[.bool s,.slice A (ln ai x) c],.agg #[.bool t,.slice B (ln ai y) d]] w (DM w zq zr):=by
 have nP:=Mp s t A B (ln ai x) (ln ai y) c d _ _ w hA hB (fun i=>bu _ i) (fun i=>bu _ i) (by omega) (by omega);rw[hok] at nP;clear hok;have la2:=eL la;have WL:=eL lb;have hyl:0<ln ai y:=(dM aA).2 hy;have tb0:(((ln ai y:Nat):Int)==0)=false:=gh.2 (by omega);have hqx:x/y<=x:=Nat.div_le_self ..;have hmod:=bK x hy;have lq:ln ah (x/y)<=512:=ay (cN aE hqx) la2;have lr:ln ah (x%y)<=512:=ay (cN aE (bG hmod)) WL
 have hcases:(s=t\/(s≠t/\x%y=0))\/(s≠t/\0<x%y):=by
  by_cases hst:s=t
  ·exact .inl (.inl hst)
  ·
   rcases dF (x%y) with h0|h0
   ·exact .inl (.inr ⟨hst,h0⟩)
   ·exact .inr ⟨hst,h0⟩
 go_enter Tryz.func170,Tryz.ntmps170
 go_wp2_with fail
 refine nP.mono ?_
 rintro e w1 ⟨rfl,ht⟩
 obtain⟨p2,p3⟩:=ht.p1.cells;go_wp2_with fail
 refine(gI B d y w1 (aJ.below hB ht.ax) (by omega)).mono ?_
 rintro e w2 ⟨A2,c2,rfl,oW,hn2,eS⟩
 have jM:=ht.below eS;clear ht p2 p3;obtain⟨p0,p1⟩:=jM.p0.cells;obtain⟨p2,p3⟩:=jM.p1.cells;go_wp2_with fail
 refine(gI A c x w2 (aJ.below hA jM.ax) (by omega)).mono ?_
 rintro e w3 ⟨A3,c3,rfl,hc3,hn3,iz⟩
 have ht3:=jM.below iz;have aew:=aO.below hn2 iz;clear jM p0 p1 p2 p3;go_wp2_with fail
 refine(qF A3 A2 c3 c2 x y w3 hn3 aew hy (by omega)).mono ?_
 rintro e w4 ⟨A4,c4,A5,c5,rfl,hc4,hc5,hn4,ug,jf⟩
 have zf:=ht3.below jf;have aaz:=aO.below aew jf;clear ht3 aew hn2;obtain⟨p0,p1⟩:=zf.p0.cells;obtain⟨p2,p3⟩:=zf.p1.cells
 rcases hcases with(hst|⟨hst,Jc⟩)|⟨hst,hrp⟩
 ·
  subst hst
  have hz:(s !=s)=false:=by simp
  obtain⟨hq,hr⟩:=aay.out (by simp);rw[hz] at hq;have HQ:=af hq;have HR:=af hr;clear hq hr hz;go_wp2_with fail
  have wP:Ic w s s A B (ln ai x) (ln ai y) c d w4.drew:=⟨zf.p0,zf.p1,zf.r,zf.q,zf.ax.drew⟩
  have D1:=af fun(w':World) (hw':Below w4.heap.size w4 w')=>fQ false _ _ _ w' (aO.below hn4 hw') hc4 (by omega)
  have D2:=af fun(w':World) (hw':Below w4.heap.size w4 w')=>fQ s _ _ _ w' (aO.below ug hw') hc5 (by omega)
  have hrefl:=(aU w4.heap.size w4).drew;have tE:=zf.r.lt;have rQ:=zf.q.lt;clear p0 p1 p2 p3 zf
  go_region_held3 (fun w'=>w'.cell? ⟨w.heap.size,0,none⟩=some (.bool s)/\w'.cell? ⟨w.heap.size+1,0,none⟩=some (.bool s)/\fF w s s A B (ln ai x) (ln ai y) c d w')
   (first|with_reducible exact⟨Ko.p0.cells.1,Ko.p1.cells.1,Ko⟩|with_reducible exact⟨Fq.p0.cells.1,Fq.p1.cells.1,Fq⟩|with_reducible exact⟨Fs.p0.cells.1,Fs.p1.cells.1,Fs⟩|with_reducible exact⟨Kq.p0.cells.1,Kq.p1.cells.1,Kq⟩|with_reducible exact⟨wP.p0.cells.1,wP.p1.cells.1,wP.p0,wP.p1,wP.ax⟩)
   (first
    |(go_at_call_of 173 (Value.bool false);refine(D1.out _ hrefl).mono ?_;rintro e w5 Tj;obtain⟨s1,B1,d1,rfl,hS1,Tk,fC⟩:=Tj.vals;have Ft:=wP.below fC;have Kq:fF w s s A B (ln ai x) (ln ai y) c d w5:=⟨Ft.p0,Ft.p1,Ft.ax⟩)
    |(go_at_call_of 173 (Value.bool s);refine(D2.out _ (hrefl.trans (fC.mono hrefl.size))).mono ?_;rintro e w6 Tl;obtain⟨s2,B2,d2,rfl,PY,hO2,pK⟩:=Tl.vals;have jM:=Ft.below pK;have Fs:fF w s s A B (ln ai x) (ln ai y) c d w6:=⟨jM.p0,jM.p1,jM.ax⟩;obtain⟨r0,r1⟩:=jM.r.cells;have g0:=jM.r.frozen 0;have g1:=jM.r.frozen 1;obtain⟨r2,r3⟩:=jM.q.cells;have g2:=jM.q.frozen 0;have g3:=jM.q.frozen 1;have Fq:=Fs.storeAt (R:=w.heap.size+1+1) (by omega) s1 (.slice B1 (ln ai (x/y)) d1);have Ko:=Fq.storeAt (R:=w.heap.size+1+1+1) (by omega) s2 (.slice B2 (ln ai (x%y)) d2)))
  obtain⟨hW,nX⟩:=bT jM.r jM.ax (show w.heap.size<=w.heap.size+1+1 by omega) s1 (.slice B1 (ln ai (x/y)) d1);have hQ:=jM.q.other (R:=w.heap.size+1+1) (by omega) s1 (.slice B1 (ln ai (x/y)) d1);obtain⟨wZ,Tm⟩:=bT hQ nX (show w.heap.size<=w.heap.size+1+1+1 by omega) s2 (.slice B2 (ln ai (x%y)) d2);have xo:=hW.other (R:=w.heap.size+1+1+1) (by omega) s2 (.slice B2 (ln ai (x%y)) d2);have Yn:w4.heap.size<=w5.heap.size:=fC.size;have o1:=dR (dR (Tk.below pK (aq _)) tE s1 (.slice B1 (ln ai (x/y)) d1)) rQ s2 (.slice B2 (ln ai (x%y)) d2);have o2:=dR (dR hO2 (bY tE Yn) s1 (.slice B1 (ln ai (x/y)) d1)) (bY rQ Yn) s2 (.slice B2 (ln ai (x%y)) d2);have o1l:=Tk.lt;clear hW hQ r0 r1 r2 r3 g0 g1 g2 g3 wP Ft jM Kq Fs Fq Ko nX Tk hO2 D1 D2
  go_wp2
  generalize ((((w6.setCell ⟨w.heap.size+1+1,0,none⟩ (.bool s1)).setCell ⟨w.heap.size+1+1,1,none⟩ (.slice B1 (ln ai (x/y)) d1)).setCell ⟨w.heap.size+1+1+1,0,none⟩ (.bool s2)).setCell ⟨w.heap.size+1+1+1,1,none⟩ (.slice B2 (ln ai (x%y)) d2))=W7 at*
  obtain⟨k0,k1⟩:=xo.cells;obtain⟨k2,k3⟩:=wZ.cells;refine aK (v:= .tuple #[.agg #[.bool s1,.slice B1 (ln ai (x/y)) d1],.agg #[.bool s2,.slice B2 (ln ai (x%y)) d2],.int .i64 0]) (by simp[results,Tryz.results170,go_sem,k0,k1,k2,k3]) rfl ?_;rw[<-HQ.out,<-HR.out];exact⟨B1,d1,B2,d2,w5.heap.size,by rw[ju,cE,ju,cE,hS1.out,PY.out],by rw[cE];exact o1.lower (show w.heap.size<=w4.heap.size by omega),o1l,by omega,by rw[cE];exact o2,Tm⟩
 ·
  have hz:(s !=t)=true:=jK.2 hst;have t1:(s==t)=false:=gh.2 hst
  have hl0:((ln ah (x%y):Nat):Int)<=0:=by rw[Jc,cY];decide
  have t2:decide ((0:Int)<((ln ah (x%y):Nat):Int))=false:=aH (by omega);obtain⟨hq,hr⟩:=aay.out (fun h=>by omega);rw[hz] at hq;have HQ:=af hq;have HR:=af hr;clear hq hr Jc hz;go_wp2_with fail
  have wP:Ic w s t A B (ln ai x) (ln ai y) c d w4.drew:=⟨zf.p0,zf.p1,zf.r,zf.q,zf.ax.drew⟩
  have D1:=af fun(w':World) (hw':Below w4.heap.size w4 w')=>fQ true _ _ _ w' (aO.below hn4 hw') hc4 (by omega)
  have D2:=af fun(w':World) (hw':Below w4.heap.size w4 w')=>fQ t _ _ _ w' (aO.below ug hw') hc5 (by omega)
  have hrefl:=(aU w4.heap.size w4).drew;have tE:=zf.r.lt;have rQ:=zf.q.lt;clear p0 p1 p2 p3 zf
  go_region_held3 (fun w'=>w'.cell? ⟨w.heap.size,0,none⟩=some (.bool s)/\w'.cell? ⟨w.heap.size+1,0,none⟩=some (.bool t)/\fF w s t A B (ln ai x) (ln ai y) c d w')
   (first|with_reducible exact⟨Ko.p0.cells.1,Ko.p1.cells.1,Ko⟩|with_reducible exact⟨Fq.p0.cells.1,Fq.p1.cells.1,Fq⟩|with_reducible exact⟨Fs.p0.cells.1,Fs.p1.cells.1,Fs⟩|with_reducible exact⟨Kq.p0.cells.1,Kq.p1.cells.1,Kq⟩|with_reducible exact⟨wP.p0.cells.1,wP.p1.cells.1,wP.p0,wP.p1,wP.ax⟩)
   (first
    |(go_at_call_of 173 (Value.bool true);refine(D1.out _ hrefl).mono ?_;rintro e w5 Tj;obtain⟨s1,B1,d1,rfl,hS1,Tk,fC⟩:=Tj.vals;have Ft:=wP.below fC;have Kq:fF w s t A B (ln ai x) (ln ai y) c d w5:=⟨Ft.p0,Ft.p1,Ft.ax⟩)
    |(go_at_call_of 173 (Value.bool t);refine(D2.out _ (hrefl.trans (fC.mono hrefl.size))).mono ?_;rintro e w6 Tl;obtain⟨s2,B2,d2,rfl,PY,hO2,pK⟩:=Tl.vals;have jM:=Ft.below pK;have Fs:fF w s t A B (ln ai x) (ln ai y) c d w6:=⟨jM.p0,jM.p1,jM.ax⟩;obtain⟨r0,r1⟩:=jM.r.cells;have g0:=jM.r.frozen 0;have g1:=jM.r.frozen 1;obtain⟨r2,r3⟩:=jM.q.cells;have g2:=jM.q.frozen 0;have g3:=jM.q.frozen 1;have Fq:=Fs.storeAt (R:=w.heap.size+1+1) (by omega) s1 (.slice B1 (ln ai (x/y)) d1);have Ko:=Fq.storeAt (R:=w.heap.size+1+1+1) (by omega) s2 (.slice B2 (ln ai (x%y)) d2)))
  obtain⟨hW,nX⟩:=bT jM.r jM.ax (show w.heap.size<=w.heap.size+1+1 by omega) s1 (.slice B1 (ln ai (x/y)) d1);have hQ:=jM.q.other (R:=w.heap.size+1+1) (by omega) s1 (.slice B1 (ln ai (x/y)) d1);obtain⟨wZ,Tm⟩:=bT hQ nX (show w.heap.size<=w.heap.size+1+1+1 by omega) s2 (.slice B2 (ln ai (x%y)) d2);have xo:=hW.other (R:=w.heap.size+1+1+1) (by omega) s2 (.slice B2 (ln ai (x%y)) d2);have Yn:w4.heap.size<=w5.heap.size:=fC.size;have o1:=dR (dR (Tk.below pK (aq _)) tE s1 (.slice B1 (ln ai (x/y)) d1)) rQ s2 (.slice B2 (ln ai (x%y)) d2);have o2:=dR (dR hO2 (bY tE Yn) s1 (.slice B1 (ln ai (x/y)) d1)) (bY rQ Yn) s2 (.slice B2 (ln ai (x%y)) d2);have o1l:=Tk.lt;clear hW hQ r0 r1 r2 r3 g0 g1 g2 g3 wP Ft jM Kq Fs Fq Ko nX Tk hO2 D1 D2
  go_wp2
  generalize ((((w6.setCell ⟨w.heap.size+1+1,0,none⟩ (.bool s1)).setCell ⟨w.heap.size+1+1,1,none⟩ (.slice B1 (ln ai (x/y)) d1)).setCell ⟨w.heap.size+1+1+1,0,none⟩ (.bool s2)).setCell ⟨w.heap.size+1+1+1,1,none⟩ (.slice B2 (ln ai (x%y)) d2))=W7 at*
  obtain⟨k0,k1⟩:=xo.cells;obtain⟨k2,k3⟩:=wZ.cells;refine aK (v:= .tuple #[.agg #[.bool s1,.slice B1 (ln ai (x/y)) d1],.agg #[.bool s2,.slice B2 (ln ai (x%y)) d2],.int .i64 0]) (by simp[results,Tryz.results170,go_sem,k0,k1,k2,k3]) rfl ?_;rw[<-HQ.out,<-HR.out];exact⟨B1,d1,B2,d2,w5.heap.size,by rw[ju,cE,ju,cE,hS1.out,PY.out],by rw[cE];exact o1.lower (show w.heap.size<=w4.heap.size by omega),o1l,by omega,by rw[cE];exact o2,Tm⟩
 ·
  have hz:(s !=t)=true:=jK.2 hst;have t1:(s==t)=false:=gh.2 hst;have hl0:0<ln ah (x%y):=(dM aE).2 hrp;have t2:decide ((0:Int)<((ln ah (x%y):Nat):Int))=true:=aL (by omega);obtain⟨hq,hr⟩:=HUP.out hst hrp;rw[hz] at hq;have HQ:=af hq;have HR:=af hr;clear hq hr hz;go_wp2_with fail
  have b1:Below w4.heap.size w4 (w4.alloc (.cells #[.int .u32 1] 171)):=(aU _ w4).alloc (aq _) _;have hone:aO (w4.alloc (.cells #[.int .u32 1] 171)) (some ⟨w4.heap.size,0,none⟩) 1:=Mr w4;have e1:ln ah 1=1:=vU aE (by decide) (by decide);have Tn:=EZ A4 (some ⟨w4.heap.size,0,none⟩) c4 1 (x/y) 1 _ (aO.below hn4 b1) hone (by omega) (by omega);rw[e1] at Tn;refine Tn.mono ?_;clear Tn e1 hone
  rintro e w8 ⟨A8,c8,rfl,hc8,ZP,hb8⟩
  have ht8:=(zf.below b1).below hb8;have ajR:=aO.below (aO.below ug b1) hb8;have ajS:=aO.below (aO.below aaz b1) hb8;have lq1:ln ah (x/y+1)<=512+1:=sV aE lq (by rw[vU aE (by decide) (by decide)];decide);have lr1:ln ah (y-x%y)<=512:=ay (cN aE (Nat.sub_le ..)) WL;clear hn4 ug aaz zf p0 p1 p2 p3;obtain⟨p0,p1⟩:=ht8.p0.cells;obtain⟨p2,p3⟩:=ht8.p1.cells;go_wp2_with fail
  refine(sS A2 A5 c2 c5 y (x%y) _ ajS ajR (bG hmod) (by omega)).mono ?_
  rintro e w9 ⟨A9,c9,rfl,hc9,hn9,hb9⟩
  have TV:=ht8.below hb9;have aqm:=aO.below ZP hb9;clear ht8 ajR ajS ZP p0 p1 p2 p3;obtain⟨p0,p1⟩:=TV.p0.cells;obtain⟨p2,p3⟩:=TV.p1.cells;go_wp2_with fail
  have wP:Ic w s t A B (ln ai x) (ln ai y) c d w9.drew:=⟨TV.p0,TV.p1,TV.r,TV.q,TV.ax.drew⟩
  have D1:=af fun(w':World) (hw':Below w9.heap.size w9 w')=>fQ true _ _ _ w' (aO.below aqm hw') hc8 (by omega)
  have D2:=af fun(w':World) (hw':Below w9.heap.size w9 w')=>fQ t _ _ _ w' (aO.below hn9 hw') hc9 (by omega)
  have hrefl:=(aU w9.heap.size w9).drew;have tE:=TV.r.lt;have rQ:=TV.q.lt;clear p0 p1 p2 p3 TV
  go_region_held3 (fun w'=>w'.cell? ⟨w.heap.size,0,none⟩=some (.bool s)/\w'.cell? ⟨w.heap.size+1,0,none⟩=some (.bool t)/\fF w s t A B (ln ai x) (ln ai y) c d w')
   (first|with_reducible exact⟨Ko.p0.cells.1,Ko.p1.cells.1,Ko⟩|with_reducible exact⟨Fq.p0.cells.1,Fq.p1.cells.1,Fq⟩|with_reducible exact⟨Fs.p0.cells.1,Fs.p1.cells.1,Fs⟩|with_reducible exact⟨Kq.p0.cells.1,Kq.p1.cells.1,Kq⟩|with_reducible exact⟨wP.p0.cells.1,wP.p1.cells.1,wP.p0,wP.p1,wP.ax⟩)
   (first
    |(go_at_call_of 173 (Value.bool true);refine(D1.out _ hrefl).mono ?_;rintro e w5 Tj;obtain⟨s1,B1,d1,rfl,hS1,Tk,fC⟩:=Tj.vals;have Ft:=wP.below fC;have Kq:fF w s t A B (ln ai x) (ln ai y) c d w5:=⟨Ft.p0,Ft.p1,Ft.ax⟩)
    |(go_at_call_of 173 (Value.bool t);refine(D2.out _ (hrefl.trans (fC.mono hrefl.size))).mono ?_;rintro e w6 Tl;obtain⟨s2,B2,d2,rfl,PY,hO2,pK⟩:=Tl.vals;have jM:=Ft.below pK;have Fs:fF w s t A B (ln ai x) (ln ai y) c d w6:=⟨jM.p0,jM.p1,jM.ax⟩;obtain⟨r0,r1⟩:=jM.r.cells;have g0:=jM.r.frozen 0;have g1:=jM.r.frozen 1;obtain⟨r2,r3⟩:=jM.q.cells;have g2:=jM.q.frozen 0;have g3:=jM.q.frozen 1;have Fq:=Fs.storeAt (R:=w.heap.size+1+1) (by omega) s1 (.slice B1 (ln ai (x/y+1)) d1);have Ko:=Fq.storeAt (R:=w.heap.size+1+1+1) (by omega) s2 (.slice B2 (ln ai (y-x%y)) d2)))
  obtain⟨hW,nX⟩:=bT jM.r jM.ax (show w.heap.size<=w.heap.size+1+1 by omega) s1 (.slice B1 (ln ai (x/y+1)) d1);have hQ:=jM.q.other (R:=w.heap.size+1+1) (by omega) s1 (.slice B1 (ln ai (x/y+1)) d1);obtain⟨wZ,Tm⟩:=bT hQ nX (show w.heap.size<=w.heap.size+1+1+1 by omega) s2 (.slice B2 (ln ai (y-x%y)) d2);have xo:=hW.other (R:=w.heap.size+1+1+1) (by omega) s2 (.slice B2 (ln ai (y-x%y)) d2);have Yn:w9.heap.size<=w5.heap.size:=fC.size;have o1:=dR (dR (Tk.below pK (aq _)) tE s1 (.slice B1 (ln ai (x/y+1)) d1)) rQ s2 (.slice B2 (ln ai (y-x%y)) d2);have o2:=dR (dR hO2 (bY tE Yn) s1 (.slice B1 (ln ai (x/y+1)) d1)) (bY rQ Yn) s2 (.slice B2 (ln ai (y-x%y)) d2);have o1l:=Tk.lt;clear hW hQ r0 r1 r2 r3 g0 g1 g2 g3 wP Ft jM Kq Fs Fq Ko nX Tk hO2 D1 D2
  go_wp2
  generalize ((((w6.setCell ⟨w.heap.size+1+1,0,none⟩ (.bool s1)).setCell ⟨w.heap.size+1+1,1,none⟩ (.slice B1 (ln ai (x/y+1)) d1)).setCell ⟨w.heap.size+1+1+1,0,none⟩ (.bool s2)).setCell ⟨w.heap.size+1+1+1,1,none⟩ (.slice B2 (ln ai (y-x%y)) d2))=W7 at*
  obtain⟨k0,k1⟩:=xo.cells;obtain⟨k2,k3⟩:=wZ.cells;refine aK (v:= .tuple #[.agg #[.bool s1,.slice B1 (ln ai (x/y+1)) d1],.agg #[.bool s2,.slice B2 (ln ai (y-x%y)) d2],.int .i64 0]) (by simp[results,Tryz.results170,go_sem,k0,k1,k2,k3]) rfl ?_;rw[<-HQ.out,<-HR.out];exact⟨B1,d1,B2,d2,w5.heap.size,by rw[ju,cE,ju,cE,hS1.out,PY.out],by rw[cE];exact o1.lower (show w.heap.size<=w9.heap.size by omega),o1l,by omega,by rw[cE];exact o2,Tm⟩

theorem Ie (a b:Int)(A B:Option Addr)(c d:Nat)(w:World)(hA:aJ w A a.natAbs)(hB:aJ w B b.natAbs)(ha:ln ai a.natAbs<=1024)(hb:ln ai b.natAbs<=1024)(hb0:b≠0):
  Calls Tryz.prog 170 #[.agg #[.bool (decide (a<0)),.slice A (ln ai a.natAbs) c],.agg #[.bool (decide (b<0)),.slice B (ln ai b.natAbs) d]] w (DM w (a.fdiv b) (a.fmod b)):=
 Fp _ _ _ _ _ _ A B c d w hA hB ha hb (by omega) (rM ha hb) (af (Ib a hb0)) (af (Th a hb0))
end Go.Proofs.YtclbiihcbfnjmaaGreat
namespace Go.Proofs.YtclbiihcbfnjmaaGreat
open Go.RowKit

end Go.Proofs.YtclbiihcbfnjmaaGreat
namespace Go.Proofs.YtclbiihcbfnjmaaGreat
open Go.RowKit
abbrev aW :Array Value:=#[.bool false,.slice none 0 0,.bool false,.slice none 0 0]
abbrev qz9 :Array Value:=#[.int .i64 0,.int .i64 0,.int .i64 0,.bool false,.slice none 0 0,.bool false,.slice none 0 0,.slice none 0 0,.slice none 0 0]
abbrev az (s:Bool)(A:Option Addr)(n c:Nat)(t:Bool)(B:Option Addr)(m d:Nat):Array Value:=#[.bool s,.slice A n c,.bool t,.slice B m d]
abbrev uW (F S:Int)(A:Option Addr)(n c:Nat)(si:Bool)(Ai:Option Addr)(ni ci:Nat)(ti:Bool)(Bi:Option Addr)(mi di:Nat):Array Value:=#[.int .i64 F,.int .i64 S,.slice A n c,.bool si,.slice Ai ni ci,.bool ti,.slice Bi mi di]

def WV (w:World)(z:Int)(s:Bool)(A:Option Addr)(n:Nat):Prop:=s=decide (z<0)/\n=ln ai z.natAbs/\aJ w A z.natAbs
def WO (base:Nat)(w:World)(z:Int)(s:Bool)(A:Option Addr)(n c:Nat):Prop:=s=decide (z<0)/\n=ln ai z.natAbs/\dW base w A (ln ai z.natAbs) c (aB ai z.natAbs)
def VI (z:Int)(w:World)(e:Ending)(w':World):Prop:=∃s A n c,e= .returned (.agg #[.bool s,.slice A n c])/\WO w.heap.size w' z s A n c/\Below w.heap.size w w'
def VR (z:Int)(w:World)(e:Ending)(w':World):Prop:=∃s A n c,e= .returned (.tuple #[.agg #[.bool s,.slice A n c],.int .i64 0])/\WO w.heap.size w' z s A n c/\Below w.heap.size w w'
def VR2 (q r:Int)(w:World)(e:Ending)(w':World):Prop:=
 ∃s A n c t B m d,e= .returned (.tuple #[.agg #[.bool s,.slice A n c],.agg #[.bool t,.slice B m d],.int .i64 0])/\WO w.heap.size w' q s A n c/\WO w.heap.size w' r t B m d/\Below w.heap.size w w'
theorem WO.v {base:Nat}{w:World}{z:Int}{s:Bool}{A:Option Addr}{n c:Nat}(h:WO base w z s A n c):WV w z s A n:=⟨h.1,h.2.1,h.2.2.num⟩
theorem WV.len {w:World}{z:Int}{s:Bool}{A:Option Addr}{n:Nat}(h:WV w z s A n):n=ln ai z.natAbs:=h.2.1
theorem WV.AM {w:World}{z:Int}{s:Bool}{A:Option Addr}{n:Nat}(h:WV w z s A n):s=decide (z<0):=h.1
theorem WV.below {w w':World}{z:Int}{s:Bool}{A:Option Addr}{n:Nat}(h:WV w z s A n)(hb:Below w.heap.size w w'):WV w' z s A n:=⟨h.1,h.2.1,aJ.below h.2.2 hb⟩
theorem WI.vi {w w':World}{z:Int}{e:Ending}(h:WI w z e w'):VI z w e w':=by
 obtain⟨A,c,he,ho,hb⟩:=h;exact⟨_,A,_,c,he,⟨rfl,rfl,ho⟩,hb⟩
theorem RI.vr {w w':World}{z:Int}{e:Ending}(h:RI w z e w')(hl:ln ai z.natAbs<=1024):VR z w e w':=by
 rcases h with⟨_,A,c,he,ho,hb⟩|⟨h1,_⟩
 ·exact⟨_,A,_,c,he,⟨rfl,rfl,ho⟩,hb⟩
 ·omega
theorem gL {a b:Int}{m:Nat}(ha:ln ai a.natAbs<=m)(hb:ln ai b.natAbs<=m):ln ai (a+b).natAbs<=m+1:=
 ay (cN aA (Int.natAbs_add_le a b)) (sV aA ha hb)
theorem bE {a b:Int}{m n:Nat}(ha:ln ai a.natAbs<=m)(hb:ln ai b.natAbs<=n):ln ai (a*b).natAbs<=m+n:=by
 rw[Int.natAbs_mul];exact Ti aA ha hb
theorem adQ {z:Int}(h1:-9223372036854775808<=z)(h2:z<=9223372036854775807):ln ai z.natAbs<=4:=(bJ aA).2 (show z.natAbs<18446744073709551616 by omega)

section
variable {a b:Int} {s t:Bool} {A B:Option Addr} {n m c d:Nat} {w:World}
theorem Tp (ha:WV w a s A n)(hb:WV w b t B m)(la:n<=1024)(lb:m<=1024)(hb0:b≠0):
  Calls Tryz.prog 170 #[.agg #[.bool s,.slice A n c],.agg #[.bool t,.slice B m d]] w (VR2 (a.fdiv b) (a.fmod b) w):=by
 obtain⟨rfl,rfl,hA⟩:=ha;obtain⟨rfl,rfl,hB⟩:=hb;refine(Ie a b A B c d w hA hB la lb hb0).mono ?_
 rintro e w' ⟨A',c',B',d',m,he,h1,-,h2,h3,hb⟩
 exact⟨_,A',_,c',_,B',_,d',he,⟨rfl,rfl,h1⟩,⟨rfl,rfl,h3.lower h2⟩,hb⟩
theorem ajT (ha:WV w a s A n)(hb:WV w b t B m)(la:n<=1024)(lb:m<=1024):
  Calls Tryz.prog 169 #[.agg #[.bool s,.slice A n c],.agg #[.bool t,.slice B m d]] w (VR ((Nat.gcd a.natAbs b.natAbs:Nat):Int) w):=by
 obtain⟨rfl,rfl,hA⟩:=ha;obtain⟨rfl,rfl,hB⟩:=hb
 exact(YD a b A B c d w hA hB la lb).mono fun _ _ h=>h.vr (by rw[bV];exact GU _ _ _ la lb)
theorem aiv (ha:WV w a s A n)(hb:WV w b t B m)(la:n<=1024)(lb:m<=1024):
  Calls Tryz.prog 81 #[.agg #[.bool s,.slice A n c],.agg #[.bool t,.slice B m d]] w fun e w'=>e= .returned (.int .i64 (xF a b))/\Below w.heap.size w w':=by
 obtain⟨rfl,rfl,hA⟩:=ha;obtain⟨rfl,rfl,hB⟩:=hb;exact YG a b A B c d w hA hB la lb
theorem lJ (ha:WV w a s A n)(hb:WV w b t B m)(la:n<=1000000)(lb:m<=1000000):
  Calls Tryz.prog 79 #[.agg #[.bool s,.slice A n c],.agg #[.bool t,.slice B m d]] w fun e w'=>e= .returned (.bool (decide (a=b)))/\Below w.heap.size w w':=by
 obtain⟨rfl,rfl,hA⟩:=ha;obtain⟨rfl,rfl,hB⟩:=hb;have h:=Fo (decide (a<0)) (decide (b<0)) A B (ln ai a.natAbs) (ln ai b.natAbs) c d _ _ w hA hB la lb;rw[zc] at h;exact h
theorem GX (ha:WV w a s A n)(hb:WV w b t B m)(la:n<=1000000)(lb:m<=1000000):
  Calls Tryz.prog 172 #[.agg #[.bool s,.slice A n c],.agg #[.bool t,.slice B m d]] w fun e w'=>e= .returned (.bool (decide (a=b)))/\Below w.heap.size w w':=by
 obtain⟨rfl,rfl,hA⟩:=ha;obtain⟨rfl,rfl,hB⟩:=hb;have h:=SU (decide (a<0)) (decide (b<0)) A B (ln ai a.natAbs) (ln ai b.natAbs) c d _ _ w hA hB la lb;rw[zc] at h;exact h
theorem ajU (ha:WV w a s A n)(hb:WV w b t B m)(la:n<=1024)(lb:m<=1024)(lr:ln ai (a+b).natAbs<=1024):
  Calls Tryz.prog 153 #[.agg #[.bool s,.slice A n c],.agg #[.bool t,.slice B m d]] w (VR (a+b) w):=by
 obtain⟨rfl,rfl,hA⟩:=ha;obtain⟨rfl,rfl,hB⟩:=hb
 exact(YC a b A B c d w hA hB la lb).mono fun _ _ h=>h.vr lr
theorem ajV (ha:WV w a s A n)(hb:WV w b t B m)(la:n<=1024)(lb:m<=1024)(lr:ln ai (a*b).natAbs<=1024):
  Calls Tryz.prog 125 #[.agg #[.bool s,.slice A n c],.agg #[.bool t,.slice B m d]] w (VR (a*b) w):=by
 obtain⟨rfl,rfl,hA⟩:=ha;obtain⟨rfl,rfl,hB⟩:=hb
 exact(YF a b A B c d w hA hB la lb).mono fun _ _ h=>h.vr lr
end
end Go.Proofs.YtclbiihcbfnjmaaGreat
/-! The walks of the laws' helpers sum, product, less and equal. -/
namespace Go.Proofs.YtclbiihcbfnjmaaGreat
open Go.RowKit

section
variable {a b:Int} {s t:Bool} {A B:Option Addr} {n m c d:Nat} {w:World}
end
end Go.Proofs.YtclbiihcbfnjmaaGreat
/-! The walk of the laws' awake. -/
namespace Go.Proofs.YtclbiihcbfnjmaaGreat
open Go.RowKit

def ck (P:World->Prop):Prop:=∀W W',Below W.heap.size W W'->P W->P W'
structure Env (w:World)(P:World->Prop)(W:World):Prop where
 ax:Below w.heap.size w W
 st:ck P
 here:P W
theorem Env.start (w:World):Env w (fun _=>True) w:=⟨aU _ _,fun _ _ _ h=>h,trivial⟩
theorem Env.step {w:World}{P:World->Prop}{W W':World}(h:Env w P W)(hb:Below W.heap.size W W'):Env w P W':=⟨h.ax.trans (hb.mono h.ax.size),h.st,h.st _ _ hb h.here⟩
theorem Env.alloc {w:World}{P:World->Prop}{W:World}(h:Env w P W)(o:Obj):Env w P (W.alloc o):=h.step ((aU _ W).alloc (aq _) o)
theorem Env.drew {w:World}{P:World->Prop}{W:World}(h:Env w P W):Env w P W.drew:=h.step (aU _ W).drew
theorem Env.and {w:World}{P Q:World->Prop}{W:World}(h:Env w P W)(hs:ck Q)(hq:Q W):Env w (fun W=>P W/\Q W) W:=
 ⟨h.ax,fun A B hb hp=>⟨h.st A B hb hp.1,hs A B hb hp.2⟩,h.here,hq⟩
def Bx (g:Nat)(z:Int)(s:Bool)(A:Option Addr)(n c:Nat)(W:World):Prop:=aF W g s (.slice A n c)/\WV W z s A n
theorem WV.stable (z:Int)(s:Bool)(A:Option Addr)(n:Nat):ck (fun W=>WV W z s A n):=fun _ _ hb h=>h.below hb
end Go.Proofs.YtclbiihcbfnjmaaGreat
/-! The walk of the laws' usable. -/
namespace Go.Proofs.YtclbiihcbfnjmaaGreat
open Go.RowKit

def wQ (g:Nat)(s1 s2:Bool)(A1 A2:Option Addr)(n1 n2 c1 c2:Nat)(W:World):Prop:=
 aF W g s1 (.slice A1 n1 c1)/\aF W (g+1) s2 (.slice A2 n2 c2)
section
variable {g:Nat} {a b c:Int} {s1 s2 s3:Bool} {A1 A2 A3:Option Addr} {n1 n2 n3 c1 c2 c3:Nat} {w W:World}
theorem wQ.stable :ck (wQ g s1 s2 A1 A2 n1 n2 c1 c2):=fun _ _ hb ⟨h1,h2⟩=>⟨h1.below hb h1.lt,h2.below hb h2.lt⟩
theorem wQ.cells (h:wQ g s1 s2 A1 A2 n1 n2 c1 c2 W):W.cell? ⟨g,0,none⟩=some (.bool s1)/\W.cell? ⟨g,1,none⟩=some (.slice A1 n1 c1)/\W.cell? ⟨g+1,0,none⟩=some (.bool s2)/\W.cell? ⟨g+1,1,none⟩=some (.slice A2 n2 c2):=
 ⟨h.1.cells.1,h.1.cells.2,h.2.cells.1,h.2.cells.2⟩
end
theorem Env.two (w:World)(s1 s2:Bool)(A1 A2:Option Addr)(n1 n2 c1 c2:Nat):
  Env w (wQ w.heap.size s1 s2 A1 A2 n1 n2 c1 c2) ((w.alloc (.cells #[.bool s1,.slice A1 n1 c1] 27)).alloc (.cells #[.bool s2,.slice A2 n2 c2] 27)):=
 have hT:=fF.start w s1 s2 A1 A2 n1 n2 c1 c2
 ⟨hT.ax,wQ.stable,hT.p0,hT.p1⟩
end Go.Proofs.YtclbiihcbfnjmaaGreat
namespace Go.Proofs.YtclbiihcbfnjmaaGreat
open Go.RowKit

def au (t:TypeId)(g:Nat)(cs:Array Value)(w:World):Prop:=w.heap[g]?=some (.cells cs t (0,0))
def aP :Value->Bool
 | .int .u16 _=>false
 |_=>true
section
variable {w w':World} {g B:Nat} {t:TypeId} {cs:Array Value}
theorem au.lt (h:au t g cs w):g<w.heap.size:=kJ h
theorem au.cell (h:au t g cs w)(i:Nat):w.cell? ⟨g,i,none⟩=cs[i]?:=gZ w g i cs t (0,0) h
theorem au.frozen (h:au t g cs w)(i:Nat):w.frozen? ⟨g,i,none⟩=false:=by
 unfold au at h
 simp[World.frozen?,h]
theorem au.new (w:World)(t:TypeId)(cs:Array Value):au t w.heap.size cs (w.alloc (.cells cs t)):=eU w _
theorem au.below (h:au t g cs w)(hb:Below B w w')(hg:g<B):au t g cs w':=(hb.block g hg).trans h
theorem au.stable (t:TypeId)(g:Nat)(cs:Array Value):ck (au t g cs):=fun _ _ hb h=>h.below hb h.lt
theorem au.dZ (h:au t g cs w)(i:Nat)(u:Value):au t g (cs.setIfInBounds i u) (w.setCell ⟨g,i,none⟩ u):=by
 unfold au at h⊢
 simp[World.setCell,Array.getElem?_modify,h]
theorem au.far (h:au t g cs w){p:Addr}(hp:g≠p.block)(u:Value):au t g cs (w.setCell p u):=(dL w p u g hp).trans h
theorem au.c2 {a b:Value}(h:au t g #[a,b] w):w.cell? ⟨g,0,none⟩=some a/\w.cell? ⟨g,1,none⟩=some b:=⟨h.cell 0,h.cell 1⟩
theorem au.c3 {a b c:Value}(h:au t g #[a,b,c] w):w.cell? ⟨g,0,none⟩=some a/\w.cell? ⟨g,1,none⟩=some b/\w.cell? ⟨g,2,none⟩=some c:=⟨h.cell 0,h.cell 1,h.cell 2⟩
theorem au.c4 {a b c d:Value}(h:au t g #[a,b,c,d] w):w.cell? ⟨g,0,none⟩=some a/\w.cell? ⟨g,1,none⟩=some b/\w.cell? ⟨g,2,none⟩=some c/\w.cell? ⟨g,3,none⟩=some d:=⟨h.cell 0,h.cell 1,h.cell 2,h.cell 3⟩
theorem au.j2 {a b:Value}{R:Prop}(h:au t g #[a,b] w)(r:R):w.cell? ⟨g,0,none⟩=some a/\w.cell? ⟨g,1,none⟩=some b/\R:=⟨h.cell 0,h.cell 1,r⟩
theorem au.f2 (h:au t g cs w):w.frozen? ⟨g,0,none⟩=false/\w.frozen? ⟨g,1,none⟩=false:=⟨h.frozen 0,h.frozen 1⟩
theorem au.j3 {a b c:Value}{R:Prop}(h:au t g #[a,b,c] w)(r:R):w.cell? ⟨g,0,none⟩=some a/\w.cell? ⟨g,1,none⟩=some b/\w.cell? ⟨g,2,none⟩=some c/\R:=⟨h.cell 0,h.cell 1,h.cell 2,r⟩
theorem au.j4 {a b c d:Value}{R:Prop}(h:au t g #[a,b,c,d] w)(r:R):w.cell? ⟨g,0,none⟩=some a/\w.cell? ⟨g,1,none⟩=some b/\w.cell? ⟨g,2,none⟩=some c/\w.cell? ⟨g,3,none⟩=some d/\R:=⟨h.cell 0,h.cell 1,h.cell 2,h.cell 3,r⟩
theorem au.f4 (h:au t g cs w):w.frozen? ⟨g,0,none⟩=false/\w.frozen? ⟨g,1,none⟩=false/\w.frozen? ⟨g,2,none⟩=false/\w.frozen? ⟨g,3,none⟩=false:=⟨h.frozen 0,h.frozen 1,h.frozen 2,h.frozen 3⟩
theorem au.s2 {a b:Value}(h:au t g #[a,b] w)(a' b':Value):au t g #[a',b'] ((w.setCell ⟨g,0,none⟩ a').setCell ⟨g,1,none⟩ b'):=by
 have:=(h.dZ 0 a').dZ 1 b'
 simpa using this
theorem au.s4 {a b c d:Value}(h:au t g #[a,b,c,d] w)(a' b' c' d':Value):au t g #[a',b',c',d'] ((((w.setCell ⟨g,0,none⟩ a').setCell ⟨g,1,none⟩ b').setCell ⟨g,2,none⟩ c').setCell ⟨g,3,none⟩ d'):=by
 have:=(((h.dZ 0 a').dZ 1 b').dZ 2 c').dZ 3 d'
 simpa using this
theorem au.fq {R:Nat}(h:au t g cs w)(hp:g≠R)(a b:Value):au t g cs ((w.setCell ⟨R,0,none⟩ a).setCell ⟨R,1,none⟩ b):=(h.far (p:=⟨R,0,none⟩) hp a).far (p:=⟨R,1,none⟩) hp b
theorem au.aj {R:Nat}(h:au t g cs w)(hp:g≠R)(a b c d:Value):au t g cs ((((w.setCell ⟨R,0,none⟩ a).setCell ⟨R,1,none⟩ b).setCell ⟨R,2,none⟩ c).setCell ⟨R,3,none⟩ d):=(h.fq hp a b).far (p:=⟨R,2,none⟩) hp c|>.far (p:=⟨R,3,none⟩) hp d
theorem Rd.sep {n i:Nat}{A:Option Addr}{f:Nat->Nat}(h:Rd B .u16 w A n f)(hW:au t g cs w)(hn:cs.toList.all aP=true)(u:Value):Rd B .u16 (w.setCell ⟨g,i,none⟩ u) A n f:=fun h0=>by
 obtain⟨b,o,e,hb,hc⟩:=h h0;refine⟨b,o,e,hb,fun j hj=> ?_⟩
 have hne:b≠g:=fun e=>by
  subst e;have h1:=hc j hj;rw[hW.cell] at h1;have h2:=jZ.1 hn _ (Array.mem_toList_iff.2 (Array.mem_of_getElem? h1))
  cases h2
 rw[World.cell?_setCell_other w _ _ u (fun e=>hne (gn Addr.block e).symm)];exact hc j hj
theorem WV.sep {i n:Nat}{z:Int}{s:Bool}{A:Option Addr}(h:WV w z s A n)(hW:au t g cs w)(hn:cs.toList.all aP=true)(u:Value):WV (w.setCell ⟨g,i,none⟩ u) z s A n:=by
 refine⟨h.1,h.2.1, ?_⟩;have h3:Rd w.heap.size .u16 w A (ln ai z.natAbs) (aB ai z.natAbs):=h.2.2;have h4:=h3.sep hW hn (i:=i) u;unfold aJ
 rwa [ke]
theorem WV.cH {n:Nat}{z:Int}{s:Bool}{A:Option Addr}{x y:Value}(h:WV w z s A n)(hW:au t g #[x,y] w)(hn: [x,y].all aP=true)(a b:Value)(ha:aP a=true):WV ((w.setCell ⟨g,0,none⟩ a).setCell ⟨g,1,none⟩ b) z s A n:=by
 refine(h.sep hW hn a).sep (hW.dZ 0 a) ?_ b;simp only[List.all_cons,List.all_nil,Bool.and_true,Bool.and_eq_true] at hn;show(aP a&&(aP y&&true))=true;rw[ha,hn.2];rfl
theorem WV.ak {n:Nat}{z:Int}{s:Bool}{A:Option Addr}{x y u v:Value}(h:WV w z s A n)(hW:au t g #[x,y,u,v] w)(hn: [x,y,u,v].all aP=true)(a b c d:Value)(ha:aP a=true)(hb:aP b=true)(hc:aP c=true):
  WV ((((w.setCell ⟨g,0,none⟩ a).setCell ⟨g,1,none⟩ b).setCell ⟨g,2,none⟩ c).setCell ⟨g,3,none⟩ d) z s A n:=by
 simp only[List.all_cons,List.all_nil,Bool.and_true,Bool.and_eq_true] at hn;obtain⟨h1,h2,h3,h4⟩:=hn;refine(((h.sep hW (by simp[h1,h2,h3,h4]) a).sep (hW.dZ 0 a) ?_ b).sep ((hW.dZ 0 a).dZ 1 b) ?_ c).sep (((hW.dZ 0 a).dZ 1 b).dZ 2 c) ?_ d
 ·
  show(aP a&&(aP y&&(aP u&&(aP v&&true))))=true;rw[ha,h2,h3,h4];rfl
 ·
  show(aP a&&(aP b&&(aP u&&(aP v&&true))))=true;rw[ha,hb,h3,h4];rfl
 ·
  show(aP a&&(aP b&&(aP c&&(aP v&&true))))=true;rw[ha,hb,hc,h4];rfl
end
end Go.Proofs.YtclbiihcbfnjmaaGreat
namespace Go.Proofs.YtclbiihcbfnjmaaGreat
open Go.RowKit

theorem er (W:World)(o:Obj):Below W.heap.size W (W.alloc o):=(aU _ W).alloc (aq _) o
end Go.Proofs.YtclbiihcbfnjmaaGreat
namespace Go.Proofs.YtclbiihcbfnjmaaGreat
open Go.RowKit

def FV (w:World)(q:Rat)(s:Bool)(A:Option Addr)(n:Nat)(t:Bool)(B:Option Addr)(m:Nat):Prop:=WV w q.num s A n/\WV w ((q.den:Nat):Int) t B m
theorem FV.below {w w':World}{q:Rat}{s t:Bool}{A B:Option Addr}{n m:Nat}(h:FV w q s A n t B m)(hb:Below w.heap.size w w'):FV w' q s A n t B m:=⟨h.1.below hb,h.2.below hb⟩
theorem FV.stable (q:Rat)(s:Bool)(A:Option Addr)(n:Nat)(t:Bool)(B:Option Addr)(m:Nat):ck (fun W=>FV W q s A n t B m):=fun _ _ hb h=>h.below hb
theorem FV.sep {w:World}{q:Rat}{s t:Bool}{A B:Option Addr}{n m g i:Nat}{T:TypeId}{cs:Array Value}(h:FV w q s A n t B m)(hW:au T g cs w)(hn:cs.toList.all aP=true)(u:Value):FV (w.setCell ⟨g,i,none⟩ u) q s A n t B m:=⟨h.1.sep hW hn u,h.2.sep hW hn u⟩
theorem FV.cH {w:World}{q:Rat}{s t:Bool}{A B:Option Addr}{n m g:Nat}{T:TypeId}{x y:Value}(h:FV w q s A n t B m)(hW:au T g #[x,y] w)(hn: [x,y].all aP=true)(a b:Value)(ha:aP a=true):FV ((w.setCell ⟨g,0,none⟩ a).setCell ⟨g,1,none⟩ b) q s A n t B m:=
 ⟨h.1.cH hW hn a b ha,h.2.cH hW hn a b ha⟩
theorem FV.ak {w:World}{q:Rat}{s t:Bool}{A B:Option Addr}{n m g:Nat}{T:TypeId}{x y u v:Value}(h:FV w q s A n t B m)(hW:au T g #[x,y,u,v] w)(hn: [x,y,u,v].all aP=true)(a b c d:Value)(ha:aP a=true)(hb:aP b=true)(hc:aP c=true):
  FV ((((w.setCell ⟨g,0,none⟩ a).setCell ⟨g,1,none⟩ b).setCell ⟨g,2,none⟩ c).setCell ⟨g,3,none⟩ d) q s A n t B m:=⟨h.1.ak hW hn a b c d ha hb hc,h.2.ak hW hn a b c d ha hb hc⟩
theorem Env.again {w W:World}(h:Below w.heap.size w W):Env w (fun _=>True) W:=⟨h,fun _ _ _ h=>h,trivial⟩
theorem Env.ag {w W:World}{P:World->Prop}{g:Nat}{t:TypeId}{cs:Array Value}(h:Env w P W)(hb:au t g cs W):Env w (fun V=>P V/\au t g cs V) W:=h.and (au.stable _ _ _) hb
theorem oB {w W:World}{g:Nat}(h:Below w.heap.size w W)(hg:w.heap.size<=g)(a b:Value):Below w.heap.size w ((W.setCell ⟨g,0,none⟩ a).setCell ⟨g,1,none⟩ b):=(h.setCell (p:=⟨g,0,none⟩) hg _).setCell (p:=⟨g,1,none⟩) hg _
theorem bW {w W:World}{g:Nat}(h:Below w.heap.size w W)(hg:w.heap.size<=g)(a b c d:Value):Below w.heap.size w ((((W.setCell ⟨g,0,none⟩ a).setCell ⟨g,1,none⟩ b).setCell ⟨g,2,none⟩ c).setCell ⟨g,3,none⟩ d):=((oB h hg a b).setCell (p:=⟨g,2,none⟩) hg _).setCell (p:=⟨g,3,none⟩) hg _
theorem FV.ln {w:World}{q:Rat}{s t:Bool}{A B:Option Addr}{n m k:Nat}(h:FV w q s A n t B m)(hq:fl q<=k):n<=k/\m<=k:=by
 have h1:=dA.1 hq;have h2:=h.1.len;have h3:=h.2.len;rw[bV] at h3;omega
theorem Env.blk {w W:World}{P:World->Prop}{g:Nat}(h:Env w P W)(t:TypeId)(cs:Array Value)(hg:W.heap.size=g):Env w (fun V=>P V/\au t g cs V) (W.alloc (.cells cs t)):=by
 subst hg;exact(h.alloc _).and (au.stable _ _ _) (au.new W t cs)
theorem Env.wv {w W:World}{P:World->Prop}{z:Int}{s:Bool}{A:Option Addr}{n:Nat}(h:Env w P W)(hv:WV W z s A n):Env w (fun V=>P V/\WV V z s A n) W:=h.and (WV.stable _ _ _ _) hv
theorem Env.fv {w W:World}{P:World->Prop}{q:Rat}{s t:Bool}{A B:Option Addr}{n m:Nat}(h:Env w P W)(hv:FV W q s A n t B m):Env w (fun V=>P V/\FV V q s A n t B m) W:=h.and (FV.stable _ _ _ _ _ _ _) hv
def WR (z:Int)(w:World)(e:Ending)(w':World):Prop:=∃s A n c,e= .returned (.agg #[.bool s,.slice A n c])/\WV w' z s A n/\Below w.heap.size w w'

theorem JQ {z:Int}{s:Bool}{A:Option Addr}{n c:Nat}{w:World}(ha:WV w z s A n)(hn:n<=1000000):
  Calls Tryz.prog 150 #[.agg #[.bool s,.slice A n c]] w fun e w'=>e= .returned (.bool (decide (z=1)))/\Below w.heap.size w w':=by
 have iZ:Below w.heap.size w (w.alloc (.cells #[.bool s,.slice A n c] 27)):=(aU _ _).alloc (aq _) _;obtain⟨hs,hl,hr⟩:=ha
 cases s with
 |true=>
  have hz:z<0:=kO hs.symm;clear hs hl hr;have HE:=af (aH (show¬z=1 by omega))
  go_enter Tryz.func150,Tryz.ntmps150
  go_wp2_with fail
  go_ret
  exact⟨aT HE.out.symm,iZ⟩
 |false=>
  have hz:¬z<0:=qf hs.symm
  by_cases h1:n=1
  ·
   subst h1;obtain⟨b,o,rfl,hb,hc⟩:=hr (by omega);have c1:=hc 0 (by omega);rw[ko] at c1
   have hv:aB ai z.natAbs 0=z.natAbs:=by
    have h:=dB aA (x:=z.natAbs);rw[<-hl,bz,kI] at h
    simpa using h
   rw[hv] at c1;have hlt:b<w.heap.size:=hb;clear hl hs hc hr hv;have c2:(w.alloc (.cells #[.bool false,.slice (some ⟨b,o,none⟩) 1 c] 27)).cell? ⟨b,o,none⟩=some (.int .u16 ((z.natAbs:Nat):Int)):=(World.cell?_alloc_lt w _ ⟨b,o,none⟩ hlt).trans c1
   by_cases h2:z=1
   ·
    have e1:=aL h2;have t2:(((z.natAbs:Nat):Int)==1)=true:=beq_iff_eq.2 (by omega);have HE:=af e1;clear e1 h2
    go_enter Tryz.func150,Tryz.ntmps150
    go_wp2_with fail
    go_ret
    exact⟨aT HE.out.symm,iZ⟩
   ·
    have e1:=aH h2;have t2:(((z.natAbs:Nat):Int)==1)=false:=gh.2 (by omega);have HE:=af e1;clear e1 h2
    go_enter Tryz.func150,Tryz.ntmps150
    go_wp2_with fail
    go_ret
    exact⟨aT HE.out.symm,iZ⟩
  ·
   have xM:¬z=1:=fun e=>h1 (by rw[hl,e];decide)
   have e1:=aH xM;have t1:((n:Int)==1)=false:=gh.2 (by omega);have HE:=af e1;clear e1 hl xM hs hr
   go_enter Tryz.func150,Tryz.ntmps150
   go_wp2_with fail
   go_ret
   exact⟨aT HE.out.symm,iZ⟩
end Go.Proofs.YtclbiihcbfnjmaaGreat
namespace Go.Proofs.YtclbiihcbfnjmaaGreat
open Go.RowKit

theorem Fu {f:Nat->Nat}{k V:Nat}(RC:0<k)(hv:vs ai f k=V)(hx:f (k-1)=0):vs ai f (k-1)=V:=by
 have h1:=bz ai f (k-1);rw[show k-1+1=k by omega,hv,hx] at h1;omega
theorem lQ (B:Nat)(A:Option Addr)(n c:Nat)(f:Nat->Nat)(w:World)(h:Rd B .u16 w A n f)(hf:∀i,i<n->f i<65536)(hc:n<=c)(hn:n<=100000000):
  Calls Tryz.prog 177 #[.slice A n c] w fun e w'=>e= .returned (.slice A (ln ai (vs ai f n)) c)/\w=w':=by
 have HF:=af hf;clear hf
 go_enter Tryz.func177,Tryz.ntmps177
 go_wp2_with fail
 go_loopw [3] (fun v wr=>∃k:Nat,k<=n/\v= .int .i64 (k:Int)/\Hid (vs ai f k=vs ai f n)/\wr=w) (fun v _=>(intOf v).toNat)
 case atStart=>exact⟨n,aq _,rfl,af rfl,rfl⟩
 case round=>
  obtain⟨k,hk,rfl,HV,rfl⟩:=hrel
  rcases dF k with rfl|RC
  ·
   go_wp2_with fail
   go_ret
   exact⟨lF (by rw[<-HV.out,kI,cY]),rfl⟩
  ·
   obtain⟨b,o,rfl,hb,hcell⟩:=h (by omega);have hx:=hcell (k-1) (by omega)
   have t0:(0:Int)<(k:Int):=by omega
   have e1:(k:Int)-1=((k-1:Nat):Int):=by omega
   have e2:((k:Int)-1).toNat=k-1:=by omega
   have i1:(0:Int)<=(k:Int)-1:=by omega
   have i2:(k:Int)-1<(n:Int):=by omega
   have i3:(k:Int)<=(c:Int):=by omega
   clear hcell
   by_cases h0:f (k-1)=0
   ·
    have t1:(((f (k-1):Nat):Int)==0)=true:=by rw[h0];rfl
    have HN:=af (Fu RC HV.out h0);clear h0;go_wp2_with fail
    go_roundw
    case rel=>exact⟨k-1,by omega,rfl,HN,by first|trivial|rfl⟩
    case measure=>simp[intOf];omega
   ·
    have t1:(((f (k-1):Nat):Int)==0)=false:=gh.2 (by omega);have H0:=af h0;clear h0;go_wp2_with fail
    go_ret
    exact⟨lF (by rw[<-HV.out,Rx aA (fun j hj=>HF.out j (by omega)) (.inr H0.out)]),rfl⟩
def oI (a b:Nat)(w:World)(e:Ending)(w':World):Prop:=e= .returned (.bool (decide (a<b)))/\∃n,w'=w.drewN n

theorem Ms (A B:Option Addr)(n m c d:Nat)(w:World)(h:n≠m):
  Calls Tryz.prog 164 #[.slice A n c,.slice B m d] w fun e w'=>e= .returned (.bool (decide (n<m)))/\w=w':=by
 rcases oQ h with h1|h1
 ·
  have k1:((n:Int) !=m)=true:=by simp;omega
  have k2:decide ((n:Int)<(m:Int))=true:=aL (by omega);have k3:=af (aL h1)
  go_enter Tryz.func164,Tryz.ntmps164
  go_wp2
  go_ret
  first|exact⟨aT k3.out.symm,rfl⟩|exact⟨rfl,rfl⟩
 ·
  have k1:((n:Int) !=m)=true:=by simp;omega
  have k2:decide ((n:Int)<(m:Int))=false:=aH (by omega);have k3:=af (aH (show¬n<m by omega))
  go_enter Tryz.func164,Tryz.ntmps164
  go_wp2
  go_ret
  first|exact⟨aT k3.out.symm,rfl⟩|exact⟨rfl,rfl⟩

theorem Ig (A B:Option Addr)(n c d a b:Nat)(w:World)(ha:Rd w.heap.size .u16 w A n (aB ai a))(hb:Rd w.heap.size .u16 w B n (aB ai b))(hn:n<=100000000)(la:a<ai^n)(lb:b<ai^n):
  Calls Tryz.prog 164 #[.slice A n c,.slice B n d] w (oI a b w):=by
 have LA:=af la;have LB:=af lb;clear la lb
 have hcell:∀j,j<n->∃p q p' q',A=some ⟨p,q,none⟩/\B=some ⟨p',q',none⟩/\(w.cell? ⟨p,q+j,none⟩=some (.int .u16 (aB ai a j:Int)))/\(w.cell? ⟨p',q'+j,none⟩=some (.int .u16 (aB ai b j:Int))):=fun j hj=>by
  obtain⟨p,q,e,_,h1⟩:=ha (by omega);obtain⟨p',q',e',_,h2⟩:=hb (by omega);exact⟨p,q,p',q',e,e',h1 j hj,h2 j hj⟩
 have HC:=af hcell;clear ha hb hcell
 go_enter Tryz.func164,Tryz.ntmps164
 go_wp2
 go_loopw [5] (fun i wr=>∃k:Nat,k<=n/\i= .int .i64 ((k:Int)-1)/\(∀j,k<=j->j<n->aB ai a j=aB ai b j)/\∃m,wr=w.drewN m) (fun i _=>(intOf i+1).toNat)
 case atStart=>exact⟨n,aq _,rfl,fun j h1 h2=>absurd h2 (by omega),0,rfl⟩
 case round=>
  obtain⟨k,hk,rfl,he,m,rfl⟩:=hrel;have HE:=af he;clear he
  rcases dF k with rfl|RC
  ·
   go_wp2
   go_ret
   exact⟨aT (aH (show¬a<b from fun hh=>by have:=yF LA.out LB.out fun j hj=>HE.out j (by omega) hj;omega)).symm,m,rfl⟩
  ·
   obtain⟨p,q,p',q',rfl,rfl,h1,h2⟩:=HC.out (k-1) (by omega)
   have ek:((k:Int)-1).toNat=k-1:=by omega
   rcases Nat.lt_trichotomy (aB ai a (k-1)) (aB ai b (k-1)) with hlt|heq|hgt
   ·
    have t1:(((aB ai a (k-1):Nat):Int) !=((aB ai b (k-1):Nat):Int))=true:=by simp;omega
    have t2:((aB ai a (k-1):Nat):Int)<((aB ai b (k-1):Nat):Int):=by omega
    have t3:=af (aL (oU aA LA.out LB.out (by omega) (fun j h1 h2=>HE.out j (by omega) h2) hlt))
    go_wp2
    go_quiet (fail)
    go_wp2
    go_quiet (fail)
    go_wp2
    go_ret
    first|exact⟨aT t3.out.symm,_,by rw[gU,gU]⟩|exact⟨aT (by rw[t3.out];first|exact aH (by omega)|exact aL (by omega)),_,by rw[gU,gU]⟩
   ·
    have t1:(((aB ai a (k-1):Nat):Int) !=((aB ai b (k-1):Nat):Int))=false:=by simp;omega
    go_wp2
    go_quiet (fail)
    go_wp2
    go_roundw
    case rel=>
     refine⟨k-1,by omega,by go_num,fun j h1 h2=> ?_,_,rfl⟩
     by_cases e:j=k-1
     ·rw[e];exact heq
     ·exact HE.out j (by omega) h2
    case measure=>simp[intOf];omega
   ·
    have t1:(((aB ai a (k-1):Nat):Int) !=((aB ai b (k-1):Nat):Int))=true:=by simp;omega
    have t2:¬((aB ai a (k-1):Nat):Int)<((aB ai b (k-1):Nat):Int):=by omega
    have t3:=af (aH (Nat.lt_asymm (oU aA LB.out LA.out (by omega) (fun j h1 h2=>(HE.out j (by omega) h2).symm) hgt)))
    go_wp2
    go_quiet (fail)
    go_wp2
    go_quiet (fail)
    go_wp2
    go_ret
    first|exact⟨aT t3.out.symm,_,by rw[gU,gU]⟩|exact⟨aT (by rw[t3.out];first|exact aH (by omega)|exact aL (by omega)),_,by rw[gU,gU]⟩
theorem pz (A B:Option Addr)(c d a b:Nat)(w:World)(ha:aJ w A a)(hb:aJ w B b)(la:ln ai a<=100000000):
  Calls Tryz.prog 164 #[.slice A (ln ai a) c,.slice B (ln ai b) d] w (oI a b w):=by
 by_cases h:ln ai a=ln ai b
 ·
  unfold aJ at ha hb;have h1:=bt aA a;have h2:=bt aA b;rw[<-h] at hb h2⊢;exact Ig A B _ c d a b w ha hb la h1 h2
 ·
  refine(Ms A B _ _ c d w h).mono fun e w' ⟨he,hw⟩=>⟨?_,0,hw.symm⟩
  rw[he]
  rcases oQ h with h1|h1
  ·
   have:a<b:=Nat.lt_of_not_le fun hle=>by have:=cN aA hle;omega
   rw[aL h1,aL this]
  ·
   have:b<a:=Nat.lt_of_not_le fun hle=>by have:=cN aA hle;omega
   rw[aH (show¬ln ai a<ln ai b by omega),aH (show¬a<b by omega)]
end Go.Proofs.YtclbiihcbfnjmaaGreat
namespace Go.Proofs.YtclbiihcbfnjmaaGreat
open Go.RowKit

theorem uh {a b:Nat}(ha:a<65536)(hb:b<65536):a*b<=4294836225:=dU (show a<=65535 by omega) (show b<=65535 by omega)
theorem Ih {f g:Nat->Nat}{m i k x y c V:Nat}(hi:i+k<m)(hg:∀j,j<m->j≠i+k->g j=f j)(hu:g (i+k)=(x*y+f (i+k)+c)%ai){s:Nat}
  (h:vs ai f m+ai^(i+k)*c=V+ai^i*(x*s)):vs ai g m+ai^(i+k+1)*((x*y+f (i+k)+c)/ai)=V+ai^i*(x*(s+ai^k*y)):=by
 have h1:=Bt (B:=ai) hi hg
 have h2:ai^(i+k)*((x*y+f (i+k)+c)%ai)+ai^(i+k)*(ai*((x*y+f (i+k)+c)/ai))=ai^(i+k)*(x*y+f (i+k)+c):=by rw[<-aY,Nat.mod_add_div]
 have h3:ai^i*(x*(s+ai^k*y))=ai^i*(x*s)+ai^(i+k)*(x*y):=by
  rw[aY,aY,dK,cA (ai^i) (ai^k),gV x (ai^k) y]
 rw[hu] at h1;rw[h3,cF,cA];rw[aY,aY] at h2
 generalize ai^(i+k)*(ai*((x*y+f (i+k)+c)/ai))=z1 at*
 generalize ai^(i+k)*((x*y+f (i+k)+c)%ai)=z2 at*
 generalize ai^(i+k)*(x*y)=z3 at*
 generalize ai^(i+k)*f (i+k)=z4 at*
 generalize ai^(i+k)*c=z5 at*
 generalize ai^i*(x*s)=z6 at*
 omega


theorem aJ.ry {w:World}{A:Option Addr}{n:Nat}{f:Nat->Nat}(h:Rd w.heap.size .u16 w A n f)(hf:∀i,i<n->f i<65536):aJ w A (vs ai f n):=by
 have hl:ln ai (vs ai f n)<=n:=(bJ aA).2 (kf hf)
 exact(h.shorter hl).congr fun i hi=>(AZ hf (by omega)).symm

def ve (H a b m i:Nat)(wr:World):Prop:=∃f:Nat->Nat,Row wr H 108 .u16 m m f/\(∀j,f j<65536)/\vs ai f m=vs ai (aB ai a) i*b/\∀j,i+ln ai b<=j->f j=0
def kM (H a b m i k c:Nat)(wr:World):Prop:=∃f:Nat->Nat,Row wr H 108 .u16 m m f/\(∀j,f j<65536)/\vs ai f m+ai^(i+k)*c=vs ai (aB ai a) i*b+ai^i*(aB ai a i*vs ai (aB ai b) k)/\c<65536/\∀j,i+ln ai b<=j->f j=0

theorem ve.inner {H a b m i:Nat}{wr:World}(h:ve H a b m i wr):kM H a b m i 0 0 wr:=by
 obtain⟨f,h1,h2,h3,h4⟩:=h;exact⟨f,h1,h2,by simpa [vs] using h3,by decide,h4⟩
theorem kM.step {H a b m i k c:Nat}{wr:World}{f:Nat->Nat}(h1:Row wr H 108 .u16 m m f)(h2:∀j,f j<65536)
  (h3:vs ai f m+ai^(i+k)*c=vs ai (aB ai a) i*b+ai^i*(aB ai a i*vs ai (aB ai b) k)) (h4:c<65536) (h5:∀j,i+ln ai b<=j->f j=0)
  (hk:k<ln ai b) (hm:i+ln ai b<m) {u v:Int} (hu:u=((aB ai a i:Nat):Int)*(aB ai b k:Nat)+(f (i+k):Nat)+(c:Nat)) (hv:v=u%65536):
  kM H a b m i (k+1) ((u/65536).toNat) (wr.setCell ⟨H,i+k,none⟩ (.int .u16 v)):=by
 have e:u=((aB ai a i*aB ai b k+f (i+k)+c:Nat):Int):=by rw[hu,Int.natCast_add,Int.natCast_add,cM]
 have hp:=uh (bu a i) (bu b k);have hf:=h2 (i+k)
 have ev:v=(((aB ai a i*aB ai b k+f (i+k)+c)%ai:Nat):Int):=by rw[hv,e];rfl
 have et:(u/65536).toNat=(aB ai a i*aB ai b k+f (i+k)+c)/ai:=by rw[e];rfl
 rw[ev,et];refine⟨fun j=>if j=i+k then(aB ai a i*aB ai b k+f (i+k)+c)%ai else f j,h1.set (by simp) fun j _ hj=>by simp[hj],fun j=> ?_, ?_, ?_,fun j hj=> ?_⟩
 ·
  by_cases hj:j=i+k
  ·simp only[hj,if_true];exact bK _ (by decide)
  ·simp only[hj,if_false];exact h2 j
 ·
  rw[bz ai (aB ai b) k];exact Ih (by omega) (fun j _ hj=>by simp[hj]) (by simp) h3
 ·
  rw[eX (by decide)];show _<65536*65536;omega
 ·simp only[show¬j=i+k by omega,if_false];exact h5 j hj
theorem kM.done {H a b m i c:Nat}{wr:World}(h:kM H a b m i (ln ai b) c wr)(hm:i+ln ai b<m):ve H a b m (i+1) (wr.setCell ⟨H,i+ln ai b,none⟩ (.int .u16 (c:Int))):=by
 obtain⟨f,h1,h2,h3,h4,h5⟩:=h;refine⟨fun j=>if j=i+ln ai b then c else f j,h1.set (by simp) fun j _ hj=>by simp[hj],fun j=> ?_, ?_,fun j hj=> ?_⟩
 ·
  by_cases hj:j=i+ln ai b
  ·simp only[hj,if_true];exact h4
  ·simp only[hj,if_false];exact h2 j
 ·
  have hs:=Bt (B:=ai) (f:=f) (g:=fun j=>if j=i+ln ai b then c else f j) hm fun j _ hj=>by simp[hj]
  rw[dB aA] at h3;rw[h5 _ (aq _)] at hs;simp only[if_true] at hs;rw[bz,en,cA,<-h3];omega
 ·simp only[show¬j=i+ln ai b by omega,if_false];exact h5 j (by omega)

theorem Ii (A B:Option Addr)(c d a b:Nat)(w:World)(ha:aJ w A a)(hb:aJ w B b)(hn:ln ai a<=1000000)(hm:ln ai b<=1000000):
  Calls Tryz.prog 166 #[.slice A (ln ai a) c,.slice B (ln ai b) d] w (fun e w'=>∃A' c',e= .returned (.slice A' (ln ai (a*b)) c')/\aJ w' A' (a*b)/\(∀p,A'=some p->w.heap.size<=p.block)/\Below w.heap.size w w'):=by
 have hmk:=Ww (ln ai a+ln ai b) (ln ai a+ln ai b) (aq _) (by omega);rw[show((ln ai a+ln ai b:Nat):Int)=(ln ai a:Int)+ln ai b by omega] at hmk
 go_enter Tryz.func166,Tryz.ntmps166
 have Kv:IntKind.i64.wrap (((ln ai a:Nat):Int)+((ln ai b:Nat):Int))=((ln ai a:Nat):Int)+((ln ai b:Nat):Int):=by rw[cL];omega
 go_wp2_with fail
 clear hmk Kv
 go_loopw [6] (fun i wr=>∃k:Nat,k<=ln ai a/\i= .int .i64 k/\ve w.heap.size a b (ln ai a+ln ai b) k wr/\Below w.heap.size w wr) (fun i _=>ln ai a-(intOf i).toNat)
 case atStart=>exact⟨0,bF _,rfl,⟨fun _=>0,Row.made,fun _=>by show(0:Nat)<65536;decide,by rw[rj fun _ _=>rfl];simp[vs],fun _ _=>rfl⟩,(aU _ _).alloc (aq _) _⟩
 case round=>
  obtain⟨i,hi,rfl,hst,bh⟩:=hrel
  by_cases hlt:i<ln ai a
  ·
   obtain⟨p,q,rfl,hp,hca⟩:=ha (by omega);have c0:=(bh.cell (p:=⟨p,q+i,none⟩) hp).trans (hca i hlt);have hxi:=bu a i
   obtain⟨wo,rfl⟩:∃wo:World,wo=wr:=⟨_,rfl⟩
   go_wp2_with fail
   go_loopw [7,8] (fun cy j wr=>∃k y:Nat,k<=ln ai b/\j= .int .i64 (k:Int)/\cy= .int .i64 (y:Int)/\kM w.heap.size a b (ln ai a+ln ai b) i k y wr/\Below w.heap.size w wr) (fun _ j _=>ln ai b-(intOf j).toNat)
   case atStart=>exact⟨0,0,bF _,rfl,rfl,hst.inner,bh⟩
   case round=>
    obtain⟨k,y,hk,rfl,rfl,hin,dS⟩:=hrel;have c0':=(dS.cell (p:=⟨p,q+i,none⟩) hp).trans (hca i hlt)
    by_cases WT:k<ln ai b
    ·
     obtain⟨p',q',rfl,hp',hcb⟩:=hb (by omega);have c1:=(dS.cell (p:=⟨p',q'+k,none⟩) hp').trans (hcb k WT);obtain⟨f,h1,h2,h3,h4,h5⟩:=hin;have c2:=h1.cell (i:=i+k) (by omega);have c3:=h1.frozen (i+k);have hyk:=bu b k;have hf:=h2 (i+k)
     obtain⟨P,hP⟩:∃P,P=aB ai a i*aB ai b k:=⟨_,rfl⟩
     have hPl:P<=4294836225:=by rw[hP];exact uh hxi hyk
     have hPI:((aB ai a i:Nat):Int)*((aB ai b k:Nat):Int)=(P:Int):=by rw[hP,cM]
     obtain⟨F,hF⟩:∃F,f (i+k)=F:=⟨_,rfl⟩
     rw[hF] at hf c2
     obtain⟨U,hU⟩:∃U,U=y+P+F:=⟨_,rfl⟩
     have hUl:U<=4294967295:=by omega
     have t0:decide ((k:Int)<((ln ai b:Nat):Int))=true:=aL (by omega)
     have t1:(k:Int)<((ln ai b:Nat):Int):=by omega
     have t2:(i:Int)<((ln ai a:Nat):Int):=by omega
     have t3:(i:Int)+(k:Int)<((ln ai a:Nat):Int)+((ln ai b:Nat):Int):=by omega
     have o1:IntKind.i64.wrap ((aB ai a i:Nat):Int)=((aB ai a i:Nat):Int):=by rw[cL];omega
     have o2:IntKind.i64.wrap ((aB ai b k:Nat):Int)=((aB ai b k:Nat):Int):=by rw[cL];omega
     have o3:IntKind.i64.wrap (P:Int)=(P:Int):=by rw[cL];omega
     have o4:IntKind.i64.wrap ((y:Int)+(P:Int))=(y:Int)+(P:Int):=by rw[cL];omega
     have o5:IntKind.i64.wrap (F:Int)=(F:Int):=by rw[cL];omega
     have o6:IntKind.i64.wrap ((y:Int)+(P:Int)+(F:Int))=(U:Int):=by rw[cL];omega
     have o7:IntKind.i64.wrap ((i:Int)+(k:Int))=(i:Int)+(k:Int):=by rw[cL];omega
     have H2:=af h2;have H3:=af h3;have H5:=af h5;have HU:=af hU;have HP:=af hP;have HF:=af hF;clear h2 h3 h5 hP hF hU;go_wp2_with fail
     go_quiet (fail)
     go_wp2_with fail
     go_roundw
     case rel=>
      have hs:=kM.step (H:=w.heap.size) (a:=a) (b:=b) (m:=ln ai a+ln ai b) (i:=i) (k:=k) (c:=y) (wr:=wr.drewN nq) (f:=f) h1 H2.out H3.out h4 H5.out WT (by omega) (u:=(U:Int)) (v:=(U:Int)%65536) (by rw[HF.out,<-cM,<-HP.out,HU.out];omega) rfl;rw[show((U:Int)/65536).toNat=U/65536 by omega] at hs;exact⟨k+1,U/65536,by omega,by go_num,by congr 1,hs,(dG dS _).setCell (aq _) _⟩
     case measure=>simp[intOf];omega
    ·
     obtain rfl:k=ln ai b:=by omega
     obtain⟨f,h1,h2,h3,h4,h5⟩:=hin;have c2:=h1.cell (i:=i+ln ai b) (by omega);have c3:=h1.frozen (i+ln ai b);have hdone:=kM.done (H:=w.heap.size) (a:=a) (b:=b) (m:=ln ai a+ln ai b) (i:=i) (c:=y) (wr:=wr) ⟨f,h1,h2,h3,h4,h5⟩ (by omega);have HD:=af hdone
     have t2:(i:Int)<((ln ai a:Nat):Int):=by omega
     have t3:(i:Int)+((ln ai b:Nat):Int)<((ln ai a:Nat):Int)+((ln ai b:Nat):Int):=by omega
     have o1:IntKind.u16.wrap (y:Int)=(y:Int):=by rw[oz];omega
     have o7:IntKind.i64.wrap ((i:Int)+((ln ai b:Nat):Int))=(i:Int)+((ln ai b:Nat):Int):=by rw[cL];omega
     clear h2 h3 h5 hdone;go_wp2_with fail
     go_roundw
     case rel=>exact⟨i+1,by omega,by go_num,HD.out,dS.setCell (aq _) _⟩
     case measure=>simp[intOf];omega
  ·
   obtain rfl:i=ln ai a:=by omega
   obtain⟨f,h1,h2,h3,h4⟩:=hst;have ht:=lQ wr.heap.size (some ⟨w.heap.size,0,none⟩) _ (ln ai a+ln ai b) _ wr (h1.rd (aq _) h1.lt) (fun i _=>h2 i) (aq _) (by omega);have ia:=aJ.ry (h1.rd (aq _) h1.lt) (fun i _=>h2 i);rw[h3,dB aA] at ht ia;have HT:=af ht;have Tq:=af ia;clear ht h2 h3 h4 ia;go_wp2_with fail
   refine HT.out.mono ?_
   rintro e w3 ⟨rfl,rfl⟩
   go_wp2_with fail
   go_ret
   exact⟨_,_,rfl,Tq.out,fun p hp=>by injection hp with hp;rw[<-hp];exact aq _,bh⟩
end Go.Proofs.YtclbiihcbfnjmaaGreat
namespace Go.Proofs.YtclbiihcbfnjmaaGreat
open Go.RowKit

def nI (x d k j:Nat):Nat:=if k<=j then aB ai (x/d) j else 0
theorem rN (x d k j:Nat):nI x d k j<65536:=by unfold nI;split;exact bu ..;decide
theorem uj {n:Nat}(x d:Nat)(h:x<ai^n):vs ai (nI x d 0) n=x/d:=by
 rw[fo (g:=aB ai (x/d)) fun j _=>by simp[nI]];exact cR (eH (Nat.div_le_self ..) h)
theorem Mt (x k:Nat):x/ai^(k+1)%131072%2*65536+aB ai x k=x/ai^k%131072/\x/ai^k%131072/2=aB ai (x/2) k:=by
 have e1:x/ai^k=65536*(x/ai^(k+1))+aB ai x k:=by
  rw[aB,cF,<-eJ];exact(eK _ _).symm
 have e2:aB ai (x/2) k=x/ai^k/2%65536:=by
  rw[aB,eJ,eJ,bC];rfl
 have h1:=bu x k;rw[e2]
 generalize x/ai^k=a at*
 generalize x/ai^(k+1)=b at*
 generalize aB ai x k=c at*
 omega

theorem Mu (A:Option Addr)(c x:Nat)(w:World)(hx:aJ w A x)(hn:ln ai x<=2000000):
  Calls Tryz.prog 176 #[.slice A (ln ai x) c] w fun e w'=>∃A' c',e= .returned (.slice A' (ln ai (x/2)) c')/\aJ w' A' (x/2)/\(∀p,A'=some p->w.heap.size<=p.block)/\Below w.heap.size w w':=by
 have hmk:=Ww (ln ai x) (ln ai x) (aq _) (by omega);have HN:=af (uj x 2 (bt aA x));have HL:=af (bt aA x)
 go_enter Tryz.func176,Tryz.ntmps176
 go_wp2_with fail
 clear hmk
 go_loopw [4,5] (fun r i wr=>∃k:Nat,k<=ln ai x/\i= .int .i64 ((k:Int)-1)/\r= .int .i64 ((x/ai^k%131072:Nat):Int)/\Row wr w.heap.size 108 .u16 (ln ai x) (ln ai x) (nI x 2 k)/\Below w.heap.size w wr) (fun _ i _=>(intOf i+1).toNat)
 case atStart=>exact⟨ln ai x,aq _,rfl,by rw[jI HL.out];rfl,Row.made.congr fun j hj=>by simp only[nI];rw[if_neg (by omega)],(aU _ _).alloc (aq _) _⟩
 case round=>
  obtain⟨k,hk,rfl,rfl,hrow,bh⟩:=hrel
  rcases dF k with rfl|RC
  ·
   have ht:=lQ wr.heap.size (some ⟨w.heap.size,0,none⟩) (ln ai x) (ln ai x) _ wr (hrow.rd (aq _) hrow.lt) (fun i _=>rN ..) (aq _) (by omega);have ia:=aJ.ry (hrow.rd (aq _) hrow.lt) (fun i _=>rN ..);rw[HN.out] at ht ia;have HT:=af ht;have Tq:=af ia;clear ht ia;go_wp2_with fail
   refine HT.out.mono ?_
   rintro e w3 ⟨rfl,rfl⟩
   go_wp2_with fail
   go_ret
   exact⟨_,_,rfl,Tq.out,fun p hp=>by injection hp with hp;rw[<-hp];exact aq _,bh⟩
  ·
   obtain⟨j,rfl⟩:∃j,k=j+1:=⟨k-1,by omega⟩
   have ej:(((j+1:Nat):Int)-1)=(j:Int):=by omega
   rw[ej];obtain⟨b,o,rfl,hb,hca⟩:=hx (by omega);have c0:=(bh.cell (p:=⟨b,o+j,none⟩) hb).trans (hca j (by omega));have c1:=hrow.cell (i:=j) (by omega);have c2:=hrow.frozen j;have hl:=bu x j;have hq:=bu (x/2) j;obtain⟨s1,s2⟩:=Mt x j
   obtain⟨N,hN⟩:∃N,N=x/ai^(j+1)%131072:=⟨_,rfl⟩
   obtain⟨M,hM⟩:∃M,M=x/ai^j%131072:=⟨_,rfl⟩
   rw[<-hN,<-hM] at s1;rw[<-hM] at s2;rw[<-hN]
   obtain⟨P,hP⟩:∃P,P=N%2:=⟨_,rfl⟩
   have hPl:P<=1:=by omega
   have hNl:N<131072:=by omega
   have r1:(N:Int).tmod 2=(P:Int):=by rw[Int.tmod_eq_emod_of_nonneg (by omega)];omega
   have o1:IntKind.i64.wrap ((P:Int)*65536)=(P:Int)*65536:=by rw[cL];omega
   have o2:IntKind.i64.wrap ((aB ai x j:Nat):Int)=((aB ai x j:Nat):Int):=by rw[cL];omega
   have o3:IntKind.i64.wrap ((P:Int)*65536+((aB ai x j:Nat):Int))=(M:Int):=by rw[cL];omega
   have r2:(M:Int).tdiv 2=((aB ai (x/2) j:Nat):Int):=by rw[Int.tdiv_eq_ediv_of_nonneg (by omega)];omega
   have o4:IntKind.u16.wrap ((aB ai (x/2) j:Nat):Int)=((aB ai (x/2) j:Nat):Int):=by rw[oz];omega
   have i1:(j:Int)<((ln ai x:Nat):Int):=by omega
   have HM:=af hM;clear s1 s2 hN hM hP hca;go_wp2_with fail
   go_roundw
   case rel=>exact⟨j,by omega,by go_num,by rw[HM.out],hrow.set (by simp[nI]) fun q _ hq=>by simp only[nI,show j<=q↔j+1<=q by omega],bh.setCell (aq _) _⟩
   case measure=>simp[intOf]
end Go.Proofs.YtclbiihcbfnjmaaGreat
/-! The walk of the reference's short. -/
namespace Go.Proofs.YtclbiihcbfnjmaaGreat
open Go.RowKit

theorem Mw {x d:Nat}(hd:0<d)(rY:d<=65535):vs ai (fun _=>x%d) 1=x%d/\∀j,j<1->x%d<65536:=by
 have h1:=bK x hd;refine⟨?_,fun _ _=>by omega⟩;rw[bz,kI]
 simp
def aqn (x y:Nat)(w:World)(e:Ending)(w':World):Prop:=
 ∃A c B d,e= .returned (.tuple #[.slice A (ln ai (x/y)) c,.slice B (ln ai (x%y)) d])/\aJ w' A (x/y)/\aJ w' B (x%y)/\(∀p,A=some p->w.heap.size<=p.block)/\(∀p,B=some p->w.heap.size<=p.block)/\Below w.heap.size w w'
theorem Ij (A:Option Addr)(c x d:Nat)(w:World)(hx:aJ w A x)(hd:0<d)(rY:d<=65535)(hn:ln ai x<=2000000):
  Calls Tryz.prog 175 #[.slice A (ln ai x) c,.int .i64 (d:Int)] w (aqn x d w):=by
 have hmk:=Ww (ln ai x) (ln ai x) (aq _) (by omega);have HN:=af (uj x d (bt aA x));have HL:=af (bt aA x);have hn0:((d:Int)==0)=false:=gh.2 (by omega)
 have vu:¬(d:Int)=0:=by omega
 go_enter Tryz.func175,Tryz.ntmps175
 go_wp2_with fail
 clear hmk
 go_loopw [7,8] (fun r i wr=>∃k:Nat,k<=ln ai x/\i= .int .i64 ((k:Int)-1)/\r= .int .i64 ((x/ai^k%d:Nat):Int)/\Row wr w.heap.size 108 .u16 (ln ai x) (ln ai x) (nI x d k)/\Below w.heap.size w wr) (fun _ i _=>(intOf i+1).toNat)
 case atStart=>exact⟨ln ai x,aq _,rfl,by rw[jI HL.out];simp,Row.made.congr fun j hj=>by simp only[nI];rw[if_neg (by omega)],(aU _ _).alloc (aq _) _⟩
 case round=>
  obtain⟨k,hk,rfl,rfl,hrow,bh⟩:=hrel
  rcases dF k with rfl|RC
  ·
   have ht:=lQ wr.heap.size (some ⟨w.heap.size,0,none⟩) (ln ai x) (ln ai x) _ wr (hrow.rd (aq _) hrow.lt) (fun i _=>rN ..) (aq _) (by omega);have ia:=aJ.ry (hrow.rd (aq _) hrow.lt) (fun i _=>rN ..);rw[HN.out] at ht ia;have HT:=af ht;have Tq:=af ia;have hs1:=Mw (x:=x) hd rY
   obtain⟨R,hR⟩:∃R,R=x%d:=⟨_,rfl⟩
   rw[<-hR] at hs1
   have xI:R<65536:=by rw[hR];have:=bK x hd;omega
   rw[Nat.pow_zero,Nat.div_one,<-hR]
   have o1:IntKind.u16.wrap (R:Int)=(R:Int):=by rw[oz];omega
   have HS:=af hs1;have HR:=af hR;clear ht ia hs1 hR;have hcell:=eU wr (.cells #[.int .u16 (R:Int)] 108)
   have aex:Rd (wr.heap.size+1) .u16 (wr.alloc (.cells #[.int .u16 (R:Int)] 108)) (some ⟨wr.heap.size,0,none⟩) 1 (fun _=>R):=fun _=>⟨_,0,rfl,mL _,fun i hi=>by
    obtain rfl:i=0:=by omega
    exact(gZ _ _ 0 _ _ (0,0) hcell).trans rfl⟩
   have jM:=lQ (wr.heap.size+1) (some ⟨wr.heap.size,0,none⟩) 1 1 (fun _=>R) _ aex (fun _ _=>xI) (aq _) (by omega);have Fg:=aJ.ry (w:=wr.alloc (.cells #[.int .u16 (R:Int)] 108)) (by rw[fe];exact aex) (fun _ _=>xI);rw[HS.out.1] at jM Fg;have HT2:=af jM;have HN2:=af Fg;clear hcell aex jM Fg;go_wp2_with fail
   refine HT.out.mono ?_
   rintro e w3 ⟨rfl,rfl⟩
   go_wp2_with fail
   refine HT2.out.mono ?_
   rintro e w3 ⟨rfl,rfl⟩
   go_wp2_with fail
   go_ret2
   have hba:=(aU wr.heap.size wr).alloc (aq _) (.cells #[.int .u16 (R:Int)] 108);rw[HR.out] at HN2 hba⊢;exact⟨_,_,_,_,rfl,aJ.below Tq.out hba,HN2.out,fun p hp=>by injection hp with hp;rw[<-hp];exact aq _,fun p hp=>by injection hp with hp;rw[<-hp];exact bh.size,bh.trans (hba.mono bh.size)⟩
  ·
   obtain⟨j,rfl⟩:∃j,k=j+1:=⟨k-1,by omega⟩
   have ej:(((j+1:Nat):Int)-1)=(j:Int):=by omega
   rw[ej];obtain⟨b,o,rfl,hb,hca⟩:=hx (by omega);have c0:=(bh.cell (p:=⟨b,o+j,none⟩) hb).trans (hca j (by omega));have c1:=hrow.cell (i:=j) (by omega);have c2:=hrow.frozen j;have hl:=bu x j;have hq:=bu (x/d) j;obtain⟨s1,s2⟩:=qs (B:=ai) (x:=x) (k:=j) hd;have hNl:=bK (x/ai^(j+1)) hd
   obtain⟨N,hN⟩:∃N,N=x/ai^(j+1)%d:=⟨_,rfl⟩
   rw[<-hN] at s1 s2 hNl;rw[<-hN]
   obtain⟨M,hM⟩:∃M,M=ai*N+aB ai x j:=⟨_,rfl⟩
   rw[<-hM] at s1 s2
   have hMv:M=N*65536+aB ai x j:=by rw[hM,bC];rfl
   have hMd:M/d<65536:=by rw[eX hd];(have:(N+1)*65536<=d*65536:=dV _ hNl);omega
   rw[fm (show M/d<ai from hMd)] at s1
   have o1:IntKind.i64.wrap ((N:Int)*65536)=(N:Int)*65536:=by rw[cL];omega
   have o2:IntKind.i64.wrap ((aB ai x j:Nat):Int)=((aB ai x j:Nat):Int):=by rw[cL];omega
   have o3:IntKind.i64.wrap ((N:Int)*65536+((aB ai x j:Nat):Int))=(M:Int):=by rw[cL];omega
   have r1:(M:Int).tdiv (d:Int)=((aB ai (x/d) j:Nat):Int):=by rw[Int.tdiv_eq_ediv_of_nonneg (by omega),<-s1];exact(jl M d).symm
   have r2:(M:Int).tmod (d:Int)=((x/ai^j%d:Nat):Int):=by rw[Int.tmod_eq_emod_of_nonneg (by omega),<-s2];exact(Int.natCast_emod M d).symm
   have o4:IntKind.u16.wrap ((aB ai (x/d) j:Nat):Int)=((aB ai (x/d) j:Nat):Int):=by rw[oz];omega
   have i1:(j:Int)<((ln ai x:Nat):Int):=by omega
   clear s1 s2 hN hM hMv hMd hca HN HL;go_wp2_with fail
   go_roundw
   case rel=>exact⟨j,by omega,by go_num,rfl,hrow.set (by simp[nI]) fun q _ hq=>by simp only[nI,show j<=q↔j+1<=q by omega],bh.setCell (aq _) _⟩
   case measure=>simp[intOf]
end Go.Proofs.YtclbiihcbfnjmaaGreat
namespace Go.Proofs.YtclbiihcbfnjmaaGreat
open Go.RowKit

theorem YH {x e:Nat}(he:0<e):(x/e=2*(x/(e*2))+(if x%(e*2)<e then 0 else 1))/\x%e=(if x%(e*2)<e then x%(e*2) else x%(e*2)-e):=by
 have h1:x/(e*2)=x/e/2:=(eJ x e 2).symm;have h2:x%(e*2)=x%e+e*(x/e%2):=Nat.mod_mul;have h3:=bK x he;rw[h1,h2]
 generalize x/e=q at*
 generalize x%e=r at*
 rcases(show q%2=0\/q%2=1 by omega) with h|h
 ·rw[h,Nat.mul_zero,ko,if_pos h3,if_pos h3];omega
 ·rw[h,fJ,if_neg (by omega),if_neg (by omega)];omega
theorem iW (y k:Nat):y*2^k+y*2^k=y*2^(k+1):=by rw[cF,<-cA];omega
theorem Ci (y k:Nat):y*2^(k+1)/2=y*2^k:=by rw[<-iW];omega
theorem Ik (k:Nat):k<2^k:=Nat.lt_two_pow_self
theorem xJ {x y k:Nat}(hy:0<y)(h:∀i,i<k->y*2^i<=x):k<=16*ln ai x:=by
 rcases dF k with h0|h0
 ·omega
 ·
  have h1:=h (k-1) (by omega);have h2:2^(k-1)<=x:=ay (kj _ hy) h1
  have h3:x<2^(16*ln ai x):=by
   have:=bt aA x
   rwa [show ai=2^16 from rfl,<-Nat.pow_mul] at this
  have h4:=(Nat.pow_lt_pow_iff_right (by decide:1<2)).1 (eH h2 h3);omega
theorem sZ {x y k:Nat}(hy:0<y)(h:y*2^k<=x):k<x:=by
 have h1:=Ik k;have h2:2^k<=y*2^k:=kj _ hy;omega
def TW (x y n:Nat):Prop:=∀i,i<n->y*2^i<=x
theorem TW.succ {x y n:Nat}(h:TW x y n)(h1:¬x<y*2^n):TW x y (n+1):=fun i hi=>by
 rcases cX i n with h2|h2
 ·exact h i h2
 ·
  obtain rfl:i=n:=by omega
  omega
theorem TW.ln {x y n i:Nat}(h:TW x y n)(hi:i<n):ln ai (y*2^i)<=ln ai x:=cN aA (h i hi)
theorem TW.ln2 {x y n i B:Nat}(h:TW x y n)(hi:i<=n)(hx:Go.Proofs.YtclbiihcbfnjmaaGreat.ln ai x<=B)(hy:Go.Proofs.YtclbiihcbfnjmaaGreat.ln ai y<=B):Go.Proofs.YtclbiihcbfnjmaaGreat.ln ai (y*2^i)<=B+1:=by
 rcases dF i with h0|h0
 ·
  subst h0;rw[Nat.pow_zero,fJ];omega
 ·
  have h1:=h.ln (i:=i-1) (by omega);have h2:=sV (B:=ai) aA (m:=B) (x:=y*2^(i-1)) (y:=y*2^(i-1)) (by omega) (by omega);rw[iW,show i-1+1=i by omega] at h2;exact h2
theorem Tr {x y n:Nat}(h:x<y*2^n):x/(y*2^n)=0/\x%(y*2^n)=x:=⟨jI h,fm h⟩
end Go.Proofs.YtclbiihcbfnjmaaGreat
namespace Go.Proofs.YtclbiihcbfnjmaaGreat
open Go.RowKit

theorem vO (s:Bool)(A:Option Addr)(n c:Nat)(f:Nat->Nat)(w:World)(h:Rd w.heap.size .u16 w A n f)(hf:∀i,i<n->f i<65536)(hn:n<=1000000):
  Calls Tryz.prog 132 #[.agg #[.bool s,.slice A n c]] w fun e w'=>e= .returned (.bool (okW s n f))/\Below w.heap.size w w':=by
 go_enter Tryz.func132,Tryz.ntmps132
 by_cases h0:n=0
 ·
  subst h0;go_wp2_with fail
  go_ret
  exact⟨by simp[okW],(aU _ _).alloc (aq _) _⟩
 ·
  obtain⟨b,o,rfl,hb,hc⟩:=h (by omega);have c1:=hc (n-1) (by omega);have f1:=hf (n-1) (by omega)
  have hi1:0<=(n:Int)-1:=by omega
  have hi2:(n:Int)-1<(n:Int):=by omega
  have hi3:((n:Int)-1).toNat=n-1:=by omega
  have t0:((n:Int)==0)=false:=by simp;omega
  have ho:okW s n f=(decide (n<=1024)&&(f (n-1) !=0)):=by unfold okW;rw[if_neg h0]
  have HO:=af ho;clear hc hf ho
  by_cases h1:n<=1024
  ·
   have t1:(n:Int)<=1024:=by omega
   go_wp2_with fail
   go_ret
   refine⟨?_,(aU _ _).alloc (aq _) _⟩;rw[HO.out];show Ending.returned (.bool (((f (n-1):Nat):Int) !=0))=_
   have e:(((f (n-1):Nat):Int) !=0)=(f (n-1) !=0):=by
    by_cases e:f (n-1)=0
    ·rw[e];rfl
    ·rw[jK.2 e,jK.2 (by omega)]
   rw[e,aL h1,kH]
  ·
   have t1:decide ((n:Int)<=1024)=false:=aH (by omega);go_wp2_with fail
   go_ret
   refine⟨?_,(aU _ _).alloc (aq _) _⟩;rw[HO.out]
   simp[h1]

end Go.Proofs.YtclbiihcbfnjmaaGreat
namespace Go.Proofs.YtclbiihcbfnjmaaGreat
open Go.RowKit

theorem pE {W:World}{A:Option Addr}{x G:Nat}(h:aJ W A x)(hA:∀p,A=some p->G<p.block)(s:Bool)(v:Value):aJ ((W.setCell ⟨G,0,none⟩ (.bool s)).setCell ⟨G,1,none⟩ v) A x:=by
 intro hn;obtain⟨b,o,e,hlt,hc⟩:=h hn;have hne:=hA _ e;refine⟨b,o,e,by rw[ke,ke];exact hlt,fun i hi=> ?_⟩;refine(World.cell?_of_block (w:=W) ?_).trans (hc i hi);exact(dL _ _ _ _ (Nat.ne_of_gt hne)).trans (dL _ _ _ _ (Nat.ne_of_gt hne))
theorem Fv {w W:World}{P:World->Prop}(_:Env w P W):Below W.heap.size W W:=aU _ W
theorem BQ {a b:Int}{s t:Bool}{A B:Option Addr}{n m c d:Nat}{w:World}(ha:WV w a s A n)(hv:WV w b t B m)(la:n<=1000000)(lb:m<=1000000):
  Calls Tryz.prog 136 #[.agg #[.bool s,.slice A n c],.agg #[.bool t,.slice B m d]] w fun e w'=>∃s' A' n' c',e= .returned (.agg #[.bool s',.slice A' n' c'])/\WV w' (a*b) s' A' n'/\(∀p,A'=some p->w.heap.size<=p.block)/\Below w.heap.size w w':=by
 have hD:=Env.two w s t A B n m c d
 have El:((w.alloc (.cells #[.bool s,.slice A n c] 27)).alloc (.cells #[.bool t,.slice B m d] 27)).heap.size=w.heap.size+1+1:=by simp
 obtain⟨W2,wZ⟩:∃W2,W2=(w.alloc (.cells #[.bool s,.slice A n c] 27)).alloc (.cells #[.bool t,.slice B m d] 27):=⟨_,rfl⟩
 rw[<-wZ] at hD El;have hb:=(Fv hD).alloc (aq _) (.cells #[.bool false,.slice none 0 0] 27);have hR:=aF.new W2 false (.slice none 0 0);rw[El] at hR
 have wR:((s !=t)&&decide (0<ln ai (a.natAbs*b.natAbs)))=decide (a*b<0):=by
  rw[<-Km a b,ju,ha.AM,hv.AM]
  congr 1
  exact decide_eq_decide.2 (dM aA)
 have hab:(a*b).natAbs=a.natAbs*b.natAbs:=Int.natAbs_mul a b
 have HT:=af fun(W:World) (hW:Below w.heap.size w W)=>Ii A B c d a.natAbs b.natAbs W (aJ.below ha.2.2 hW) (aJ.below hv.2.2 hW) (by rw[<-ha.len];exact la) (by rw[<-hv.len];exact lb)
 rw[<-ha.len,<-hv.len] at HT
 have HM:=af fun(A':Option Addr) (c':Nat) (W:World)=>lK (s !=t) A' (ln ai (a.natAbs*b.natAbs)) c' W
 rw[wR] at HM;have Ts:=af hab;have HW2:=af wZ;clear ha hv wR hab wZ
 go_enter Tryz.func136,Tryz.ntmps136
 go_upto_region 1 with(fail)
 rw[<-HW2.out];replace hb:=hb.drew;have jv:aF (W2.alloc (.cells #[.bool false,.slice none 0 0] 27)).drew (w.heap.size+1+1) false (.slice none 0 0):=hR;have hle:=hb.size;have wS:True:=trivial
 go_region_held3 (fun w'=>w'.cell? ⟨w.heap.size,0,none⟩=some (.bool s)/\w'.cell? ⟨w.heap.size,1,none⟩=some (.slice A n c)/\w'.cell? ⟨w.heap.size+1,0,none⟩=some (.bool t)/\w'.cell? ⟨w.heap.size+1,1,none⟩=some (.slice B m d))
  (exact wQ.cells (hD.step (by first|exact hb|((repeat(first|exact hb|(refine Below.setCell ?_ ?_ _)|(refine Below.alloc ?_ ?_ _)))<;>(try dsimp only)<;>(repeat(first|rw[fe]|rw[ke]|rw[World.size_drew]))<;>omega))).here)
  (first
   |(have _t:=wS;go_at_call 166;refine(HT.out _ (hD.step hb).ax).mono ?_;rintro e w5 ⟨A5,c5,rfl,ug,Il,fC⟩;have Lb:=fun p hp=>ay (hD.step hb).ax.size (Il p hp);have Im:=jv.lt;replace jv:=jv.below fC jv.lt;replace hb:=hb.trans (fC.mono hb.size);clear wS fC;have wT:True:=trivial)
   |(have _t:=wT;go_at_call 162;refine(HM.out A5 c5 _).mono ?_;rintro e w6 ⟨rfl,pK⟩;replace ug:=aJ.below ug pK;replace jv:=jv.below pK jv.lt;replace hb:=hb.trans (pK.mono hb.size);have hs6:=hb.size;obtain⟨r0,r1⟩:=jv.cells;have g0:=jv.frozen 0;have g1:=jv.frozen 1;have hlt:=jv.lt;clear wT pK;have aey:True:=trivial))
 obtain⟨hW,nX⟩:=bT jv (hD.step hb).ax (show w.heap.size<=w.heap.size+1+1 by omega) (decide (a*b<0)) (.slice A5 (ln ai (a.natAbs*b.natAbs)) c5);have eR:=pE ug (fun p hp=>bY Im (Il p hp)) (decide (a*b<0)) (.slice A5 (ln ai (a.natAbs*b.natAbs)) c5);have HW:=af hW;have HF:=af eR;clear hW eR r0 r1 g0 g1 ug Il;go_wp2_with fail
 have hW:=HW.out;have eR:=HF.out;clear HW HF
 generalize ((w6.setCell ⟨w.heap.size+1+1,0,none⟩ (.bool (decide (a*b<0)))).setCell ⟨w.heap.size+1+1,1,none⟩ (.slice A5 (ln ai (a.natAbs*b.natAbs)) c5))=WW at*
 obtain⟨y0,y1⟩:=hW.cells;refine aK (v:= .agg #[.bool (decide (a*b<0)),.slice A5 (ln ai (a.natAbs*b.natAbs)) c5]) (by simp[results,Tryz.results136,go_sem,y0,y1]) rfl ?_;exact⟨_,A5,_,c5,rfl,⟨rfl,by rw[Ts.out],by rw[Ts.out];exact eR⟩,Lb,nX⟩
end Go.Proofs.YtclbiihcbfnjmaaGreat
namespace Go.Proofs.YtclbiihcbfnjmaaGreat
open Go.RowKit

def cr (x y k:Nat):Nat:=(x%ai^k+y%ai^k)/ai^k
theorem YI (x y:Nat):cr x y 0=0:=by simp[cr,Nat.mod_one]
theorem aaA (x y k:Nat):cr x y k<=1:=by
 have hp:0<ai^k:=bM (by decide);have h1:=bK x hp;have h2:=bK y hp;have:cr x y k<2:=(eX hp).2 (by omega);omega
theorem YJ (x y k:Nat):cr x y (k+1)=(cr x y k+aB ai x k+aB ai y k)/65536/\aB ai (x+y) k=(cr x y k+aB ai x k+aB ai y k)%65536:=by
 have hp:0<ai^k:=bM (by decide);have e1:=eK x (ai^k);have e2:=eK y (ai^k)
 constructor
 ·
  unfold cr aB;rw[cF,Nat.mod_mul,Nat.mod_mul,<-eJ];rw[show x%ai^k+ai^k*(x/ai^k%ai)+(y%ai^k+ai^k*(y/ai^k%ai))=(x%ai^k+y%ai^k)+ai^k*(x/ai^k%ai+y/ai^k%ai) by rw[aY];omega];rw[Nat.add_mul_div_left _ _ hp,<-Nat.add_assoc];rfl
 ·
  unfold cr aB
  have h3:(x+y)/ai^k=(x%ai^k+y%ai^k)/ai^k+(x/ai^k+y/ai^k):=by
   conv=>lhs;rw[<-e1,<-e2]
   rw[show ai^k*(x/ai^k)+x%ai^k+(ai^k*(y/ai^k)+y%ai^k)=(x%ai^k+y%ai^k)+ai^k*(x/ai^k+y/ai^k) by rw[aY];omega];rw[Nat.add_mul_div_left _ _ hp]
  rw[h3];show((x%ai^k+y%ai^k)/ai^k+(x/ai^k+y/ai^k))%65536=((x%ai^k+y%ai^k)/ai^k+x/ai^k%65536+y/ai^k%65536)%65536;omega
theorem YK {x k:Nat}(h:ai^k<=x):k<ln ai x:=by
 rcases cX k (ln ai x) with h1|h1
 ·exact h1
 ·have:=(bJ aA).1 h1;omega
theorem Mx {x y k:Nat}(h:k<ln ai x\/k<ln ai y\/0<cr x y k):k<ln ai (x+y):=by
 rcases h with h|h|h
 ·exact bY h (cN aA (by omega))
 ·exact bY h (cN aA (by omega))
 ·
  refine YK ?_;have h1:ai^k<=x%ai^k+y%ai^k:=(Nat.div_pos_iff.1 h).2;have h2:=Nat.mod_le x (ai^k);have h3:=Nat.mod_le y (ai^k);omega
theorem Tt {x y k:Nat}(h1:ln ai x<=k)(h2:ln ai y<=k)(h3:cr x y k=0):ln ai (x+y)<=k:=by
 have hp:0<ai^k:=bM (by decide);have e1:=(bJ aA).1 h1;have e2:=(bJ aA).1 h2;refine(bJ aA).2 ?_;unfold cr at h3;rw[fm e1,fm e2] at h3;have:=Nat.lt_of_div_eq_zero hp h3;omega
theorem wU {x k:Nat}(h:ln ai x<=k):aB ai x k=0:=cU ((bJ aA).1 h)

theorem My (A B:Option Addr)(c d x y:Nat)(w:World)(hA:aJ w A x)(hB:aJ w B y)(la:ln ai x<=1000000)(lb:ln ai y<=1000000):
  Calls Tryz.prog 163 #[.slice A (ln ai x) c,.slice B (ln ai y) d] w fun e w'=>∃A' c',e= .returned (.slice A' (ln ai (x+y)) c')/\dW w.heap.size w' A' (ln ai (x+y)) c' (aB ai (x+y))/\Below w.heap.size w w':=by
 have HA:=af hA;have HB:=af hB;have hls:ln ai (x+y)<=1000001:=sV aA la lb;clear hA hB;obtain⟨i0,hi,Kx,xM,El⟩:=info_parts lG
 go_enter Tryz.func163,Tryz.ntmps163
 go_wp2_with fail
 go_loopw [5,6,7] (fun v u i wr=>∃k,i= .int .i64 ((k:Nat):Int)/\u= .int .i64 ((cr x y k:Nat):Int)/\k<=ln ai (x+y)/\Hid (Cc v=k)/\wr.ownsRow w.heap.size 108 1 v k (gC .u16 k (aB ai (x+y)))/\Below w.heap.size w wr) (fun v _ _ _=>ln ai (x+y)-Cc v)
 case atStart=>exact⟨0,rfl,by rw[YI];rfl,bF _,af rfl,World.ownsRow_nil ..,aU _ _⟩
 case round=>
  obtain⟨k,rfl,rfl,hk,hlv,hown,iZ⟩:=hrel;have hcr:=aaA x y k
  by_cases hc:k<ln ai x\/k<ln ai y\/0<cr x y k
  ·
   have hk9:=Mx hc;have hcs:=YJ x y k;have HC:=af hcs;have HK:=af hk9
   obtain⟨q,hq⟩:∃q,q=cr x y k:=⟨_,rfl⟩
   rw[<-hq] at hc hcr⊢;have HQ:=af hq;have hdx:=bu x k;have hdy:=bu y k;clear hcs hk9 hq
   go_upto_region 4 with(fail)
   go_cut [21] from 8 to 21 (fun v wx=>v= .bool true/\wx=wr)
   case first=>
    rcases cX k (ln ai x) with h1|h1
    ·
     have t1:decide ((k:Int)<((ln ai x:Nat):Int))=true:=aL (by omega);go_wp2_with fail
     go_meet
     exact⟨rfl,rfl⟩
    ·
     have t1:decide ((k:Int)<((ln ai x:Nat):Int))=false:=aH (by omega)
     rcases cX k (ln ai y) with h2|h2
     ·
      have t2:decide ((k:Int)<((ln ai y:Nat):Int))=true:=aL (by omega);go_wp2_with fail
      go_meet
      exact⟨rfl,rfl⟩
     ·
      have t2:decide ((k:Int)<((ln ai y:Nat):Int))=false:=aH (by omega)
      have t3:0<q:=by omega
      go_wp2_with fail
      go_meet
      exact⟨rfl,rfl⟩
   case rest=>
   obtain⟨rfl,rfl⟩:=hcut
   go_upto_if 27 with(fail)
   go_cut [6] from 27 to 34 (fun v wx=>v= .int .i64 ((q+aB ai x k:Nat):Int)/\wx=wc)
   case first=>
    rcases cX k (ln ai x) with h1|h1
    ·
     obtain⟨p,o,rfl,hp,hca⟩:=(aJ.below HA.out iZ) (by omega);have c1:=hca k h1;have t1:decide ((k:Int)<((ln ai x:Nat):Int))=true:=aL (by omega)
     have t2:(k:Int)<((ln ai x:Nat):Int):=by omega
     have o1:IntKind.i64.wrap ((aB ai x k:Nat):Int)=((aB ai x k:Nat):Int):=by rw[cL];omega
     clear hca;go_wp2_with fail
     go_meet
     exact⟨by first|rfl|(congr 1;omega),rfl⟩
    ·
     have t1:decide ((k:Int)<((ln ai x:Nat):Int))=false:=aH (by omega);have HZ:=af (wU h1);go_wp2_with fail
     go_meet
     exact⟨by rw[HZ.out];first|rfl|(congr 1;omega),rfl⟩
   case rest=>
   obtain⟨rfl,rfl⟩:=hcut
   obtain⟨q2,hq2⟩:∃q2,q2=q+aB ai x k:=⟨_,rfl⟩
   rw[<-hq2]
   have as2:q2<=65536:=by omega
   have HQ2:=af hq2;clear hq2
   go_upto_if 38 with(fail)
   go_cut [6] from 38 to 45 (fun v wx=>v= .int .i64 ((q2+aB ai y k:Nat):Int)/\wx=wc)
   case first=>
    rcases cX k (ln ai y) with h1|h1
    ·
     obtain⟨p,o,rfl,hp,hca⟩:=(aJ.below HB.out iZ) (by omega);have c1:=hca k h1;have t1:decide ((k:Int)<((ln ai y:Nat):Int))=true:=aL (by omega)
     have t2:(k:Int)<((ln ai y:Nat):Int):=by omega
     have o1:IntKind.i64.wrap ((aB ai y k:Nat):Int)=((aB ai y k:Nat):Int):=by rw[cL];omega
     clear hca;go_wp2_with fail
     go_meet
     exact⟨by first|rfl|(congr 1;omega),rfl⟩
    ·
     have t1:decide ((k:Int)<((ln ai y:Nat):Int))=false:=aH (by omega);have HZ:=af (wU h1);go_wp2_with fail
     go_meet
     exact⟨by rw[HZ.out];first|rfl|(congr 1;omega),rfl⟩
   case rest=>
   obtain⟨rfl,rfl⟩:=hcut
   obtain⟨T,hT⟩:∃T,T=q2+aB ai y k:=⟨_,rfl⟩
   rw[<-hT]
   have hTl:T<=131072:=by omega
   have e1:cr x y (k+1)=T/65536:=by rw[HC.out.1,<-HQ.out,<-HQ2.out,<-hT]
   have e2:aB ai (x+y) k=T%65536:=by rw[HC.out.2,<-HQ.out,<-HQ2.out,<-hT]
   clear hT hdx hdy
   have t5:(T:Int).tmod 65536=((aB ai (x+y) k:Nat):Int):=by rw[Int.tmod_eq_emod_of_nonneg (by omega),e2];omega
   have t6:(T:Int).tdiv 65536=((cr x y (k+1):Nat):Int):=by rw[Int.tdiv_eq_ediv_of_nonneg (by omega),e1];omega
   have hdl:=bu (x+y) k;have uF:=aaA x y (k+1);clear e1 e2
   have o3:IntKind.u16.wrap ((aB ai (x+y) k:Nat):Int)=((aB ai (x+y) k:Nat):Int):=by rw[oz];omega
   have hsz:=iZ.size;go_wp2_with (at_builtin;refine wpList_append_own _ rfl _ _ 25 rfl w.heap.size 108 i0 (.int .u16 0) 1 2 Tryz.underlying25 hi Kx xM El rfl (by decide) _ _ _ rfl (hown.alloc _) ⟨wc.heap.size,0,none⟩ 1 1 [.int .u16 ((aB ai (x+y) k:Nat):Int)] rfl rfl (cell_one_new _ _ _) (by simp[Value.oneCell']) (by unfold maxLen;omega) (by omega) (by simp;omega) ?_;intro v' w5 oH hgrow _;obtain⟨g',cap',rfl⟩:=ownsRow_succ oH)
   go_roundw
   case rel=>
    rw[sU] at oH;exact⟨k+1,rfl,rfl,HK.out,af rfl,oH,(iZ.alloc hsz (.cells #[.int .u16 ((aB ai (x+y) k:Nat):Int)] 108)).grown hgrow (by simp;omega) (fun g hg=>(hown.lt g hg).1)⟩
   case measure=>
    have:=HK.out;show ln ai (x+y)-(k+1)<ln ai (x+y)-Cc u5;rw[hlv.out];omega
  ·
   have h1:ln ai x<=k:=by omega
   have h2:ln ai y<=k:=by omega
   have h3:cr x y k=0:=by omega
   have hkk:k=ln ai (x+y):=by have:=Tt h1 h2 h3;omega
   have t1:decide ((k:Int)<((ln ai x:Nat):Int))=false:=aH (by omega);have t2:decide ((k:Int)<((ln ai y:Nat):Int))=false:=aH (by omega);rw[h3];obtain⟨A',c',rfl⟩:=oG hown;have HK:=af hkk;clear hkk h3 hc;go_wp2_with fail
   go_ret
   refine⟨A',c',lF HK.out, ?_,iZ⟩;rw[<-HK.out];exact hown
end Go.Proofs.YtclbiihcbfnjmaaGreat
namespace Go.Proofs.YtclbiihcbfnjmaaGreat
open Go.RowKit

def bw (x y k:Nat):Nat:=if x%ai^k<y%ai^k then 1 else 0
theorem YL (x y:Nat):bw x y 0=0:=by simp[bw,Nat.mod_one]
theorem Tu (x y k:Nat):bw x y k<=1:=by unfold bw;split<;>omega
theorem Tv {x y k:Nat}(h:y<=x):(x-y)/ai^k+y/ai^k+bw x y k=x/ai^k:=by
 have hp:0<ai^k:=bM (by decide);have e1:=eK x (ai^k);have e2:=eK y (ai^k);have l1:=bK x hp;have l2:=bK y hp;unfold bw
 generalize ai^k=P at*
 generalize x%P=a at*
 generalize y%P=a' at*
 generalize x/P=X at*
 generalize y/P=Y at*
 by_cases hb:a<a'
 ·
  rw[if_pos hb]
  have hXY:Y+1<=X:=by
   rcases cX Y X with h1|h1
   ·exact h1
   ·have:=cT P h1;omega
  obtain⟨Z,rfl⟩:=Nat.le.dest hXY
  have e3:P*(Y+1+Z)=P*Y+P+P*Z:=by rw[aY,aY,fJ]
  have e4:x-y=(P+a-a')+P*Z:=by omega
  rw[e4,Nat.add_mul_div_left _ _ hp,jI (by omega)];omega
 ·
  rw[if_neg hb]
  have hXY:Y<=X:=by
   rcases cX X Y with h1|h1
   ·
    have:=cT P (show X+1<=Y from h1);rw[aY,fJ] at this;omega
   ·exact h1
  obtain⟨Z,rfl⟩:=Nat.le.dest hXY;have e3:P*(Y+Z)=P*Y+P*Z:=aY ..
  have e4:x-y=(a-a')+P*Z:=by omega
  rw[e4,Nat.add_mul_div_left _ _ hp,jI (by omega)];omega
theorem YM {x y:Nat}(h:y<=x)(k:Nat):bw x y (k+1)=1-(65536+aB ai x k-bw x y k-aB ai y k)/65536/\aB ai (x-y) k=(65536+aB ai x k-bw x y k-aB ai y k)%65536:=by
 have hd:=Tv (k:=k) h;have rY:=Tv (k:=k+1) h;have hb:=Tu x y k;have eD:=Tu x y (k+1);rw[cF,<-eJ,<-eJ,<-eJ] at rY;unfold aB
 generalize (x-y)/ai^k=Z at*
 generalize x/ai^k=X at*
 generalize y/ai^k=Y at*
 generalize bw x y k=b at*
 generalize bw x y (k+1)=b' at*
 have Iz:Z/65536+Y/65536+b'=X/65536:=rY;clear rY;show b'=1-(65536+X%65536-b-Y%65536)/65536/\Z%65536=(65536+X%65536-b-Y%65536)%65536;have h1:=bK X (show 0<65536 by decide);have h2:=bK Y (show 0<65536 by decide);have h3:=bK Z (show 0<65536 by decide);have f1:=eK X 65536;have f2:=eK Y 65536;have f3:=eK Z 65536
 generalize X%65536=dx at*
 generalize Y%65536=dy at*
 generalize Z%65536=dz at*
 generalize X/65536=X1 at*
 generalize Y/65536=Y1 at*
 generalize Z/65536=Z1 at*
 rcases cX dx (dy+b) with hlt|hge
 ·
  have hq:(65536+dx-b-dy)/65536=0:=jI (by omega);rw[hq,fm (show 65536+dx-b-dy<65536 by omega)];omega
 ·
  have hq:(65536+dx-b-dy)/65536=1:=by omega
  rw[hq,show 65536+dx-b-dy=65536+(dx-b-dy) by omega,Nat.add_mod_left,fm (show dx-b-dy<65536 by omega)];omega

theorem qG (A B:Option Addr)(c d x y:Nat)(w:World)(hA:aJ w A x)(hB:aJ w B y)(la:ln ai x<=1000000)(hxy:y<=x):
  Calls Tryz.prog 165 #[.slice A (ln ai x) c,.slice B (ln ai y) d] w fun e w'=>∃A' c',e= .returned (.slice A' (ln ai (x-y)) c')/\aJ w' A' (x-y)/\(∀p,A'=some p->w.heap.size<=p.block)/\Below w.heap.size w w':=by
 have HA:=af hA;have HB:=af hB;have hlx:=bt aA x;have hlb:ln ai y<=ln ai x:=cN aA hxy;have HL:=af hlx;have HXY:=af hxy;clear hA hB hlx hxy
 obtain⟨N,hN⟩:∃N,N=ln ai x:=⟨_,rfl⟩
 have hNl:N<=1000000:=by omega
 have HN:=af hN;rw[<-hN] at hlb⊢;clear hN la;obtain⟨i0,hi,Kx,xM,El⟩:=info_parts lG
 go_enter Tryz.func165,Tryz.ntmps165
 go_wp2_with fail
 go_loopw [5,6,7] (fun v u i wr=>∃k,i= .int .i64 ((k:Nat):Int)/\u= .int .i64 ((bw x y k:Nat):Int)/\k<=N/\Hid (Cc v=k)/\wr.ownsRow w.heap.size 108 1 v k (gC .u16 k (aB ai (x-y)))/\Below w.heap.size w wr) (fun v _ _ _=>N-Cc v)
 case atStart=>exact⟨0,rfl,by rw[YL];rfl,bF _,af rfl,World.ownsRow_nil ..,aU _ _⟩
 case round=>
  obtain⟨k,rfl,rfl,hk,hlv,hown,iZ⟩:=hrel;have hbw:=Tu x y k
  by_cases hk9:k<N
  ·
   have hcs:=YM HXY.out k;have HC:=af hcs
   obtain⟨q,hq⟩:∃q,q=bw x y k:=⟨_,rfl⟩
   rw[<-hq] at hbw⊢;have HQ:=af hq;have hdx:=bu x k;have hdy:=bu y k;clear hcs hq;have t0:decide ((k:Int)<(N:Int))=true:=aL (by omega);obtain⟨p,o,rfl,hp,hca⟩:=(aJ.below HA.out iZ) (by rw[<-HN.out];omega);have c1:=hca k (by rw[<-HN.out];omega)
   have t2:(k:Int)<(N:Int):=by omega
   have o1:IntKind.i64.wrap ((aB ai x k:Nat):Int)=((aB ai x k:Nat):Int):=by rw[cL];omega
   have o2:IntKind.i64.wrap (65536+((aB ai x k:Nat):Int))=65536+((aB ai x k:Nat):Int):=by rw[cL];omega
   have o4:IntKind.i64.wrap (65536+((aB ai x k:Nat):Int)-(q:Int))=((65536+aB ai x k-q:Nat):Int):=by rw[cL];omega
   clear hca
   go_upto_if 26 with(fail)
   have hM:65536+aB ai x k-q<=131071/\65535<=65536+aB ai x k-q:=by omega
   obtain⟨M,hMe⟩:∃M,M=65536+aB ai x k-q:=⟨_,rfl⟩
   rw[<-hMe] at o4 hM⊢;have HM:=af hMe;clear hMe o2 c1 o1
   go_cut [8] from 26 to 33 (fun v wx=>v= .int .i64 ((M-aB ai y k:Nat):Int)/\wx=wr)
   case first=>
    rcases cX k (ln ai y) with h1|h1
    ·
     obtain⟨p2,o2,rfl,Ke,hca⟩:=(aJ.below HB.out iZ) (by omega);have c1:=hca k h1;have t1:decide (k<ln ai y)=true:=aL h1
     have t3:(k:Int)<((ln ai y:Nat):Int):=by omega
     have o1:IntKind.i64.wrap ((aB ai y k:Nat):Int)=((aB ai y k:Nat):Int):=by rw[cL];omega
     have o5:IntKind.i64.wrap ((M:Int)-((aB ai y k:Nat):Int))=((M-aB ai y k:Nat):Int):=by rw[cL];omega
     clear hca;go_wp2_with fail
     go_meet
     exact⟨by first|rfl|(congr 1;omega),rfl⟩
    ·
     have t1:decide (k<ln ai y)=false:=aH (by omega);have HZ:=af (wU h1);go_wp2_with fail
     go_meet
     exact⟨by rw[HZ.out];rfl,rfl⟩
   case rest=>
   obtain⟨rfl,rfl⟩:=hcut
   obtain⟨T,hT⟩:∃T,T=M-aB ai y k:=⟨_,rfl⟩
   rw[<-hT]
   have hTl:T<=131071:=by omega
   have e1:bw x y (k+1)=1-T/65536:=by rw[HC.out.1,<-HQ.out,<-HM.out,<-hT]
   have e2:aB ai (x-y) k=T%65536:=by rw[HC.out.2,<-HQ.out,<-HM.out,<-hT]
   have FG:T/65536<=1:=by omega
   clear hT hdx hdy o4 hM
   have t5:(T:Int).tmod 65536=((aB ai (x-y) k:Nat):Int):=by rw[Int.tmod_eq_emod_of_nonneg (by omega),e2];omega
   have t6:(T:Int).tdiv 65536=((T/65536:Nat):Int):=by rw[Int.tdiv_eq_ediv_of_nonneg (by omega)];omega
   have t7:IntKind.i64.wrap (1-((T/65536:Nat):Int))=((bw x y (k+1):Nat):Int):=by rw[cL,e1];omega
   have t8:IntKind.i64.wrap ((T/65536:Nat):Int)=((T/65536:Nat):Int):=by rw[cL];omega
   have t9:(1:Int)-(T:Int)/65536=((bw x y (k+1):Nat):Int):=by rw[e1];omega
   have hdl:=bu (x-y) k;clear e1 e2
   have o3:IntKind.u16.wrap ((aB ai (x-y) k:Nat):Int)=((aB ai (x-y) k:Nat):Int):=by rw[oz];omega
   have hsz:=iZ.size;go_wp2_with (at_builtin;refine wpList_append_own _ rfl _ _ 25 rfl w.heap.size 108 i0 (.int .u16 0) 1 2 Tryz.underlying25 hi Kx xM El rfl (by decide) _ _ _ rfl (hown.alloc _) ⟨wc.heap.size,0,none⟩ 1 1 [.int .u16 ((aB ai (x-y) k:Nat):Int)] rfl rfl (cell_one_new _ _ _) (by simp[Value.oneCell']) (by unfold maxLen;omega) (by omega) (by simp;omega) ?_;intro v' w5 oH hgrow _;obtain⟨g',cap',rfl⟩:=ownsRow_succ oH)
   go_roundw
   case rel=>
    rw[sU] at oH;exact⟨k+1,rfl,by first|rfl|(congr 1;first|exact t7|exact t9),by omega,af rfl,oH,(iZ.alloc hsz (.cells #[.int .u16 ((aB ai (x-y) k:Nat):Int)] 108)).grown hgrow (by simp;omega) (fun g hg=>(hown.lt g hg).1)⟩
   case measure=>
    show N-(k+1)<N-Cc u5;rw[hlv.out];omega
  ·
   obtain rfl:k=N:=by omega
   obtain⟨A',c',rfl,xG,hrow⟩:=sL.oA hown;have hvs:vs ai (aB ai (x-y)) k=x-y:=cR (eH (Nat.sub_le x y) (by rw[HN.out];exact HL.out));have hc:=lQ wr.heap.size A' k c' (aB ai (x-y)) wr hrow.rd (fun i _=>bu _ i) xG (by omega);rw[hvs] at hc;have HC:=af hc;clear hc hvs;go_wp2_with fail
   refine HC.out.mono ?_
   rintro e w5 ⟨rfl,rfl⟩
   go_wp2_with fail
   go_ret
   refine⟨A',c',rfl, ?_,fun p hp=>by subst hp;exact(hown.lt _ rfl).1,iZ⟩
   have Cr:ln ai (x-y)<=k:=by
    have:=cN aA (Nat.sub_le x y);rw[<-HN.out] at this;exact this
   exact fun hn=>by
    obtain⟨b,o,e,h1,h2⟩:=hrow.rd (by omega);exact⟨b,o,e,h1,fun i hi=>h2 i (by omega)⟩
end Go.Proofs.YtclbiihcbfnjmaaGreat
namespace Go.Proofs.YtclbiihcbfnjmaaGreat
open Go.RowKit

theorem BP {z:Int}{s:Bool}{x:Nat}(h:z=jt s x):z.natAbs=x/\(s&&decide (0<ln ai x))=decide (z<0):=by
 subst h;refine⟨cE s x, ?_⟩;rw[ju]
 congr 1
 exact decide_eq_decide.2 (dM aA)
theorem rO (A B:Option Addr)(c d x y:Nat)(w:World)(hA:aJ w A x)(hB:aJ w B y)(la:ln ai x<=1000000)(lb:ln ai y<=1000000):
  Calls Tryz.prog 163 #[.slice A (ln ai x) c,.slice B (ln ai y) d] w fun e w'=>∃A' c',e= .returned (.slice A' (ln ai (x+y)) c')/\aJ w' A' (x+y)/\(∀p,A'=some p->w.heap.size<=p.block)/\Below w.heap.size w w':=
 (My A B c d x y w hA hB la lb).mono fun _ _ ⟨A',c',he,ho,hb⟩=>⟨A',c',he,ho.num,fun p hp=>by subst hp;exact(World.ownsRow.lt ho _ rfl).1,hb⟩
theorem Sb {a b:Int}{s t:Bool}{A B:Option Addr}{n m c d:Nat}{w:World}(ha:WV w a s A n)(hv:WV w b t B m)(la:n<=1000000)(lb:m<=1000000):
  Calls Tryz.prog 135 #[.agg #[.bool s,.slice A n c],.agg #[.bool t,.slice B m d]] w fun e w'=>∃s' A' n' c',e= .returned (.agg #[.bool s',.slice A' n' c'])/\WV w' (a+b) s' A' n'/\(∀p,A'=some p->w.heap.size<=p.block)/\Below w.heap.size w w':=by
 have hD:=Env.two w s t A B n m c d
 have El:((w.alloc (.cells #[.bool s,.slice A n c] 27)).alloc (.cells #[.bool t,.slice B m d] 27)).heap.size=w.heap.size+1+1:=by simp
 obtain⟨W2,wZ⟩:∃W2,W2=(w.alloc (.cells #[.bool s,.slice A n c] 27)).alloc (.cells #[.bool t,.slice B m d] 27):=⟨_,rfl⟩
 rw[<-wZ] at hD El;have hb:=(Fv hD).alloc (aq _) (.cells #[.bool false,.slice none 0 0] 27);have hR:=aF.new W2 false (.slice none 0 0);rw[El] at hR
 obtain⟨W3,hW3⟩:∃W3,W3=W2.alloc (.cells #[.bool false,.slice none 0 0] 27):=⟨_,rfl⟩
 rw[<-hW3] at hb hR;have HW2:=af wZ;have HW3:=af hW3
 have la':ln ai a.natAbs<=1000000:=by rw[<-ha.len];exact la
 have lb':ln ai b.natAbs<=1000000:=by rw[<-hv.len];exact lb
 have ea:a=jt s a.natAbs:=by rw[ha.AM,rE]
 have eb:b=jt t b.natAbs:=by rw[hv.AM,rE]
 clear wZ hW3
 go_enter Tryz.func135,Tryz.ntmps135
 go_upto_region 1 with(fail)
 rw[<-HW2.out,<-HW3.out];obtain⟨k1,k2,k3,k4⟩:=wQ.cells (hD.step hb).here
 by_cases hst:s=t
 ·
  subst hst;have hz:=BP (z:=a+b) (s:=s) (x:=a.natAbs+b.natAbs) (by rw[Fc,<-ea,<-eb]);have hab:(a+b).natAbs=a.natAbs+b.natAbs:=hz.1;have wR:(s&&decide (0<ln ai (a.natAbs+b.natAbs)))=decide (a+b<0):=hz.2
  have HM:=af fun(A':Option Addr) (c':Nat) (W:World)=>lK s A' (ln ai (a.natAbs+b.natAbs)) c' W
  rw[wR] at HM;have Ts:=af hab
  have HT:=af fun(W:World) (hW:Below w.heap.size w W)=>rO A B c d a.natAbs b.natAbs W (aJ.below ha.2.2 hW) (aJ.below hv.2.2 hW) la' lb'
  rw[<-ha.len,<-hv.len] at HT;clear ha hv wR hab;have jv:aF W3.drew (w.heap.size+1+1) false (.slice none 0 0):=hR;clear hz ea eb
  go_upto_region 2 with(fail)
  replace hb:=hb.drew;have hle:=hb.size;have wS:True:=trivial
  go_region_held3 (fun w'=>w'.cell? ⟨w.heap.size,0,none⟩=some (.bool s)/\w'.cell? ⟨w.heap.size,1,none⟩=some (.slice A n c)/\w'.cell? ⟨w.heap.size+1,0,none⟩=some (.bool s)/\w'.cell? ⟨w.heap.size+1,1,none⟩=some (.slice B m d))
   (exact wQ.cells (hD.step (by first|exact hb|((repeat(first|exact hb|(refine Below.setCell ?_ ?_ _)|(refine Below.alloc ?_ ?_ _)))<;>(try dsimp only)<;>(repeat(first|rw[fe]|rw[ke]|rw[World.size_drew]))<;>omega))).here)
   (first
    |(have _t:=wS;go_at_call 163;refine(HT.out _ (hD.step hb).ax).mono ?_;rintro e w5 ⟨A5,c5,rfl,ug,Il,fC⟩;have Lb:=fun p hp=>ay (hD.step hb).ax.size (Il p hp);have Im:=jv.lt;replace jv:=jv.below fC jv.lt;replace hb:=hb.trans (fC.mono hb.size);clear wS fC;have wT:True:=trivial)
    |(have _t:=wT;go_at_call 162;refine(HM.out A5 c5 _).mono ?_;rintro e w6 ⟨rfl,pK⟩;replace ug:=aJ.below ug pK;replace jv:=jv.below pK jv.lt;replace hb:=hb.trans (pK.mono hb.size);have hs6:=hb.size;obtain⟨r0,r1⟩:=jv.cells;have g0:=jv.frozen 0;have g1:=jv.frozen 1;have hlt:=jv.lt;clear wT pK;have aey:True:=trivial))
  obtain⟨hW,nX⟩:=bT jv (hD.step hb).ax (show w.heap.size<=w.heap.size+1+1 by omega) (decide (a+b<0)) (.slice A5 (ln ai (a.natAbs+b.natAbs)) c5);have eR:=pE ug (fun p hp=>bY Im (Il p hp)) (decide (a+b<0)) (.slice A5 (ln ai (a.natAbs+b.natAbs)) c5);have HW:=af hW;have HF:=af eR;clear hW eR r0 r1 g0 g1 ug Il;go_wp2_with fail
  have hW:=HW.out;have eR:=HF.out;clear HW HF
  generalize ((w6.setCell ⟨w.heap.size+1+1,0,none⟩ (.bool (decide (a+b<0)))).setCell ⟨w.heap.size+1+1,1,none⟩ (.slice A5 (ln ai (a.natAbs+b.natAbs)) c5))=WW at*
  obtain⟨y0,y1⟩:=hW.cells;refine aK (v:= .agg #[.bool (decide (a+b<0)),.slice A5 (ln ai (a.natAbs+b.natAbs)) c5]) (by simp[results,Tryz.results135,go_sem,y0,y1]) rfl ?_;exact⟨_,A5,_,c5,rfl,⟨rfl,by rw[Ts.out],by rw[Ts.out];exact eR⟩,Lb,nX⟩
 ·
  have tst:(s==t)=false:=by simp[hst]
  have hc:=pz A B c d a.natAbs b.natAbs W3 (aJ.below ha.2.2 (hD.step hb).ax) (aJ.below hv.2.2 (hD.step hb).ax) (by omega);rw[<-ha.len,<-hv.len] at hc;go_wp2_with fail
  refine hc.mono ?_;clear hc
  rintro e w4 ⟨rfl,q,rfl⟩
  replace hb:Below W2.heap.size W2 (W3.drewN q):=dG hb q;have jv:aF (W3.drewN q).drew (w.heap.size+1+1) false (.slice none 0 0):=hR;clear k1 k2 k3 k4
  by_cases Mz:a.natAbs<b.natAbs
  ·
   rw[aL Mz];have Io:a.natAbs<=b.natAbs:=bG Mz;have hz:=BP (z:=a+b) (s:=t) (x:=b.natAbs-a.natAbs) (by rw[rJ (Ne.symm hst) Io,<-ea,<-eb,kP]);have hab:(a+b).natAbs=b.natAbs-a.natAbs:=hz.1;have wR:(t&&decide (0<ln ai (b.natAbs-a.natAbs)))=decide (a+b<0):=hz.2
   have HM:=af fun(A':Option Addr) (c':Nat) (W:World)=>lK t A' (ln ai (b.natAbs-a.natAbs)) c' W
   rw[wR] at HM;have Ts:=af hab
   have HT:=af fun(W:World) (hW:Below w.heap.size w W)=>qG B A d c b.natAbs a.natAbs W (aJ.below hv.2.2 hW) (aJ.below ha.2.2 hW) lb' Io
   rw[<-ha.len,<-hv.len] at HT;clear ha hv wR hab;clear hz ea eb Mz Io
   go_upto_region 4 with(fail)
   replace hb:=hb.drew;have hle:=hb.size;have wS:True:=trivial
   go_region_held3 (fun w'=>w'.cell? ⟨w.heap.size,0,none⟩=some (.bool s)/\w'.cell? ⟨w.heap.size,1,none⟩=some (.slice A n c)/\w'.cell? ⟨w.heap.size+1,0,none⟩=some (.bool t)/\w'.cell? ⟨w.heap.size+1,1,none⟩=some (.slice B m d))
    (exact wQ.cells (hD.step (by first|exact hb|((repeat(first|exact hb|(refine Below.setCell ?_ ?_ _)|(refine Below.alloc ?_ ?_ _)))<;>(try dsimp only)<;>(repeat(first|rw[fe]|rw[ke]|rw[World.size_drew]))<;>omega))).here)
    (first
     |(have _t:=wS;go_at_call 165;refine(HT.out _ (hD.step hb).ax).mono ?_;rintro e w5 ⟨A5,c5,rfl,ug,Il,fC⟩;have Lb:=fun p hp=>ay (hD.step hb).ax.size (Il p hp);have Im:=jv.lt;replace jv:=jv.below fC jv.lt;replace hb:=hb.trans (fC.mono hb.size);clear wS fC;have wT:True:=trivial)
     |(have _t:=wT;go_at_call 162;refine(HM.out A5 c5 _).mono ?_;rintro e w6 ⟨rfl,pK⟩;replace ug:=aJ.below ug pK;replace jv:=jv.below pK jv.lt;replace hb:=hb.trans (pK.mono hb.size);have hs6:=hb.size;obtain⟨r0,r1⟩:=jv.cells;have g0:=jv.frozen 0;have g1:=jv.frozen 1;have hlt:=jv.lt;clear wT pK;have aey:True:=trivial))
   obtain⟨hW,nX⟩:=bT jv (hD.step hb).ax (show w.heap.size<=w.heap.size+1+1 by omega) (decide (a+b<0)) (.slice A5 (ln ai (b.natAbs-a.natAbs)) c5);have eR:=pE ug (fun p hp=>bY Im (Il p hp)) (decide (a+b<0)) (.slice A5 (ln ai (b.natAbs-a.natAbs)) c5);have HW:=af hW;have HF:=af eR;clear hW eR r0 r1 g0 g1 ug Il;go_wp2_with fail
   have hW:=HW.out;have eR:=HF.out;clear HW HF
   generalize ((w6.setCell ⟨w.heap.size+1+1,0,none⟩ (.bool (decide (a+b<0)))).setCell ⟨w.heap.size+1+1,1,none⟩ (.slice A5 (ln ai (b.natAbs-a.natAbs)) c5))=WW at*
   obtain⟨y0,y1⟩:=hW.cells;refine aK (v:= .agg #[.bool (decide (a+b<0)),.slice A5 (ln ai (b.natAbs-a.natAbs)) c5]) (by simp[results,Tryz.results135,go_sem,y0,y1]) rfl ?_;exact⟨_,A5,_,c5,rfl,⟨rfl,by rw[Ts.out],by rw[Ts.out];exact eR⟩,Lb,nX⟩
  ·
   rw[aH Mz];have Io:b.natAbs<=a.natAbs:=Nat.le_of_not_lt Mz;have hz:=BP (z:=a+b) (s:=s) (x:=a.natAbs-b.natAbs) (by rw[rJ hst Io,<-ea,<-eb]);have hab:(a+b).natAbs=a.natAbs-b.natAbs:=hz.1;have wR:(s&&decide (0<ln ai (a.natAbs-b.natAbs)))=decide (a+b<0):=hz.2
   have HM:=af fun(A':Option Addr) (c':Nat) (W:World)=>lK s A' (ln ai (a.natAbs-b.natAbs)) c' W
   rw[wR] at HM;have Ts:=af hab
   have HT:=af fun(W:World) (hW:Below w.heap.size w W)=>qG A B c d a.natAbs b.natAbs W (aJ.below ha.2.2 hW) (aJ.below hv.2.2 hW) la' Io
   rw[<-ha.len,<-hv.len] at HT;clear ha hv wR hab;clear hz ea eb Mz Io
   go_upto_region 5 with(fail)
   replace hb:=hb.drew;have hle:=hb.size;have wS:True:=trivial
   go_region_held3 (fun w'=>w'.cell? ⟨w.heap.size,0,none⟩=some (.bool s)/\w'.cell? ⟨w.heap.size,1,none⟩=some (.slice A n c)/\w'.cell? ⟨w.heap.size+1,0,none⟩=some (.bool t)/\w'.cell? ⟨w.heap.size+1,1,none⟩=some (.slice B m d))
    (exact wQ.cells (hD.step (by first|exact hb|((repeat(first|exact hb|(refine Below.setCell ?_ ?_ _)|(refine Below.alloc ?_ ?_ _)))<;>(try dsimp only)<;>(repeat(first|rw[fe]|rw[ke]|rw[World.size_drew]))<;>omega))).here)
    (first
     |(have _t:=wS;go_at_call 165;refine(HT.out _ (hD.step hb).ax).mono ?_;rintro e w5 ⟨A5,c5,rfl,ug,Il,fC⟩;have Lb:=fun p hp=>ay (hD.step hb).ax.size (Il p hp);have Im:=jv.lt;replace jv:=jv.below fC jv.lt;replace hb:=hb.trans (fC.mono hb.size);clear wS fC;have wT:True:=trivial)
     |(have _t:=wT;go_at_call 162;refine(HM.out A5 c5 _).mono ?_;rintro e w6 ⟨rfl,pK⟩;replace ug:=aJ.below ug pK;replace jv:=jv.below pK jv.lt;replace hb:=hb.trans (pK.mono hb.size);have hs6:=hb.size;obtain⟨r0,r1⟩:=jv.cells;have g0:=jv.frozen 0;have g1:=jv.frozen 1;have hlt:=jv.lt;clear wT pK;have aey:True:=trivial))
   obtain⟨hW,nX⟩:=bT jv (hD.step hb).ax (show w.heap.size<=w.heap.size+1+1 by omega) (decide (a+b<0)) (.slice A5 (ln ai (a.natAbs-b.natAbs)) c5);have eR:=pE ug (fun p hp=>bY Im (Il p hp)) (decide (a+b<0)) (.slice A5 (ln ai (a.natAbs-b.natAbs)) c5);have HW:=af hW;have HF:=af eR;clear hW eR r0 r1 g0 g1 ug Il;go_wp2_with fail
   have hW:=HW.out;have eR:=HF.out;clear HW HF
   generalize ((w6.setCell ⟨w.heap.size+1+1,0,none⟩ (.bool (decide (a+b<0)))).setCell ⟨w.heap.size+1+1,1,none⟩ (.slice A5 (ln ai (a.natAbs-b.natAbs)) c5))=WW at*
   obtain⟨y0,y1⟩:=hW.cells;refine aK (v:= .agg #[.bool (decide (a+b<0)),.slice A5 (ln ai (a.natAbs-b.natAbs)) c5]) (by simp[results,Tryz.results135,go_sem,y0,y1]) rfl ?_;exact⟨_,A5,_,c5,rfl,⟨rfl,by rw[Ts.out],by rw[Ts.out];exact eR⟩,Lb,nX⟩
end Go.Proofs.YtclbiihcbfnjmaaGreat
