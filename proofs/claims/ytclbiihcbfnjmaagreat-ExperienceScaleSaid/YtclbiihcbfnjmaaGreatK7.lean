/-
  Parts.
-/
import Derived.Test.YtclbiihcbfnjmaaGreatK6
import Derived.Deep.DrawnRows
set_option maxRecDepth 100000
set_option maxHeartbeats 4000000
set_option linter.unusedSimpArgs false
namespace Go.Proofs.YtclbiihcbfnjmaaGreat
open Go.RowKit

theorem FE.below {w:World}{s t:Bool}{A B:Option Addr}{n m c d:Nat}{w' w'':World}(h:FE w s t A B n m c d w')(h2:Below w'.heap.size w' w''):FE w s t A B n m c d w'':=
 ⟨h.p0.below h2 h.p0.lt,h.p1.below h2 h.p1.lt,h.r.below h2 h.r.lt,h.q.below h2 h.q.lt,h.av.trans (h2.mono h.av.size)⟩
theorem cO.lt {base:Nat}{w:World}{A:Option Addr}{n c:Nat}{f:Nat->Nat}(h:cO base w A n c f):∀p,A=some p->p.block<w.heap.size:=by
 intro p hp
 rcases h.2 with⟨hv,-⟩|⟨g,cap,cur,hv,_,hh,_⟩
 ·
  injection hv with e1
  rw[hp] at e1;cases e1
 ·
  injection hv with e1
  rw[hp] at e1
  injection e1 with e1
  subst e1;exact jE hh
def DM (w:World)(q r:Int)(e:Ending)(w':World):Prop:=
 ∃A c B d m,e= .returned (.tuple #[.agg #[.bool (decide (q<0)),.slice A (ln aj q.natAbs) c],.agg #[.bool (decide (r<0)),.slice B (ln aj r.natAbs) d],.int .i64 0])/\
  cO w.heap.size w' A (ln aj q.natAbs) c (aB aj q.natAbs)/\(∀p,A=some p->p.block<m)/\w.heap.size<=m/\cO m w' B (ln aj r.natAbs) d (aB aj r.natAbs)/\Below w.heap.size w w'
theorem WW.vals {w w':World}{z:Bool}{x:Nat}{e:Ending}(h:WW w z x e w'):∃s A c,e= .returned (.agg #[.bool s,.slice A (ln aj x) c])/\Hid (s=z)/\cO w.heap.size w' A (ln aj x) c (aB aj x)/\Below w.heap.size w w':=by
 obtain⟨A,c,he,ho,hb⟩:=h;exact⟨z,A,c,he,Lib.hid rfl,ho,hb⟩
theorem Ke (w:World):aL (w.alloc (.cells #[.int .u32 1] 171)) (some ⟨w.heap.size,0,none⟩) 1:=fun _=>
 ⟨w.heap.size,0,rfl,by simp,fun i hi=>by
  have e1:ln ah 1=1:=um aF (by decide) (by decide)
  obtain rfl:i=0:=by omega
  exact cell_of_row _ _ 0 _ _ (0,0) (heap_alloc_new _ _)⟩
theorem eD.storeAt {w:World}{s t:Bool}{A B:Option Addr}{n m c d:Nat}{w':World}(h:eD w s t A B n m c d w'){R:Nat}(hR:w.heap.size+1<R)(s':Bool)(v':Value):
  eD w s t A B n m c d ((w'.setCell ⟨R,0,none⟩ (.bool s')).setCell ⟨R,1,none⟩ v'):=
 have e0:w.heap.size≠R:=by omega
 have e1:w.heap.size+1≠R:=by omega
 have e2:w.heap.size<=R:=by omega
 ⟨h.p0.other e0 s' v',h.p1.other e1 s' v',(h.av.setCell (p:=⟨R,0,none⟩) e2 _).setCell (p:=⟨R,1,none⟩) e2 _⟩
theorem DL (s t:Bool)(x y:Nat)(zq zr:Int)(A B:Option Addr)(c d:Nat)(w:World)(hA:aN w A x)(hB:aN w B y)(la:ln aj x<=1024)(lb:ln aj y<=1024)(hy:0<y)
  (hok:(okW s (ln aj x) (aB aj x)&&okW t (ln aj y) (aB aj y))=true)
  (XA:Hid (¬(s≠t/\0<x%y)->jg (s !=t) (x/y)=zq/\jg t (x%y)=zr)) (HUP:Hid (s≠t->0<x%y->jg (s !=t) (x/y+1)=zq/\jg t (y-x%y)=zr)):
  Calls Tryz.prog 170 #[.agg #[.bool s,.slice A (ln aj x) c],.agg #[.bool t,.slice B (ln aj y) d]] w (DM w zq zr):=by
 have lR:=Kb s t A B (ln aj x) (ln aj y) c d _ _ w hA hB (fun i=>bh _ i) (fun i=>bh _ i) (by omega) (by omega);rw[hok] at lR;clear hok;have Xb:=dF la;have TV:=dF lb;have hyl:0<ln aj y:=(cK aD).2 hy;have tb0:(((ln aj y:Nat):Int)==0)=false:=beq_eq_false_iff_ne.2 (by omega);have hqx:x/y<=x:=Nat.div_le_self ..;have hmod:=Nat.mod_lt x hy;have lq:ln ah (x/y)<=512:=Nat.le_trans (bO aF hqx) Xb;have lr:ln ah (x%y)<=512:=Nat.le_trans (bO aF (Nat.le_of_lt hmod)) TV
 have hcases:(s=t\/(s≠t/\x%y=0))\/(s≠t/\0<x%y):=by
  by_cases hst:s=t
  ·exact .inl (.inl hst)
  ·
   rcases Nat.eq_zero_or_pos (x%y) with h0|h0
   ·exact .inl (.inr ⟨hst,h0⟩)
   ·exact .inr ⟨hst,h0⟩
 go_enter Tryz.func170,Tryz.ntmps170
 go_wp2_with fail
 refine lR.mono ?_
 rintro e w1 ⟨rfl,ht⟩
 obtain⟨p2,p3⟩:=ht.p1.cells;go_wp2_with fail
 refine(fz B d y w1 (aN.below hB ht.av) (by omega)).mono ?_
 rintro e w2 ⟨A2,c2,rfl,lQ,hn2,dL⟩
 have ja:=ht.below dL;clear ht p2 p3;obtain⟨p0,p1⟩:=ja.p0.cells;obtain⟨p2,p3⟩:=ja.p1.cells;go_wp2_with fail
 refine(fz A c x w2 (aN.below hA ja.av) (by omega)).mono ?_
 rintro e w3 ⟨A3,c3,rfl,hc3,hn3,fT⟩
 have ht3:=ja.below fT;have abE:=aL.below hn2 fT;clear ja p0 p1 p2 p3;go_wp2_with fail
 refine(oO A3 A2 c3 c2 x y w3 hn3 abE hy (by omega)).mono ?_
 rintro e w4 ⟨A4,c4,A5,c5,rfl,hc4,hc5,hn4,hn5,gQ⟩
 have xh:=ht3.below gQ;have XB:=aL.below abE gQ;clear ht3 abE hn2;obtain⟨p0,p1⟩:=xh.p0.cells;obtain⟨p2,p3⟩:=xh.p1.cells
 rcases hcases with(hst|⟨hst,Gj⟩)|⟨hst,KA⟩
 ·
  subst hst
  have hz:(s !=s)=false:=by simp
  obtain⟨hq,hr⟩:=XA.out (by simp);rw[hz] at hq;have HQ:=Lib.hid hq;have HR:=Lib.hid hr;clear hq hr hz;go_wp2_with fail
  have qA:FE w s s A B (ln aj x) (ln aj y) c d w4.drew:=⟨xh.p0,xh.p1,xh.r,xh.q,xh.av.drew⟩
  have D1:=Lib.hid fun(w':World) (hw':Below w4.heap.size w4 w')=>eO false _ _ _ w' (aL.below hn4 hw') hc4 (by omega)
  have D2:=Lib.hid fun(w':World) (hw':Below w4.heap.size w4 w')=>eO s _ _ _ w' (aL.below hn5 hw') hc5 (by omega)
  have hrefl:=(Below.refl w4.heap.size w4).drew;have lH:=xh.r.lt;have kJ:=xh.q.lt;clear p0 p1 p2 p3 xh
  go_region_held3 (fun w'=>w'.cell? ⟨w.heap.size,0,none⟩=some (.bool s)/\w'.cell? ⟨w.heap.size+1,0,none⟩=some (.bool s)/\eD w s s A B (ln aj x) (ln aj y) c d w')
   (first|with_reducible exact⟨Iw.p0.cells.1,Iw.p1.cells.1,Iw⟩|with_reducible exact⟨DN.p0.cells.1,DN.p1.cells.1,DN⟩|with_reducible exact⟨DP.p0.cells.1,DP.p1.cells.1,DP⟩|with_reducible exact⟨Iy.p0.cells.1,Iy.p1.cells.1,Iy⟩|with_reducible exact⟨qA.p0.cells.1,qA.p1.cells.1,qA.p0,qA.p1,qA.av⟩)
   (first
    |(go_at_call_of 173 (Value.bool false);refine(D1.out _ hrefl).mono ?_;rintro e w5 Qi;obtain⟨s1,B1,d1,rfl,hS1,Qj,fO⟩:=Qi.vals;have DQ:=qA.below fO;have Iy:eD w s s A B (ln aj x) (ln aj y) c d w5:=⟨DQ.p0,DQ.p1,DQ.av⟩)
    |(go_at_call_of 173 (Value.bool s);refine(D2.out _ (hrefl.trans (fO.mono hrefl.size))).mono ?_;rintro e w6 Qk;obtain⟨s2,B2,d2,rfl,Cj,XC,Kf⟩:=Qk.vals;have ja:=DQ.below Kf;have DP:eD w s s A B (ln aj x) (ln aj y) c d w6:=⟨ja.p0,ja.p1,ja.av⟩;obtain⟨r0,r1⟩:=ja.r.cells;have g0:=ja.r.frozen 0;have g1:=ja.r.frozen 1;obtain⟨r2,r3⟩:=ja.q.cells;have g2:=ja.q.frozen 0;have g3:=ja.q.frozen 1;have DN:=DP.storeAt (R:=w.heap.size+1+1) (by omega) s1 (.slice B1 (ln aj (x/y)) d1);have Iw:=DN.storeAt (R:=w.heap.size+1+1+1) (by omega) s2 (.slice B2 (ln aj (x%y)) d2)))
  obtain⟨hW,p5⟩:=bP ja.r ja.av (show w.heap.size<=w.heap.size+1+1 by omega) s1 (.slice B1 (ln aj (x/y)) d1);have hQ:=ja.q.other (R:=w.heap.size+1+1) (by omega) s1 (.slice B1 (ln aj (x/y)) d1);obtain⟨Im,Qm⟩:=bP hQ p5 (show w.heap.size<=w.heap.size+1+1+1 by omega) s2 (.slice B2 (ln aj (x%y)) d2);have uW:=hW.other (R:=w.heap.size+1+1+1) (by omega) s2 (.slice B2 (ln aj (x%y)) d2);have Ks:w4.heap.size<=w5.heap.size:=fO.size;have o1:=cM (cM (Qj.below Kf (Nat.le_refl _)) lH s1 (.slice B1 (ln aj (x/y)) d1)) kJ s2 (.slice B2 (ln aj (x%y)) d2);have o2:=cM (cM XC (Nat.lt_of_lt_of_le lH Ks) s1 (.slice B1 (ln aj (x/y)) d1)) (Nat.lt_of_lt_of_le kJ Ks) s2 (.slice B2 (ln aj (x%y)) d2);have o1l:=Qj.lt;clear hW hQ r0 r1 r2 r3 g0 g1 g2 g3 qA DQ ja Iy DP DN Iw p5 Qj XC D1 D2
  go_wp2
  generalize ((((w6.setCell ⟨w.heap.size+1+1,0,none⟩ (.bool s1)).setCell ⟨w.heap.size+1+1,1,none⟩ (.slice B1 (ln aj (x/y)) d1)).setCell ⟨w.heap.size+1+1+1,0,none⟩ (.bool s2)).setCell ⟨w.heap.size+1+1+1,1,none⟩ (.slice B2 (ln aj (x%y)) d2))=W7 at*
  obtain⟨k0,k1⟩:=uW.cells;obtain⟨k2,k3⟩:=Im.cells;refine bodyPost_ret (v:= .tuple #[.agg #[.bool s1,.slice B1 (ln aj (x/y)) d1],.agg #[.bool s2,.slice B2 (ln aj (x%y)) d2],.int .i64 0]) (by simp[results,Tryz.results170,go_sem,k0,k1,k2,k3]) rfl ?_;rw[<-HQ.out,<-HR.out];exact⟨B1,d1,B2,d2,w5.heap.size,by rw[jj,bT,jj,bT,hS1.out,Cj.out],by rw[bT];exact o1.lower (show w.heap.size<=w4.heap.size by omega),o1l,by omega,by rw[bT];exact o2,Qm⟩
 ·
  have hz:(s !=t)=true:=bne_iff_ne.2 hst;have t1:(s==t)=false:=beq_eq_false_iff_ne.2 hst
  have hl0:((ln ah (x%y):Nat):Int)<=0:=by rw[Gj,cF];decide
  have t2:decide ((0:Int)<((ln ah (x%y):Nat):Int))=false:=decide_eq_false (by omega);obtain⟨hq,hr⟩:=XA.out (fun h=>by omega);rw[hz] at hq;have HQ:=Lib.hid hq;have HR:=Lib.hid hr;clear hq hr Gj hz;go_wp2_with fail
  have qA:FE w s t A B (ln aj x) (ln aj y) c d w4.drew:=⟨xh.p0,xh.p1,xh.r,xh.q,xh.av.drew⟩
  have D1:=Lib.hid fun(w':World) (hw':Below w4.heap.size w4 w')=>eO true _ _ _ w' (aL.below hn4 hw') hc4 (by omega)
  have D2:=Lib.hid fun(w':World) (hw':Below w4.heap.size w4 w')=>eO t _ _ _ w' (aL.below hn5 hw') hc5 (by omega)
  have hrefl:=(Below.refl w4.heap.size w4).drew;have lH:=xh.r.lt;have kJ:=xh.q.lt;clear p0 p1 p2 p3 xh
  go_region_held3 (fun w'=>w'.cell? ⟨w.heap.size,0,none⟩=some (.bool s)/\w'.cell? ⟨w.heap.size+1,0,none⟩=some (.bool t)/\eD w s t A B (ln aj x) (ln aj y) c d w')
   (first|with_reducible exact⟨Iw.p0.cells.1,Iw.p1.cells.1,Iw⟩|with_reducible exact⟨DN.p0.cells.1,DN.p1.cells.1,DN⟩|with_reducible exact⟨DP.p0.cells.1,DP.p1.cells.1,DP⟩|with_reducible exact⟨Iy.p0.cells.1,Iy.p1.cells.1,Iy⟩|with_reducible exact⟨qA.p0.cells.1,qA.p1.cells.1,qA.p0,qA.p1,qA.av⟩)
   (first
    |(go_at_call_of 173 (Value.bool true);refine(D1.out _ hrefl).mono ?_;rintro e w5 Qi;obtain⟨s1,B1,d1,rfl,hS1,Qj,fO⟩:=Qi.vals;have DQ:=qA.below fO;have Iy:eD w s t A B (ln aj x) (ln aj y) c d w5:=⟨DQ.p0,DQ.p1,DQ.av⟩)
    |(go_at_call_of 173 (Value.bool t);refine(D2.out _ (hrefl.trans (fO.mono hrefl.size))).mono ?_;rintro e w6 Qk;obtain⟨s2,B2,d2,rfl,Cj,XC,Kf⟩:=Qk.vals;have ja:=DQ.below Kf;have DP:eD w s t A B (ln aj x) (ln aj y) c d w6:=⟨ja.p0,ja.p1,ja.av⟩;obtain⟨r0,r1⟩:=ja.r.cells;have g0:=ja.r.frozen 0;have g1:=ja.r.frozen 1;obtain⟨r2,r3⟩:=ja.q.cells;have g2:=ja.q.frozen 0;have g3:=ja.q.frozen 1;have DN:=DP.storeAt (R:=w.heap.size+1+1) (by omega) s1 (.slice B1 (ln aj (x/y)) d1);have Iw:=DN.storeAt (R:=w.heap.size+1+1+1) (by omega) s2 (.slice B2 (ln aj (x%y)) d2)))
  obtain⟨hW,p5⟩:=bP ja.r ja.av (show w.heap.size<=w.heap.size+1+1 by omega) s1 (.slice B1 (ln aj (x/y)) d1);have hQ:=ja.q.other (R:=w.heap.size+1+1) (by omega) s1 (.slice B1 (ln aj (x/y)) d1);obtain⟨Im,Qm⟩:=bP hQ p5 (show w.heap.size<=w.heap.size+1+1+1 by omega) s2 (.slice B2 (ln aj (x%y)) d2);have uW:=hW.other (R:=w.heap.size+1+1+1) (by omega) s2 (.slice B2 (ln aj (x%y)) d2);have Ks:w4.heap.size<=w5.heap.size:=fO.size;have o1:=cM (cM (Qj.below Kf (Nat.le_refl _)) lH s1 (.slice B1 (ln aj (x/y)) d1)) kJ s2 (.slice B2 (ln aj (x%y)) d2);have o2:=cM (cM XC (Nat.lt_of_lt_of_le lH Ks) s1 (.slice B1 (ln aj (x/y)) d1)) (Nat.lt_of_lt_of_le kJ Ks) s2 (.slice B2 (ln aj (x%y)) d2);have o1l:=Qj.lt;clear hW hQ r0 r1 r2 r3 g0 g1 g2 g3 qA DQ ja Iy DP DN Iw p5 Qj XC D1 D2
  go_wp2
  generalize ((((w6.setCell ⟨w.heap.size+1+1,0,none⟩ (.bool s1)).setCell ⟨w.heap.size+1+1,1,none⟩ (.slice B1 (ln aj (x/y)) d1)).setCell ⟨w.heap.size+1+1+1,0,none⟩ (.bool s2)).setCell ⟨w.heap.size+1+1+1,1,none⟩ (.slice B2 (ln aj (x%y)) d2))=W7 at*
  obtain⟨k0,k1⟩:=uW.cells;obtain⟨k2,k3⟩:=Im.cells;refine bodyPost_ret (v:= .tuple #[.agg #[.bool s1,.slice B1 (ln aj (x/y)) d1],.agg #[.bool s2,.slice B2 (ln aj (x%y)) d2],.int .i64 0]) (by simp[results,Tryz.results170,go_sem,k0,k1,k2,k3]) rfl ?_;rw[<-HQ.out,<-HR.out];exact⟨B1,d1,B2,d2,w5.heap.size,by rw[jj,bT,jj,bT,hS1.out,Cj.out],by rw[bT];exact o1.lower (show w.heap.size<=w4.heap.size by omega),o1l,by omega,by rw[bT];exact o2,Qm⟩
 ·
  have hz:(s !=t)=true:=bne_iff_ne.2 hst;have t1:(s==t)=false:=beq_eq_false_iff_ne.2 hst;have hl0:0<ln ah (x%y):=(cK aF).2 KA;have t2:decide ((0:Int)<((ln ah (x%y):Nat):Int))=true:=decide_eq_true (by omega);obtain⟨hq,hr⟩:=HUP.out hst KA;rw[hz] at hq;have HQ:=Lib.hid hq;have HR:=Lib.hid hr;clear hq hr hz;go_wp2_with fail
  have b1:Below w4.heap.size w4 (w4.alloc (.cells #[.int .u32 1] 171)):=(Below.refl _ w4).alloc (Nat.le_refl _) _;have hone:aL (w4.alloc (.cells #[.int .u32 1] 171)) (some ⟨w4.heap.size,0,none⟩) 1:=Ke w4;have e1:ln ah 1=1:=um aF (by decide) (by decide);have Qn:=Dx A4 (some ⟨w4.heap.size,0,none⟩) c4 1 (x/y) 1 _ (aL.below hn4 b1) hone (by omega) (by omega);rw[e1] at Qn;refine Qn.mono ?_;clear Qn e1 hone
  rintro e w8 ⟨A8,c8,rfl,hc8,hn8,NV⟩
  have ht8:=(xh.below b1).below NV;have ahB:=aL.below (aL.below hn5 b1) NV;have ahC:=aL.below (aL.below XB b1) NV;have lq1:ln ah (x/y+1)<=512+1:=qS aF lq (by rw[um aF (by decide) (by decide)];decide);have lr1:ln ah (y-x%y)<=512:=Nat.le_trans (bO aF (Nat.sub_le ..)) TV;clear hn4 hn5 XB xh p0 p1 p2 p3;obtain⟨p0,p1⟩:=ht8.p0.cells;obtain⟨p2,p3⟩:=ht8.p1.cells;go_wp2_with fail
  refine(qQ A2 A5 c2 c5 y (x%y) _ ahC ahB (Nat.le_of_lt hmod) (by omega)).mono ?_
  rintro e w9 ⟨A9,c9,rfl,hc9,hn9,hb9⟩
  have Q7:=ht8.below hb9;have aoq:=aL.below hn8 hb9;clear ht8 ahB ahC hn8 p0 p1 p2 p3;obtain⟨p0,p1⟩:=Q7.p0.cells;obtain⟨p2,p3⟩:=Q7.p1.cells;go_wp2_with fail
  have qA:FE w s t A B (ln aj x) (ln aj y) c d w9.drew:=⟨Q7.p0,Q7.p1,Q7.r,Q7.q,Q7.av.drew⟩
  have D1:=Lib.hid fun(w':World) (hw':Below w9.heap.size w9 w')=>eO true _ _ _ w' (aL.below aoq hw') hc8 (by omega)
  have D2:=Lib.hid fun(w':World) (hw':Below w9.heap.size w9 w')=>eO t _ _ _ w' (aL.below hn9 hw') hc9 (by omega)
  have hrefl:=(Below.refl w9.heap.size w9).drew;have lH:=Q7.r.lt;have kJ:=Q7.q.lt;clear p0 p1 p2 p3 Q7
  go_region_held3 (fun w'=>w'.cell? ⟨w.heap.size,0,none⟩=some (.bool s)/\w'.cell? ⟨w.heap.size+1,0,none⟩=some (.bool t)/\eD w s t A B (ln aj x) (ln aj y) c d w')
   (first|with_reducible exact⟨Iw.p0.cells.1,Iw.p1.cells.1,Iw⟩|with_reducible exact⟨DN.p0.cells.1,DN.p1.cells.1,DN⟩|with_reducible exact⟨DP.p0.cells.1,DP.p1.cells.1,DP⟩|with_reducible exact⟨Iy.p0.cells.1,Iy.p1.cells.1,Iy⟩|with_reducible exact⟨qA.p0.cells.1,qA.p1.cells.1,qA.p0,qA.p1,qA.av⟩)
   (first
    |(go_at_call_of 173 (Value.bool true);refine(D1.out _ hrefl).mono ?_;rintro e w5 Qi;obtain⟨s1,B1,d1,rfl,hS1,Qj,fO⟩:=Qi.vals;have DQ:=qA.below fO;have Iy:eD w s t A B (ln aj x) (ln aj y) c d w5:=⟨DQ.p0,DQ.p1,DQ.av⟩)
    |(go_at_call_of 173 (Value.bool t);refine(D2.out _ (hrefl.trans (fO.mono hrefl.size))).mono ?_;rintro e w6 Qk;obtain⟨s2,B2,d2,rfl,Cj,XC,Kf⟩:=Qk.vals;have ja:=DQ.below Kf;have DP:eD w s t A B (ln aj x) (ln aj y) c d w6:=⟨ja.p0,ja.p1,ja.av⟩;obtain⟨r0,r1⟩:=ja.r.cells;have g0:=ja.r.frozen 0;have g1:=ja.r.frozen 1;obtain⟨r2,r3⟩:=ja.q.cells;have g2:=ja.q.frozen 0;have g3:=ja.q.frozen 1;have DN:=DP.storeAt (R:=w.heap.size+1+1) (by omega) s1 (.slice B1 (ln aj (x/y+1)) d1);have Iw:=DN.storeAt (R:=w.heap.size+1+1+1) (by omega) s2 (.slice B2 (ln aj (y-x%y)) d2)))
  obtain⟨hW,p5⟩:=bP ja.r ja.av (show w.heap.size<=w.heap.size+1+1 by omega) s1 (.slice B1 (ln aj (x/y+1)) d1);have hQ:=ja.q.other (R:=w.heap.size+1+1) (by omega) s1 (.slice B1 (ln aj (x/y+1)) d1);obtain⟨Im,Qm⟩:=bP hQ p5 (show w.heap.size<=w.heap.size+1+1+1 by omega) s2 (.slice B2 (ln aj (y-x%y)) d2);have uW:=hW.other (R:=w.heap.size+1+1+1) (by omega) s2 (.slice B2 (ln aj (y-x%y)) d2);have Ks:w9.heap.size<=w5.heap.size:=fO.size;have o1:=cM (cM (Qj.below Kf (Nat.le_refl _)) lH s1 (.slice B1 (ln aj (x/y+1)) d1)) kJ s2 (.slice B2 (ln aj (y-x%y)) d2);have o2:=cM (cM XC (Nat.lt_of_lt_of_le lH Ks) s1 (.slice B1 (ln aj (x/y+1)) d1)) (Nat.lt_of_lt_of_le kJ Ks) s2 (.slice B2 (ln aj (y-x%y)) d2);have o1l:=Qj.lt;clear hW hQ r0 r1 r2 r3 g0 g1 g2 g3 qA DQ ja Iy DP DN Iw p5 Qj XC D1 D2
  go_wp2
  generalize ((((w6.setCell ⟨w.heap.size+1+1,0,none⟩ (.bool s1)).setCell ⟨w.heap.size+1+1,1,none⟩ (.slice B1 (ln aj (x/y+1)) d1)).setCell ⟨w.heap.size+1+1+1,0,none⟩ (.bool s2)).setCell ⟨w.heap.size+1+1+1,1,none⟩ (.slice B2 (ln aj (y-x%y)) d2))=W7 at*
  obtain⟨k0,k1⟩:=uW.cells;obtain⟨k2,k3⟩:=Im.cells;refine bodyPost_ret (v:= .tuple #[.agg #[.bool s1,.slice B1 (ln aj (x/y+1)) d1],.agg #[.bool s2,.slice B2 (ln aj (y-x%y)) d2],.int .i64 0]) (by simp[results,Tryz.results170,go_sem,k0,k1,k2,k3]) rfl ?_;rw[<-HQ.out,<-HR.out];exact⟨B1,d1,B2,d2,w5.heap.size,by rw[jj,bT,jj,bT,hS1.out,Cj.out],by rw[bT];exact o1.lower (show w.heap.size<=w9.heap.size by omega),o1l,by omega,by rw[bT];exact o2,Qm⟩

theorem FF (a b:Int)(A B:Option Addr)(c d:Nat)(w:World)(hA:aN w A a.natAbs)(hB:aN w B b.natAbs)(ha:ln aj a.natAbs<=1024)(hb:ln aj b.natAbs<=1024)(hb0:b≠0):
  Calls Tryz.prog 170 #[.agg #[.bool (decide (a<0)),.slice A (ln aj a.natAbs) c],.agg #[.bool (decide (b<0)),.slice B (ln aj b.natAbs) d]] w (DM w (a.fdiv b) (a.fmod b)):=
 DL _ _ _ _ _ _ A B c d w hA hB ha hb (by omega) (pW ha hb) (Lib.hid (FD a hb0)) (Lib.hid (Qg a hb0))
end Go.Proofs.YtclbiihcbfnjmaaGreat
namespace Go.Proofs.YtclbiihcbfnjmaaGreat
open Go.RowKit

end Go.Proofs.YtclbiihcbfnjmaaGreat
namespace Go.Proofs.YtclbiihcbfnjmaaGreat
open Go.RowKit
abbrev aY :Array Value:=#[.bool false,.slice none 0 0,.bool false,.slice none 0 0]
abbrev qz9 :Array Value:=#[.int .i64 0,.int .i64 0,.int .i64 0,.bool false,.slice none 0 0,.bool false,.slice none 0 0,.slice none 0 0,.slice none 0 0]
abbrev az (s:Bool)(A:Option Addr)(n c:Nat)(t:Bool)(B:Option Addr)(m d:Nat):Array Value:=#[.bool s,.slice A n c,.bool t,.slice B m d]
abbrev nS (F S:Int)(A:Option Addr)(n c:Nat)(si:Bool)(Ai:Option Addr)(ni ci:Nat)(ti:Bool)(Bi:Option Addr)(mi di:Nat):Array Value:=#[.int .i64 F,.int .i64 S,.slice A n c,.bool si,.slice Ai ni ci,.bool ti,.slice Bi mi di]

def WV (w:World)(z:Int)(s:Bool)(A:Option Addr)(n:Nat):Prop:=s=decide (z<0)/\n=ln aj z.natAbs/\aN w A z.natAbs
def WO (base:Nat)(w:World)(z:Int)(s:Bool)(A:Option Addr)(n c:Nat):Prop:=s=decide (z<0)/\n=ln aj z.natAbs/\cO base w A (ln aj z.natAbs) c (aB aj z.natAbs)
def VI (z:Int)(w:World)(e:Ending)(w':World):Prop:=∃s A n c,e= .returned (.agg #[.bool s,.slice A n c])/\WO w.heap.size w' z s A n c/\Below w.heap.size w w'
def VR (z:Int)(w:World)(e:Ending)(w':World):Prop:=∃s A n c,e= .returned (.tuple #[.agg #[.bool s,.slice A n c],.int .i64 0])/\WO w.heap.size w' z s A n c/\Below w.heap.size w w'
def VR2 (q r:Int)(w:World)(e:Ending)(w':World):Prop:=
 ∃s A n c t B m d,e= .returned (.tuple #[.agg #[.bool s,.slice A n c],.agg #[.bool t,.slice B m d],.int .i64 0])/\WO w.heap.size w' q s A n c/\WO w.heap.size w' r t B m d/\Below w.heap.size w w'
theorem WO.v {base:Nat}{w:World}{z:Int}{s:Bool}{A:Option Addr}{n c:Nat}(h:WO base w z s A n c):WV w z s A n:=⟨h.1,h.2.1,h.2.2.num⟩
theorem WV.len {w:World}{z:Int}{s:Bool}{A:Option Addr}{n:Nat}(h:WV w z s A n):n=ln aj z.natAbs:=h.2.1
theorem WV.EA {w:World}{z:Int}{s:Bool}{A:Option Addr}{n:Nat}(h:WV w z s A n):s=decide (z<0):=h.1
theorem WV.below {w w':World}{z:Int}{s:Bool}{A:Option Addr}{n:Nat}(h:WV w z s A n)(hb:Below w.heap.size w w'):WV w' z s A n:=⟨h.1,h.2.1,aN.below h.2.2 hb⟩
theorem WI.vi {w w':World}{z:Int}{e:Ending}(h:WI w z e w'):VI z w e w':=by
 obtain⟨A,c,he,ho,hb⟩:=h;exact⟨_,A,_,c,he,⟨rfl,rfl,ho⟩,hb⟩
theorem RI.vr {w w':World}{z:Int}{e:Ending}(h:RI w z e w')(hl:ln aj z.natAbs<=1024):VR z w e w':=by
 rcases h with⟨_,A,c,he,ho,hb⟩|⟨h1,_⟩
 ·exact⟨_,A,_,c,he,⟨rfl,rfl,ho⟩,hb⟩
 ·omega
theorem sW {a b:Int}{m:Nat}(ha:ln aj a.natAbs<=m)(hb:ln aj b.natAbs<=m):ln aj (a+b).natAbs<=m+1:=
 Nat.le_trans (bO aD (Int.natAbs_add_le a b)) (qS aD ha hb)
theorem bY {a b:Int}{m n:Nat}(ha:ln aj a.natAbs<=m)(hb:ln aj b.natAbs<=n):ln aj (a*b).natAbs<=m+n:=by
 rw[Int.natAbs_mul];exact Qh aD ha hb
theorem aaU {z:Int}(h1:-9223372036854775808<=z)(h2:z<=9223372036854775807):ln aj z.natAbs<=4:=(bf aD).2 (show z.natAbs<18446744073709551616 by omega)

section
variable {a b:Int} {s t:Bool} {A B:Option Addr} {n m c d:Nat} {w:World}
theorem Qo (ha:WV w a s A n)(hb:WV w b t B m)(la:n<=1024)(lb:m<=1024)(hb0:b≠0):
  Calls Tryz.prog 170 #[.agg #[.bool s,.slice A n c],.agg #[.bool t,.slice B m d]] w (VR2 (a.fdiv b) (a.fmod b) w):=by
 obtain⟨rfl,rfl,hA⟩:=ha;obtain⟨rfl,rfl,hB⟩:=hb;refine(FF a b A B c d w hA hB la lb hb0).mono ?_
 rintro e w' ⟨A',c',B',d',m,he,h1,-,h2,h3,hb⟩
 exact⟨_,A',_,c',_,B',_,d',he,⟨rfl,rfl,h1⟩,⟨rfl,rfl,h3.lower h2⟩,hb⟩
theorem ahD (ha:WV w a s A n)(hb:WV w b t B m)(la:n<=1024)(lb:m<=1024):
  Calls Tryz.prog 169 #[.agg #[.bool s,.slice A n c],.agg #[.bool t,.slice B m d]] w (VR ((Nat.gcd a.natAbs b.natAbs:Nat):Int) w):=by
 obtain⟨rfl,rfl,hA⟩:=ha;obtain⟨rfl,rfl,hB⟩:=hb
 exact(Vq a b A B c d w hA hB la lb).mono fun _ _ h=>h.vr (by rw[Int.natAbs_natCast];exact Fh _ _ _ la lb)
theorem agd (ha:WV w a s A n)(hb:WV w b t B m)(la:n<=1024)(lb:m<=1024):
  Calls Tryz.prog 81 #[.agg #[.bool s,.slice A n c],.agg #[.bool t,.slice B m d]] w fun e w'=>e= .returned (.int .i64 (vA a b))/\Below w.heap.size w w':=by
 obtain⟨rfl,rfl,hA⟩:=ha;obtain⟨rfl,rfl,hB⟩:=hb;exact Vu a b A B c d w hA hB la lb
theorem qL (ha:WV w a s A n)(hb:WV w b t B m)(la:n<=1000000)(lb:m<=1000000):
  Calls Tryz.prog 79 #[.agg #[.bool s,.slice A n c],.agg #[.bool t,.slice B m d]] w fun e w'=>e= .returned (.bool (decide (a=b)))/\Below w.heap.size w w':=by
 obtain⟨rfl,rfl,hA⟩:=ha;obtain⟨rfl,rfl,hB⟩:=hb;have h:=DK (decide (a<0)) (decide (b<0)) A B (ln aj a.natAbs) (ln aj b.natAbs) c d _ _ w hA hB la lb;rw[xe] at h;exact h
theorem Fl (ha:WV w a s A n)(hb:WV w b t B m)(la:n<=1000000)(lb:m<=1000000):
  Calls Tryz.prog 172 #[.agg #[.bool s,.slice A n c],.agg #[.bool t,.slice B m d]] w fun e w'=>e= .returned (.bool (decide (a=b)))/\Below w.heap.size w w':=by
 obtain⟨rfl,rfl,hA⟩:=ha;obtain⟨rfl,rfl,hB⟩:=hb;have h:=PY (decide (a<0)) (decide (b<0)) A B (ln aj a.natAbs) (ln aj b.natAbs) c d _ _ w hA hB la lb;rw[xe] at h;exact h
theorem ahE (ha:WV w a s A n)(hb:WV w b t B m)(la:n<=1024)(lb:m<=1024)(lr:ln aj (a+b).natAbs<=1024):
  Calls Tryz.prog 153 #[.agg #[.bool s,.slice A n c],.agg #[.bool t,.slice B m d]] w (VR (a+b) w):=by
 obtain⟨rfl,rfl,hA⟩:=ha;obtain⟨rfl,rfl,hB⟩:=hb
 exact(Vp a b A B c d w hA hB la lb).mono fun _ _ h=>h.vr lr
theorem ahF (ha:WV w a s A n)(hb:WV w b t B m)(la:n<=1024)(lb:m<=1024)(lr:ln aj (a*b).natAbs<=1024):
  Calls Tryz.prog 125 #[.agg #[.bool s,.slice A n c],.agg #[.bool t,.slice B m d]] w (VR (a*b) w):=by
 obtain⟨rfl,rfl,hA⟩:=ha;obtain⟨rfl,rfl,hB⟩:=hb
 exact(Vt a b A B c d w hA hB la lb).mono fun _ _ h=>h.vr lr
end
end Go.Proofs.YtclbiihcbfnjmaaGreat
/-! The walks of the laws' helpers sum, product, less and equal. -/
namespace Go.Proofs.YtclbiihcbfnjmaaGreat
open Go.RowKit

section
variable {a b:Int} {s t:Bool} {A B:Option Addr} {n m c d:Nat} {w:World}
end
end Go.Proofs.YtclbiihcbfnjmaaGreat
/-! The walk of the laws' awake. -/
namespace Go.Proofs.YtclbiihcbfnjmaaGreat
open Go.RowKit

def bq (P:World->Prop):Prop:=∀W W',Below W.heap.size W W'->P W->P W'
structure Env (w:World)(P:World->Prop)(W:World):Prop where
 av:Below w.heap.size w W
 st:bq P
 here:P W
theorem Env.start (w:World):Env w (fun _=>True) w:=⟨Below.refl _ _,fun _ _ _ h=>h,trivial⟩
theorem Env.step {w:World}{P:World->Prop}{W W':World}(h:Env w P W)(hb:Below W.heap.size W W'):Env w P W':=⟨h.av.trans (hb.mono h.av.size),h.st,h.st _ _ hb h.here⟩
theorem Env.alloc {w:World}{P:World->Prop}{W:World}(h:Env w P W)(o:Obj):Env w P (W.alloc o):=h.step ((Below.refl _ W).alloc (Nat.le_refl _) o)
theorem Env.drew {w:World}{P:World->Prop}{W:World}(h:Env w P W):Env w P W.drew:=h.step (Below.refl _ W).drew
theorem Env.and {w:World}{P Q:World->Prop}{W:World}(h:Env w P W)(hs:bq Q)(hq:Q W):Env w (fun W=>P W/\Q W) W:=
 ⟨h.av,fun A B hb hp=>⟨h.st A B hb hp.1,hs A B hb hp.2⟩,h.here,hq⟩
def Bx (g:Nat)(z:Int)(s:Bool)(A:Option Addr)(n c:Nat)(W:World):Prop:=aG W g s (.slice A n c)/\WV W z s A n
theorem WV.stable (z:Int)(s:Bool)(A:Option Addr)(n:Nat):bq (fun W=>WV W z s A n):=fun _ _ hb h=>h.below hb
end Go.Proofs.YtclbiihcbfnjmaaGreat
/-! The walk of the laws' usable. -/
namespace Go.Proofs.YtclbiihcbfnjmaaGreat
open Go.RowKit

section
variable {g:Nat} {a b c:Int} {s1 s2 s3:Bool} {A1 A2 A3:Option Addr} {n1 n2 n3 c1 c2 c3:Nat} {w W:World}
end
end Go.Proofs.YtclbiihcbfnjmaaGreat
namespace Go.Proofs.YtclbiihcbfnjmaaGreat
open Go.RowKit

def ak (t:TypeId)(g:Nat)(cs:Array Value)(w:World):Prop:=w.heap[g]?=some (.cells cs t (0,0))
def aJ :Value->Bool
 | .int .u16 _=>false
 |_=>true
section
variable {w w':World} {g B:Nat} {t:TypeId} {cs:Array Value}
theorem ak.lt (h:ak t g cs w):g<w.heap.size:=jE h
theorem ak.cell (h:ak t g cs w)(i:Nat):w.cell? ⟨g,i,none⟩=cs[i]?:=cell_of_row w g i cs t (0,0) h
theorem ak.frozen (h:ak t g cs w)(i:Nat):w.frozen? ⟨g,i,none⟩=false:=by
 unfold ak at h
 simp[World.frozen?,h]
theorem ak.new (w:World)(t:TypeId)(cs:Array Value):ak t w.heap.size cs (w.alloc (.cells cs t)):=heap_alloc_new w _
theorem ak.below (h:ak t g cs w)(hb:Below B w w')(hg:g<B):ak t g cs w':=(hb.block g hg).trans h
theorem ak.stable (t:TypeId)(g:Nat)(cs:Array Value):bq (ak t g cs):=fun _ _ hb h=>h.below hb h.lt
theorem ak.bW (h:ak t g cs w)(i:Nat)(u:Value):ak t g (cs.setIfInBounds i u) (w.setCell ⟨g,i,none⟩ u):=by
 unfold ak at h⊢
 simp[World.setCell,Array.getElem?_modify,h]
theorem ak.far (h:ak t g cs w){p:Addr}(hp:g≠p.block)(u:Value):ak t g cs (w.setCell p u):=(Below.heap_setCell w p u g hp).trans h
theorem ak.c2 {a b:Value}(h:ak t g #[a,b] w):w.cell? ⟨g,0,none⟩=some a/\w.cell? ⟨g,1,none⟩=some b:=⟨h.cell 0,h.cell 1⟩
theorem ak.c3 {a b c:Value}(h:ak t g #[a,b,c] w):w.cell? ⟨g,0,none⟩=some a/\w.cell? ⟨g,1,none⟩=some b/\w.cell? ⟨g,2,none⟩=some c:=⟨h.cell 0,h.cell 1,h.cell 2⟩
theorem ak.c4 {a b c d:Value}(h:ak t g #[a,b,c,d] w):w.cell? ⟨g,0,none⟩=some a/\w.cell? ⟨g,1,none⟩=some b/\w.cell? ⟨g,2,none⟩=some c/\w.cell? ⟨g,3,none⟩=some d:=⟨h.cell 0,h.cell 1,h.cell 2,h.cell 3⟩
theorem ak.j2 {a b:Value}{R:Prop}(h:ak t g #[a,b] w)(r:R):w.cell? ⟨g,0,none⟩=some a/\w.cell? ⟨g,1,none⟩=some b/\R:=⟨h.cell 0,h.cell 1,r⟩
theorem ak.f2 (h:ak t g cs w):w.frozen? ⟨g,0,none⟩=false/\w.frozen? ⟨g,1,none⟩=false:=⟨h.frozen 0,h.frozen 1⟩
theorem ak.j3 {a b c:Value}{R:Prop}(h:ak t g #[a,b,c] w)(r:R):w.cell? ⟨g,0,none⟩=some a/\w.cell? ⟨g,1,none⟩=some b/\w.cell? ⟨g,2,none⟩=some c/\R:=⟨h.cell 0,h.cell 1,h.cell 2,r⟩
theorem ak.j4 {a b c d:Value}{R:Prop}(h:ak t g #[a,b,c,d] w)(r:R):w.cell? ⟨g,0,none⟩=some a/\w.cell? ⟨g,1,none⟩=some b/\w.cell? ⟨g,2,none⟩=some c/\w.cell? ⟨g,3,none⟩=some d/\R:=⟨h.cell 0,h.cell 1,h.cell 2,h.cell 3,r⟩
theorem ak.f4 (h:ak t g cs w):w.frozen? ⟨g,0,none⟩=false/\w.frozen? ⟨g,1,none⟩=false/\w.frozen? ⟨g,2,none⟩=false/\w.frozen? ⟨g,3,none⟩=false:=⟨h.frozen 0,h.frozen 1,h.frozen 2,h.frozen 3⟩
theorem ak.s2 {a b:Value}(h:ak t g #[a,b] w)(a' b':Value):ak t g #[a',b'] ((w.setCell ⟨g,0,none⟩ a').setCell ⟨g,1,none⟩ b'):=by
 have:=(h.bW 0 a').bW 1 b'
 simpa using this
theorem ak.s4 {a b c d:Value}(h:ak t g #[a,b,c,d] w)(a' b' c' d':Value):ak t g #[a',b',c',d'] ((((w.setCell ⟨g,0,none⟩ a').setCell ⟨g,1,none⟩ b').setCell ⟨g,2,none⟩ c').setCell ⟨g,3,none⟩ d'):=by
 have:=(((h.bW 0 a').bW 1 b').bW 2 c').bW 3 d'
 simpa using this
theorem ak.gF {R:Nat}(h:ak t g cs w)(hp:g≠R)(a b:Value):ak t g cs ((w.setCell ⟨R,0,none⟩ a).setCell ⟨R,1,none⟩ b):=(h.far (p:=⟨R,0,none⟩) hp a).far (p:=⟨R,1,none⟩) hp b
theorem ak.ai {R:Nat}(h:ak t g cs w)(hp:g≠R)(a b c d:Value):ak t g cs ((((w.setCell ⟨R,0,none⟩ a).setCell ⟨R,1,none⟩ b).setCell ⟨R,2,none⟩ c).setCell ⟨R,3,none⟩ d):=(h.gF hp a b).far (p:=⟨R,2,none⟩) hp c|>.far (p:=⟨R,3,none⟩) hp d
theorem Rd.sep {n i:Nat}{A:Option Addr}{f:Nat->Nat}(h:Rd B .u16 w A n f)(hW:ak t g cs w)(hn:cs.toList.all aJ=true)(u:Value):Rd B .u16 (w.setCell ⟨g,i,none⟩ u) A n f:=fun h0=>by
 obtain⟨b,o,e,hb,hc⟩:=h h0;refine⟨b,o,e,hb,fun j hj=> ?_⟩
 have hne:b≠g:=fun e=>by
  subst e;have h1:=hc j hj;rw[hW.cell] at h1;have h2:=List.all_eq_true.1 hn _ (Array.mem_toList_iff.2 (Array.mem_of_getElem? h1))
  cases h2
 rw[World.cell?_setCell_other w _ _ u (fun e=>hne (congrArg Addr.block e).symm)];exact hc j hj
theorem WV.sep {i n:Nat}{z:Int}{s:Bool}{A:Option Addr}(h:WV w z s A n)(hW:ak t g cs w)(hn:cs.toList.all aJ=true)(u:Value):WV (w.setCell ⟨g,i,none⟩ u) z s A n:=by
 refine⟨h.1,h.2.1, ?_⟩;have h3:Rd w.heap.size .u16 w A (ln aj z.natAbs) (aB aj z.natAbs):=h.2.2;have h4:=h3.sep hW hn (i:=i) u;unfold aN
 rwa [World.size_setCell]
theorem WV.cJ {n:Nat}{z:Int}{s:Bool}{A:Option Addr}{x y:Value}(h:WV w z s A n)(hW:ak t g #[x,y] w)(hn: [x,y].all aJ=true)(a b:Value)(ha:aJ a=true):WV ((w.setCell ⟨g,0,none⟩ a).setCell ⟨g,1,none⟩ b) z s A n:=by
 refine(h.sep hW hn a).sep (hW.bW 0 a) ?_ b;simp only[List.all_cons,List.all_nil,Bool.and_true,Bool.and_eq_true] at hn;show(aJ a&&(aJ y&&true))=true;rw[ha,hn.2];rfl
theorem WV.aq {n:Nat}{z:Int}{s:Bool}{A:Option Addr}{x y u v:Value}(h:WV w z s A n)(hW:ak t g #[x,y,u,v] w)(hn: [x,y,u,v].all aJ=true)(a b c d:Value)(ha:aJ a=true)(hb:aJ b=true)(hc:aJ c=true):
  WV ((((w.setCell ⟨g,0,none⟩ a).setCell ⟨g,1,none⟩ b).setCell ⟨g,2,none⟩ c).setCell ⟨g,3,none⟩ d) z s A n:=by
 simp only[List.all_cons,List.all_nil,Bool.and_true,Bool.and_eq_true] at hn;obtain⟨h1,h2,h3,h4⟩:=hn;refine(((h.sep hW (by simp[h1,h2,h3,h4]) a).sep (hW.bW 0 a) ?_ b).sep ((hW.bW 0 a).bW 1 b) ?_ c).sep (((hW.bW 0 a).bW 1 b).bW 2 c) ?_ d
 ·
  show(aJ a&&(aJ y&&(aJ u&&(aJ v&&true))))=true;rw[ha,h2,h3,h4];rfl
 ·
  show(aJ a&&(aJ b&&(aJ u&&(aJ v&&true))))=true;rw[ha,hb,h3,h4];rfl
 ·
  show(aJ a&&(aJ b&&(aJ c&&(aJ v&&true))))=true;rw[ha,hb,hc,h4];rfl
end
end Go.Proofs.YtclbiihcbfnjmaaGreat
namespace Go.Proofs.YtclbiihcbfnjmaaGreat
open Go.RowKit

theorem cU (W:World)(o:Obj):Below W.heap.size W (W.alloc o):=(Below.refl _ W).alloc (Nat.le_refl _) o
end Go.Proofs.YtclbiihcbfnjmaaGreat
namespace Go.Proofs.YtclbiihcbfnjmaaGreat
open Go.RowKit

def FV (w:World)(q:Rat)(s:Bool)(A:Option Addr)(n:Nat)(t:Bool)(B:Option Addr)(m:Nat):Prop:=WV w q.num s A n/\WV w ((q.den:Nat):Int) t B m
theorem FV.below {w w':World}{q:Rat}{s t:Bool}{A B:Option Addr}{n m:Nat}(h:FV w q s A n t B m)(hb:Below w.heap.size w w'):FV w' q s A n t B m:=⟨h.1.below hb,h.2.below hb⟩
theorem FV.stable (q:Rat)(s:Bool)(A:Option Addr)(n:Nat)(t:Bool)(B:Option Addr)(m:Nat):bq (fun W=>FV W q s A n t B m):=fun _ _ hb h=>h.below hb
theorem FV.sep {w:World}{q:Rat}{s t:Bool}{A B:Option Addr}{n m g i:Nat}{T:TypeId}{cs:Array Value}(h:FV w q s A n t B m)(hW:ak T g cs w)(hn:cs.toList.all aJ=true)(u:Value):FV (w.setCell ⟨g,i,none⟩ u) q s A n t B m:=⟨h.1.sep hW hn u,h.2.sep hW hn u⟩
theorem FV.aq {w:World}{q:Rat}{s t:Bool}{A B:Option Addr}{n m g:Nat}{T:TypeId}{x y u v:Value}(h:FV w q s A n t B m)(hW:ak T g #[x,y,u,v] w)(hn: [x,y,u,v].all aJ=true)(a b c d:Value)(ha:aJ a=true)(hb:aJ b=true)(hc:aJ c=true):
  FV ((((w.setCell ⟨g,0,none⟩ a).setCell ⟨g,1,none⟩ b).setCell ⟨g,2,none⟩ c).setCell ⟨g,3,none⟩ d) q s A n t B m:=⟨h.1.aq hW hn a b c d ha hb hc,h.2.aq hW hn a b c d ha hb hc⟩
theorem Env.again {w W:World}(h:Below w.heap.size w W):Env w (fun _=>True) W:=⟨h,fun _ _ _ h=>h,trivial⟩
theorem Env.af {w W:World}{P:World->Prop}{g:Nat}{t:TypeId}{cs:Array Value}(h:Env w P W)(hb:ak t g cs W):Env w (fun V=>P V/\ak t g cs V) W:=h.and (ak.stable _ _ _) hb
theorem qK {w W:World}{g:Nat}(h:Below w.heap.size w W)(hg:w.heap.size<=g)(a b:Value):Below w.heap.size w ((W.setCell ⟨g,0,none⟩ a).setCell ⟨g,1,none⟩ b):=(h.setCell (p:=⟨g,0,none⟩) hg _).setCell (p:=⟨g,1,none⟩) hg _
theorem ck {w W:World}{g:Nat}(h:Below w.heap.size w W)(hg:w.heap.size<=g)(a b c d:Value):Below w.heap.size w ((((W.setCell ⟨g,0,none⟩ a).setCell ⟨g,1,none⟩ b).setCell ⟨g,2,none⟩ c).setCell ⟨g,3,none⟩ d):=((qK h hg a b).setCell (p:=⟨g,2,none⟩) hg _).setCell (p:=⟨g,3,none⟩) hg _
theorem FV.ln {w:World}{q:Rat}{s t:Bool}{A B:Option Addr}{n m k:Nat}(h:FV w q s A n t B m)(hq:fl q<=k):n<=k/\m<=k:=by
 have h1:=bV.1 hq;have h2:=h.1.len;have h3:=h.2.len;rw[Int.natAbs_natCast] at h3;omega
theorem Env.blk {w W:World}{P:World->Prop}{g:Nat}(h:Env w P W)(t:TypeId)(cs:Array Value)(hg:W.heap.size=g):Env w (fun V=>P V/\ak t g cs V) (W.alloc (.cells cs t)):=by
 subst hg;exact(h.alloc _).and (ak.stable _ _ _) (ak.new W t cs)
theorem Env.wv {w W:World}{P:World->Prop}{z:Int}{s:Bool}{A:Option Addr}{n:Nat}(h:Env w P W)(hv:WV W z s A n):Env w (fun V=>P V/\WV V z s A n) W:=h.and (WV.stable _ _ _ _) hv
theorem Env.fv {w W:World}{P:World->Prop}{q:Rat}{s t:Bool}{A B:Option Addr}{n m:Nat}(h:Env w P W)(hv:FV W q s A n t B m):Env w (fun V=>P V/\FV V q s A n t B m) W:=h.and (FV.stable _ _ _ _ _ _ _) hv
def WR (z:Int)(w:World)(e:Ending)(w':World):Prop:=∃s A n c,e= .returned (.agg #[.bool s,.slice A n c])/\WV w' z s A n/\Below w.heap.size w w'

theorem Hu {z:Int}{s:Bool}{A:Option Addr}{n c:Nat}{w:World}(ha:WV w z s A n)(hn:n<=1000000):
  Calls Tryz.prog 150 #[.agg #[.bool s,.slice A n c]] w fun e w'=>e= .returned (.bool (decide (z=1)))/\Below w.heap.size w w':=by
 have eP:Below w.heap.size w (w.alloc (.cells #[.bool s,.slice A n c] 27)):=(Below.refl _ _).alloc (Nat.le_refl _) _;obtain⟨hs,hl,hr⟩:=ha
 cases s with
 |true=>
  have hz:z<0:=of_decide_eq_true hs.symm;clear hs hl hr;have HE:=Lib.hid (decide_eq_false (show¬z=1 by omega))
  go_enter Tryz.func150,Tryz.ntmps150
  go_wp2_with fail
  go_ret
  exact⟨aS HE.out.symm,eP⟩
 |false=>
  have hz:¬z<0:=of_decide_eq_false hs.symm
  by_cases h1:n=1
  ·
   subst h1;obtain⟨b,o,rfl,hb,hc⟩:=hr (by omega);have c1:=hc 0 (by omega);rw[Nat.add_zero] at c1
   have hv:aB aj z.natAbs 0=z.natAbs:=by
    have h:=cL aD (x:=z.natAbs);rw[<-hl,aZ,jC] at h
    simpa using h
   rw[hv] at c1;have hlt:b<w.heap.size:=hb;clear hl hs hc hr hv;have c2:(w.alloc (.cells #[.bool false,.slice (some ⟨b,o,none⟩) 1 c] 27)).cell? ⟨b,o,none⟩=some (.int .u16 ((z.natAbs:Nat):Int)):=(World.cell?_alloc_lt w _ ⟨b,o,none⟩ hlt).trans c1
   by_cases h2:z=1
   ·
    have e1:=decide_eq_true h2;have t2:(((z.natAbs:Nat):Int)==1)=true:=beq_iff_eq.2 (by omega);have HE:=Lib.hid e1;clear e1 h2
    go_enter Tryz.func150,Tryz.ntmps150
    go_wp2_with fail
    go_ret
    exact⟨aS HE.out.symm,eP⟩
   ·
    have e1:=decide_eq_false h2;have t2:(((z.natAbs:Nat):Int)==1)=false:=beq_eq_false_iff_ne.2 (by omega);have HE:=Lib.hid e1;clear e1 h2
    go_enter Tryz.func150,Tryz.ntmps150
    go_wp2_with fail
    go_ret
    exact⟨aS HE.out.symm,eP⟩
  ·
   have vG:¬z=1:=fun e=>h1 (by rw[hl,e];decide)
   have e1:=decide_eq_false vG;have t1:((n:Int)==1)=false:=beq_eq_false_iff_ne.2 (by omega);have HE:=Lib.hid e1;clear e1 hl vG hs hr
   go_enter Tryz.func150,Tryz.ntmps150
   go_wp2_with fail
   go_ret
   exact⟨aS HE.out.symm,eP⟩
end Go.Proofs.YtclbiihcbfnjmaaGreat
namespace Go.Proofs.YtclbiihcbfnjmaaGreat
open Go.RowKit

theorem DR {f:Nat->Nat}{k V:Nat}(Oz:0<k)(hv:vs aj f k=V)(hx:f (k-1)=0):vs aj f (k-1)=V:=by
 have h1:=aZ aj f (k-1);rw[show k-1+1=k by omega,hv,hx] at h1;omega
theorem nK (B:Nat)(A:Option Addr)(n c:Nat)(f:Nat->Nat)(w:World)(h:Rd B .u16 w A n f)(hf:∀i,i<n->f i<65536)(hc:n<=c)(hn:n<=100000000):
  Calls Tryz.prog 177 #[.slice A n c] w fun e w'=>e= .returned (.slice A (ln aj (vs aj f n)) c)/\w=w':=by
 have HF:=Lib.hid hf;clear hf
 go_enter Tryz.func177,Tryz.ntmps177
 go_wp2_with fail
 go_loopw [3] (fun v wr=>∃k:Nat,k<=n/\v= .int .i64 (k:Int)/\Hid (vs aj f k=vs aj f n)/\wr=w) (fun v _=>(intOf v).toNat)
 case atStart=>exact⟨n,Nat.le_refl _,rfl,Lib.hid rfl,rfl⟩
 case round=>
  obtain⟨k,hk,rfl,HV,rfl⟩:=hrel
  rcases Nat.eq_zero_or_pos k with rfl|Oz
  ·
   go_wp2_with fail
   go_ret
   exact⟨ko (by rw[<-HV.out,jC,cF]),rfl⟩
  ·
   obtain⟨b,o,rfl,hb,hcell⟩:=h (by omega);have hx:=hcell (k-1) (by omega)
   have t0:(0:Int)<(k:Int):=by omega
   have e1:(k:Int)-1=((k-1:Nat):Int):=by omega
   have e2:((k:Int)-1).toNat=k-1:=by omega
   have i1:(0:Int)<=(k:Int)-1:=by omega
   have i2:(k:Int)-1<(n:Int):=by omega
   have i3:(k:Int)<=(c:Int):=by omega
   clear hcell
   by_cases h0:f (k-1)=0
   ·
    have t1:(((f (k-1):Nat):Int)==0)=true:=by rw[h0];rfl
    have HN:=Lib.hid (DR Oz HV.out h0);clear h0;go_wp2_with fail
    go_roundw
    case rel=>exact⟨k-1,by omega,rfl,HN,by first|trivial|rfl⟩
    case measure=>simp[intOf];omega
   ·
    have t1:(((f (k-1):Nat):Int)==0)=false:=beq_eq_false_iff_ne.2 (by omega);have H0:=Lib.hid h0;clear h0;go_wp2_with fail
    go_ret
    exact⟨ko (by rw[<-HV.out,Oq aD (fun j hj=>HF.out j (by omega)) (.inr H0.out)]),rfl⟩
def mO (a b:Nat)(w:World)(e:Ending)(w':World):Prop:=e= .returned (.bool (decide (a<b)))/\∃n,w'=w.drewN n

theorem Kg (A B:Option Addr)(n m c d:Nat)(w:World)(h:n≠m):
  Calls Tryz.prog 164 #[.slice A n c,.slice B m d] w fun e w'=>e= .returned (.bool (decide (n<m)))/\w=w':=by
 rcases Nat.lt_or_gt_of_ne h with h1|h1
 ·
  have k1:((n:Int) !=m)=true:=by simp;omega
  have k2:decide ((n:Int)<(m:Int))=true:=decide_eq_true (by omega);have k3:=Lib.hid (decide_eq_true h1)
  go_enter Tryz.func164,Tryz.ntmps164
  go_wp2
  go_ret
  first|exact⟨aS k3.out.symm,rfl⟩|exact⟨rfl,rfl⟩
 ·
  have k1:((n:Int) !=m)=true:=by simp;omega
  have k2:decide ((n:Int)<(m:Int))=false:=decide_eq_false (by omega);have k3:=Lib.hid (decide_eq_false (show¬n<m by omega))
  go_enter Tryz.func164,Tryz.ntmps164
  go_wp2
  go_ret
  first|exact⟨aS k3.out.symm,rfl⟩|exact⟨rfl,rfl⟩

theorem FG (A B:Option Addr)(n c d a b:Nat)(w:World)(ha:Rd w.heap.size .u16 w A n (aB aj a))(hb:Rd w.heap.size .u16 w B n (aB aj b))(hn:n<=100000000)(la:a<aj^n)(lb:b<aj^n):
  Calls Tryz.prog 164 #[.slice A n c,.slice B n d] w (mO a b w):=by
 have LA:=Lib.hid la;have LB:=Lib.hid lb;clear la lb
 have hcell:∀j,j<n->∃p q p' q',A=some ⟨p,q,none⟩/\B=some ⟨p',q',none⟩/\(w.cell? ⟨p,q+j,none⟩=some (.int .u16 (aB aj a j:Int)))/\(w.cell? ⟨p',q'+j,none⟩=some (.int .u16 (aB aj b j:Int))):=fun j hj=>by
  obtain⟨p,q,e,_,h1⟩:=ha (by omega);obtain⟨p',q',e',_,h2⟩:=hb (by omega);exact⟨p,q,p',q',e,e',h1 j hj,h2 j hj⟩
 have HC:=Lib.hid hcell;clear ha hb hcell
 go_enter Tryz.func164,Tryz.ntmps164
 go_wp2
 go_loopw [5] (fun i wr=>∃k:Nat,k<=n/\i= .int .i64 ((k:Int)-1)/\(∀j,k<=j->j<n->aB aj a j=aB aj b j)/\∃m,wr=w.drewN m) (fun i _=>(intOf i+1).toNat)
 case atStart=>exact⟨n,Nat.le_refl _,rfl,fun j h1 h2=>absurd h2 (by omega),0,rfl⟩
 case round=>
  obtain⟨k,hk,rfl,he,m,rfl⟩:=hrel;have HE:=Lib.hid he;clear he
  rcases Nat.eq_zero_or_pos k with rfl|Oz
  ·
   go_wp2
   go_ret
   exact⟨aS (decide_eq_false (show¬a<b from fun hh=>by have:=wF LA.out LB.out fun j hj=>HE.out j (by omega) hj;omega)).symm,m,rfl⟩
  ·
   obtain⟨p,q,p',q',rfl,rfl,h1,h2⟩:=HC.out (k-1) (by omega)
   have ek:((k:Int)-1).toNat=k-1:=by omega
   rcases Nat.lt_trichotomy (aB aj a (k-1)) (aB aj b (k-1)) with hlt|heq|hgt
   ·
    have t1:(((aB aj a (k-1):Nat):Int) !=((aB aj b (k-1):Nat):Int))=true:=by simp;omega
    have t2:((aB aj a (k-1):Nat):Int)<((aB aj b (k-1):Nat):Int):=by omega
    have t3:=Lib.hid (decide_eq_true (nA aD LA.out LB.out (by omega) (fun j h1 h2=>HE.out j (by omega) h2) hlt))
    go_wp2
    go_quiet (fail)
    go_wp2
    go_quiet (fail)
    go_wp2
    go_ret
    first|exact⟨aS t3.out.symm,_,by rw[World.drewN_drewN,World.drewN_drewN]⟩|exact⟨aS (by rw[t3.out];first|exact decide_eq_false (by omega)|exact decide_eq_true (by omega)),_,by rw[World.drewN_drewN,World.drewN_drewN]⟩
   ·
    have t1:(((aB aj a (k-1):Nat):Int) !=((aB aj b (k-1):Nat):Int))=false:=by simp;omega
    go_wp2
    go_quiet (fail)
    go_wp2
    go_roundw
    case rel=>
     refine⟨k-1,by omega,by go_num,fun j h1 h2=> ?_,_,rfl⟩
     by_cases e:j=k-1
     ·rw[e];exact heq
     ·exact HE.out j (by omega) h2
    case measure=>simp[intOf];omega
   ·
    have t1:(((aB aj a (k-1):Nat):Int) !=((aB aj b (k-1):Nat):Int))=true:=by simp;omega
    have t2:¬((aB aj a (k-1):Nat):Int)<((aB aj b (k-1):Nat):Int):=by omega
    have t3:=Lib.hid (decide_eq_false (Nat.lt_asymm (nA aD LB.out LA.out (by omega) (fun j h1 h2=>(HE.out j (by omega) h2).symm) hgt)))
    go_wp2
    go_quiet (fail)
    go_wp2
    go_quiet (fail)
    go_wp2
    go_ret
    first|exact⟨aS t3.out.symm,_,by rw[World.drewN_drewN,World.drewN_drewN]⟩|exact⟨aS (by rw[t3.out];first|exact decide_eq_false (by omega)|exact decide_eq_true (by omega)),_,by rw[World.drewN_drewN,World.drewN_drewN]⟩
theorem qX (A B:Option Addr)(c d a b:Nat)(w:World)(ha:aN w A a)(hb:aN w B b)(la:ln aj a<=100000000):
  Calls Tryz.prog 164 #[.slice A (ln aj a) c,.slice B (ln aj b) d] w (mO a b w):=by
 by_cases h:ln aj a=ln aj b
 ·
  unfold aN at ha hb;have h1:=aW aD a;have h2:=aW aD b;rw[<-h] at hb h2⊢;exact FG A B _ c d a b w ha hb la h1 h2
 ·
  refine(Kg A B _ _ c d w h).mono fun e w' ⟨he,hw⟩=>⟨?_,0,hw.symm⟩
  rw[he]
  rcases Nat.lt_or_gt_of_ne h with h1|h1
  ·
   have:a<b:=Nat.lt_of_not_le fun hle=>by have:=bO aD hle;omega
   rw[decide_eq_true h1,decide_eq_true this]
  ·
   have:b<a:=Nat.lt_of_not_le fun hle=>by have:=bO aD hle;omega
   rw[decide_eq_false (show¬ln aj a<ln aj b by omega),decide_eq_false (show¬a<b by omega)]
end Go.Proofs.YtclbiihcbfnjmaaGreat
namespace Go.Proofs.YtclbiihcbfnjmaaGreat
open Go.RowKit

theorem aN.rJ {w:World}{A:Option Addr}{n:Nat}{f:Nat->Nat}(h:Rd w.heap.size .u16 w A n f)(hf:∀i,i<n->f i<65536):aN w A (vs aj f n):=by
 have hl:ln aj (vs aj f n)<=n:=(bf aD).2 (jD hf)
 exact(h.shorter hl).congr fun i hi=>(yR hf (by omega)).symm

end Go.Proofs.YtclbiihcbfnjmaaGreat
namespace Go.Proofs.YtclbiihcbfnjmaaGreat
open Go.RowKit

def lM (x d k j:Nat):Nat:=if k<=j then aB aj (x/d) j else 0
theorem pX (x d k j:Nat):lM x d k j<65536:=by unfold lM;split;exact bh ..;decide
theorem rX {n:Nat}(x d:Nat)(h:x<aj^n):vs aj (lM x d 0) n=x/d:=by
 rw[ei (g:=aB aj (x/d)) fun j _=>by simp[lM]];exact bM (Nat.lt_of_le_of_lt (Nat.div_le_self ..) h)
theorem Kh (x k:Nat):x/aj^(k+1)%131072%2*65536+aB aj x k=x/aj^k%131072/\x/aj^k%131072/2=aB aj (x/2) k:=by
 have e1:x/aj^k=65536*(x/aj^(k+1))+aB aj x k:=by
  rw[aB,Nat.pow_succ,<-Nat.div_div_eq_div_mul];exact(Nat.div_add_mod _ _).symm
 have e2:aB aj (x/2) k=x/aj^k/2%65536:=by
  rw[aB,Nat.div_div_eq_div_mul,Nat.div_div_eq_div_mul,Nat.mul_comm];rfl
 have h1:=bh x k;rw[e2]
 generalize x/aj^k=a at*
 generalize x/aj^(k+1)=b at*
 generalize aB aj x k=c at*
 omega

theorem Ki (A:Option Addr)(c x:Nat)(w:World)(hx:aN w A x)(hn:ln aj x<=2000000):
  Calls Tryz.prog 176 #[.slice A (ln aj x) c] w fun e w'=>∃A' c',e= .returned (.slice A' (ln aj (x/2)) c')/\aN w' A' (x/2)/\(∀p,A'=some p->w.heap.size<=p.block)/\Below w.heap.size w w':=by
 have hmk:=aaD (ln aj x) (ln aj x) (Nat.le_refl _) (by omega);have HN:=Lib.hid (rX x 2 (aW aD x));have HL:=Lib.hid (aW aD x)
 go_enter Tryz.func176,Tryz.ntmps176
 go_wp2_with fail
 clear hmk
 go_loopw [4,5] (fun r i wr=>∃k:Nat,k<=ln aj x/\i= .int .i64 ((k:Int)-1)/\r= .int .i64 ((x/aj^k%131072:Nat):Int)/\Row wr w.heap.size 108 .u16 (ln aj x) (ln aj x) (lM x 2 k)/\Below w.heap.size w wr) (fun _ i _=>(intOf i+1).toNat)
 case atStart=>exact⟨ln aj x,Nat.le_refl _,rfl,by rw[Nat.div_eq_of_lt HL.out];rfl,Row.made.congr fun j hj=>by simp only[lM];rw[if_neg (by omega)],(Below.refl _ _).alloc (Nat.le_refl _) _⟩
 case round=>
  obtain⟨k,hk,rfl,rfl,hrow,aV⟩:=hrel
  rcases Nat.eq_zero_or_pos k with rfl|Oz
  ·
   have ht:=nK wr.heap.size (some ⟨w.heap.size,0,none⟩) (ln aj x) (ln aj x) _ wr (hrow.rd (Nat.le_refl _) hrow.lt) (fun i _=>pX ..) (Nat.le_refl _) (by omega);have iw:=aN.rJ (hrow.rd (Nat.le_refl _) hrow.lt) (fun i _=>pX ..);rw[HN.out] at ht iw;have HT:=Lib.hid ht;have abF:=Lib.hid iw;clear ht iw;go_wp2_with fail
   refine HT.out.mono ?_
   rintro e w3 ⟨rfl,rfl⟩
   go_wp2_with fail
   go_ret
   exact⟨_,_,rfl,abF.out,fun p hp=>by injection hp with hp;rw[<-hp];exact Nat.le_refl _,aV⟩
  ·
   obtain⟨j,rfl⟩:∃j,k=j+1:=⟨k-1,by omega⟩
   have ej:(((j+1:Nat):Int)-1)=(j:Int):=by omega
   rw[ej];obtain⟨b,o,rfl,hb,hca⟩:=hx (by omega);have c0:=(aV.cell (p:=⟨b,o+j,none⟩) hb).trans (hca j (by omega));have c1:=hrow.cell (i:=j) (by omega);have c2:=hrow.frozen j;have hl:=bh x j;have hq:=bh (x/2) j;obtain⟨s1,s2⟩:=Kh x j
   obtain⟨N,hN⟩:∃N,N=x/aj^(j+1)%131072:=⟨_,rfl⟩
   obtain⟨M,hM⟩:∃M,M=x/aj^j%131072:=⟨_,rfl⟩
   rw[<-hN,<-hM] at s1;rw[<-hM] at s2;rw[<-hN]
   obtain⟨P,hP⟩:∃P,P=N%2:=⟨_,rfl⟩
   have hPl:P<=1:=by omega
   have hNl:N<131072:=by omega
   have r1:(N:Int).tmod 2=(P:Int):=by rw[Int.tmod_eq_emod_of_nonneg (by omega)];omega
   have o1:IntKind.i64.wrap ((P:Int)*65536)=(P:Int)*65536:=by rw[IntKind.wrap_i64];omega
   have o2:IntKind.i64.wrap ((aB aj x j:Nat):Int)=((aB aj x j:Nat):Int):=by rw[IntKind.wrap_i64];omega
   have o3:IntKind.i64.wrap ((P:Int)*65536+((aB aj x j:Nat):Int))=(M:Int):=by rw[IntKind.wrap_i64];omega
   have r2:(M:Int).tdiv 2=((aB aj (x/2) j:Nat):Int):=by rw[Int.tdiv_eq_ediv_of_nonneg (by omega)];omega
   have o4:IntKind.u16.wrap ((aB aj (x/2) j:Nat):Int)=((aB aj (x/2) j:Nat):Int):=by rw[IntKind.wrap_u16];omega
   have i1:(j:Int)<((ln aj x:Nat):Int):=by omega
   have HM:=Lib.hid hM;clear s1 s2 hN hM hP hca;go_wp2_with fail
   go_roundw
   case rel=>exact⟨j,by omega,by go_num,by rw[HM.out],hrow.set (by simp[lM]) fun q _ hq=>by simp only[lM,show j<=q↔j+1<=q by omega],aV.setCell (Nat.le_refl _) _⟩
   case measure=>simp[intOf]
end Go.Proofs.YtclbiihcbfnjmaaGreat
/-! The walk of the reference's short. -/
namespace Go.Proofs.YtclbiihcbfnjmaaGreat
open Go.RowKit

theorem Kj {x d:Nat}(hd:0<d)(p9:d<=65535):vs aj (fun _=>x%d) 1=x%d/\∀j,j<1->x%d<65536:=by
 have h1:=Nat.mod_lt x hd;refine⟨?_,fun _ _=>by omega⟩;rw[aZ,jC]
 simp
def aor (x y:Nat)(w:World)(e:Ending)(w':World):Prop:=
 ∃A c B d,e= .returned (.tuple #[.slice A (ln aj (x/y)) c,.slice B (ln aj (x%y)) d])/\aN w' A (x/y)/\aN w' B (x%y)/\(∀p,A=some p->w.heap.size<=p.block)/\(∀p,B=some p->w.heap.size<=p.block)/\Below w.heap.size w w'
theorem FI (A:Option Addr)(c x d:Nat)(w:World)(hx:aN w A x)(hd:0<d)(p9:d<=65535)(hn:ln aj x<=2000000):
  Calls Tryz.prog 175 #[.slice A (ln aj x) c,.int .i64 (d:Int)] w (aor x d w):=by
 have hmk:=aaD (ln aj x) (ln aj x) (Nat.le_refl _) (by omega);have HN:=Lib.hid (rX x d (aW aD x));have HL:=Lib.hid (aW aD x);have hn0:((d:Int)==0)=false:=beq_eq_false_iff_ne.2 (by omega)
 have ox:¬(d:Int)=0:=by omega
 go_enter Tryz.func175,Tryz.ntmps175
 go_wp2_with fail
 clear hmk
 go_loopw [7,8] (fun r i wr=>∃k:Nat,k<=ln aj x/\i= .int .i64 ((k:Int)-1)/\r= .int .i64 ((x/aj^k%d:Nat):Int)/\Row wr w.heap.size 108 .u16 (ln aj x) (ln aj x) (lM x d k)/\Below w.heap.size w wr) (fun _ i _=>(intOf i+1).toNat)
 case atStart=>exact⟨ln aj x,Nat.le_refl _,rfl,by rw[Nat.div_eq_of_lt HL.out];simp,Row.made.congr fun j hj=>by simp only[lM];rw[if_neg (by omega)],(Below.refl _ _).alloc (Nat.le_refl _) _⟩
 case round=>
  obtain⟨k,hk,rfl,rfl,hrow,aV⟩:=hrel
  rcases Nat.eq_zero_or_pos k with rfl|Oz
  ·
   have ht:=nK wr.heap.size (some ⟨w.heap.size,0,none⟩) (ln aj x) (ln aj x) _ wr (hrow.rd (Nat.le_refl _) hrow.lt) (fun i _=>pX ..) (Nat.le_refl _) (by omega);have iw:=aN.rJ (hrow.rd (Nat.le_refl _) hrow.lt) (fun i _=>pX ..);rw[HN.out] at ht iw;have HT:=Lib.hid ht;have abF:=Lib.hid iw;have hs1:=Kj (x:=x) hd p9
   obtain⟨R,hR⟩:∃R,R=x%d:=⟨_,rfl⟩
   rw[<-hR] at hs1
   have vD:R<65536:=by rw[hR];have:=Nat.mod_lt x hd;omega
   rw[Nat.pow_zero,Nat.div_one,<-hR]
   have o1:IntKind.u16.wrap (R:Int)=(R:Int):=by rw[IntKind.wrap_u16];omega
   have HS:=Lib.hid hs1;have HR:=Lib.hid hR;clear ht iw hs1 hR;have hcell:=heap_alloc_new wr (.cells #[.int .u16 (R:Int)] 108)
   have Jo:Rd (wr.heap.size+1) .u16 (wr.alloc (.cells #[.int .u16 (R:Int)] 108)) (some ⟨wr.heap.size,0,none⟩) 1 (fun _=>R):=fun _=>⟨_,0,rfl,Nat.lt_succ_self _,fun i hi=>by
    obtain rfl:i=0:=by omega
    exact(cell_of_row _ _ 0 _ _ (0,0) hcell).trans rfl⟩
   have ja:=nK (wr.heap.size+1) (some ⟨wr.heap.size,0,none⟩) 1 1 (fun _=>R) _ Jo (fun _ _=>vD) (Nat.le_refl _) (by omega);have DE:=aN.rJ (w:=wr.alloc (.cells #[.int .u16 (R:Int)] 108)) (by rw[World.size_alloc];exact Jo) (fun _ _=>vD);rw[HS.out.1] at ja DE;have HT2:=Lib.hid ja;have HN2:=Lib.hid DE;clear hcell Jo ja DE;go_wp2_with fail
   refine HT.out.mono ?_
   rintro e w3 ⟨rfl,rfl⟩
   go_wp2_with fail
   refine HT2.out.mono ?_
   rintro e w3 ⟨rfl,rfl⟩
   go_wp2_with fail
   go_ret2
   have hba:=(Below.refl wr.heap.size wr).alloc (Nat.le_refl _) (.cells #[.int .u16 (R:Int)] 108);rw[HR.out] at HN2 hba⊢;exact⟨_,_,_,_,rfl,aN.below abF.out hba,HN2.out,fun p hp=>by injection hp with hp;rw[<-hp];exact Nat.le_refl _,fun p hp=>by injection hp with hp;rw[<-hp];exact aV.size,aV.trans (hba.mono aV.size)⟩
  ·
   obtain⟨j,rfl⟩:∃j,k=j+1:=⟨k-1,by omega⟩
   have ej:(((j+1:Nat):Int)-1)=(j:Int):=by omega
   rw[ej];obtain⟨b,o,rfl,hb,hca⟩:=hx (by omega);have c0:=(aV.cell (p:=⟨b,o+j,none⟩) hb).trans (hca j (by omega));have c1:=hrow.cell (i:=j) (by omega);have c2:=hrow.frozen j;have hl:=bh x j;have hq:=bh (x/d) j;obtain⟨s1,s2⟩:=oD (B:=aj) (x:=x) (k:=j) hd;have hNl:=Nat.mod_lt (x/aj^(j+1)) hd
   obtain⟨N,hN⟩:∃N,N=x/aj^(j+1)%d:=⟨_,rfl⟩
   rw[<-hN] at s1 s2 hNl;rw[<-hN]
   obtain⟨M,hM⟩:∃M,M=aj*N+aB aj x j:=⟨_,rfl⟩
   rw[<-hM] at s1 s2
   have hMv:M=N*65536+aB aj x j:=by rw[hM,Nat.mul_comm];rfl
   have hMd:M/d<65536:=by rw[Nat.div_lt_iff_lt_mul hd];(have:(N+1)*65536<=d*65536:=Nat.mul_le_mul_right _ hNl);omega
   rw[Nat.mod_eq_of_lt (show M/d<aj from hMd)] at s1
   have o1:IntKind.i64.wrap ((N:Int)*65536)=(N:Int)*65536:=by rw[IntKind.wrap_i64];omega
   have o2:IntKind.i64.wrap ((aB aj x j:Nat):Int)=((aB aj x j:Nat):Int):=by rw[IntKind.wrap_i64];omega
   have o3:IntKind.i64.wrap ((N:Int)*65536+((aB aj x j:Nat):Int))=(M:Int):=by rw[IntKind.wrap_i64];omega
   have r1:(M:Int).tdiv (d:Int)=((aB aj (x/d) j:Nat):Int):=by rw[Int.tdiv_eq_ediv_of_nonneg (by omega),<-s1];exact(Int.natCast_ediv M d).symm
   have r2:(M:Int).tmod (d:Int)=((x/aj^j%d:Nat):Int):=by rw[Int.tmod_eq_emod_of_nonneg (by omega),<-s2];exact(Int.natCast_emod M d).symm
   have o4:IntKind.u16.wrap ((aB aj (x/d) j:Nat):Int)=((aB aj (x/d) j:Nat):Int):=by rw[IntKind.wrap_u16];omega
   have i1:(j:Int)<((ln aj x:Nat):Int):=by omega
   clear s1 s2 hN hM hMv hMd hca HN HL;go_wp2_with fail
   go_roundw
   case rel=>exact⟨j,by omega,by go_num,rfl,hrow.set (by simp[lM]) fun q _ hq=>by simp only[lM,show j<=q↔j+1<=q by omega],aV.setCell (Nat.le_refl _) _⟩
   case measure=>simp[intOf]
end Go.Proofs.YtclbiihcbfnjmaaGreat
namespace Go.Proofs.YtclbiihcbfnjmaaGreat
open Go.RowKit

theorem Vv {x e:Nat}(he:0<e):(x/e=2*(x/(e*2))+(if x%(e*2)<e then 0 else 1))/\x%e=(if x%(e*2)<e then x%(e*2) else x%(e*2)-e):=by
 have h1:x/(e*2)=x/e/2:=(Nat.div_div_eq_div_mul x e 2).symm;have h2:x%(e*2)=x%e+e*(x/e%2):=Nat.mod_mul;have h3:=Nat.mod_lt x he;rw[h1,h2]
 generalize x/e=q at*
 generalize x%e=r at*
 rcases(show q%2=0\/q%2=1 by omega) with h|h
 ·rw[h,Nat.mul_zero,Nat.add_zero,if_pos h3,if_pos h3];omega
 ·rw[h,Nat.mul_one,if_neg (by omega),if_neg (by omega)];omega
theorem gH (y k:Nat):y*2^k+y*2^k=y*2^(k+1):=by rw[Nat.pow_succ,<-Nat.mul_assoc];omega
theorem zF (y k:Nat):y*2^(k+1)/2=y*2^k:=by rw[<-gH];omega
theorem FJ (k:Nat):k<2^k:=Nat.lt_two_pow_self
theorem vE {x y k:Nat}(hy:0<y)(h:∀i,i<k->y*2^i<=x):k<=16*ln aj x:=by
 rcases Nat.eq_zero_or_pos k with h0|h0
 ·omega
 ·
  have h1:=h (k-1) (by omega);have h2:2^(k-1)<=x:=Nat.le_trans (Nat.le_mul_of_pos_left _ hy) h1
  have h3:x<2^(16*ln aj x):=by
   have:=aW aD x
   rwa [show aj=2^16 from rfl,<-Nat.pow_mul] at this
  have h4:=(Nat.pow_lt_pow_iff_right (by decide:1<2)).1 (Nat.lt_of_le_of_lt h2 h3);omega
theorem qY {x y k:Nat}(hy:0<y)(h:y*2^k<=x):k<x:=by
 have h1:=FJ k;have h2:2^k<=y*2^k:=Nat.le_mul_of_pos_left _ hy;omega
def Ra (x y n:Nat):Prop:=∀i,i<n->y*2^i<=x
theorem Ra.succ {x y n:Nat}(h:Ra x y n)(h1:¬x<y*2^n):Ra x y (n+1):=fun i hi=>by
 rcases Nat.lt_or_ge i n with h2|h2
 ·exact h i h2
 ·
  obtain rfl:i=n:=by omega
  omega
theorem Ra.ln {x y n i:Nat}(h:Ra x y n)(hi:i<n):ln aj (y*2^i)<=ln aj x:=bO aD (h i hi)
theorem Ra.ln2 {x y n i B:Nat}(h:Ra x y n)(hi:i<=n)(hx:Go.Proofs.YtclbiihcbfnjmaaGreat.ln aj x<=B)(hy:Go.Proofs.YtclbiihcbfnjmaaGreat.ln aj y<=B):Go.Proofs.YtclbiihcbfnjmaaGreat.ln aj (y*2^i)<=B+1:=by
 rcases Nat.eq_zero_or_pos i with h0|h0
 ·
  subst h0;rw[Nat.pow_zero,Nat.mul_one];omega
 ·
  have h1:=h.ln (i:=i-1) (by omega);have h2:=qS (B:=aj) aD (m:=B) (x:=y*2^(i-1)) (y:=y*2^(i-1)) (by omega) (by omega);rw[gH,show i-1+1=i by omega] at h2;exact h2
theorem Qp {x y n:Nat}(h:x<y*2^n):x/(y*2^n)=0/\x%(y*2^n)=x:=⟨Nat.div_eq_of_lt h,Nat.mod_eq_of_lt h⟩
end Go.Proofs.YtclbiihcbfnjmaaGreat
namespace Go.Proofs.YtclbiihcbfnjmaaGreat
open Go.RowKit

end Go.Proofs.YtclbiihcbfnjmaaGreat
namespace Go.Proofs.YtclbiihcbfnjmaaGreat
open Go.RowKit

end Go.Proofs.YtclbiihcbfnjmaaGreat
namespace Go.Proofs.YtclbiihcbfnjmaaGreat
open Go.RowKit

def cr (x y k:Nat):Nat:=(x%aj^k+y%aj^k)/aj^k
theorem Vw (x y:Nat):cr x y 0=0:=by simp[cr,Nat.mod_one]
theorem XD (x y k:Nat):cr x y k<=1:=by
 have hp:0<aj^k:=Nat.pow_pos (by decide);have h1:=Nat.mod_lt x hp;have h2:=Nat.mod_lt y hp;have:cr x y k<2:=(Nat.div_lt_iff_lt_mul hp).2 (by omega);omega
theorem Vx (x y k:Nat):cr x y (k+1)=(cr x y k+aB aj x k+aB aj y k)/65536/\aB aj (x+y) k=(cr x y k+aB aj x k+aB aj y k)%65536:=by
 have hp:0<aj^k:=Nat.pow_pos (by decide);have e1:=Nat.div_add_mod x (aj^k);have e2:=Nat.div_add_mod y (aj^k)
 constructor
 ·
  unfold cr aB;rw[Nat.pow_succ,Nat.mod_mul,Nat.mod_mul,<-Nat.div_div_eq_div_mul];rw[show x%aj^k+aj^k*(x/aj^k%aj)+(y%aj^k+aj^k*(y/aj^k%aj))=(x%aj^k+y%aj^k)+aj^k*(x/aj^k%aj+y/aj^k%aj) by rw[Nat.mul_add];omega];rw[Nat.add_mul_div_left _ _ hp,<-Nat.add_assoc];rfl
 ·
  unfold cr aB
  have h3:(x+y)/aj^k=(x%aj^k+y%aj^k)/aj^k+(x/aj^k+y/aj^k):=by
   conv=>lhs;rw[<-e1,<-e2]
   rw[show aj^k*(x/aj^k)+x%aj^k+(aj^k*(y/aj^k)+y%aj^k)=(x%aj^k+y%aj^k)+aj^k*(x/aj^k+y/aj^k) by rw[Nat.mul_add];omega];rw[Nat.add_mul_div_left _ _ hp]
  rw[h3];show((x%aj^k+y%aj^k)/aj^k+(x/aj^k+y/aj^k))%65536=((x%aj^k+y%aj^k)/aj^k+x/aj^k%65536+y/aj^k%65536)%65536;omega
theorem Vy {x k:Nat}(h:aj^k<=x):k<ln aj x:=by
 rcases Nat.lt_or_ge k (ln aj x) with h1|h1
 ·exact h1
 ·have:=(bf aD).1 h1;omega
theorem Kk {x y k:Nat}(h:k<ln aj x\/k<ln aj y\/0<cr x y k):k<ln aj (x+y):=by
 rcases h with h|h|h
 ·exact Nat.lt_of_lt_of_le h (bO aD (by omega))
 ·exact Nat.lt_of_lt_of_le h (bO aD (by omega))
 ·
  refine Vy ?_;have h1:aj^k<=x%aj^k+y%aj^k:=(Nat.div_pos_iff.1 h).2;have h2:=Nat.mod_le x (aj^k);have h3:=Nat.mod_le y (aj^k);omega
theorem Qq {x y k:Nat}(h1:ln aj x<=k)(h2:ln aj y<=k)(h3:cr x y k=0):ln aj (x+y)<=k:=by
 have hp:0<aj^k:=Nat.pow_pos (by decide);have e1:=(bf aD).1 h1;have e2:=(bf aD).1 h2;refine(bf aD).2 ?_;unfold cr at h3;rw[Nat.mod_eq_of_lt e1,Nat.mod_eq_of_lt e2] at h3;have:=Nat.lt_of_div_eq_zero hp h3;omega
theorem uR {x k:Nat}(h:ln aj x<=k):aB aj x k=0:=bQ ((bf aD).1 h)

theorem Kl (A B:Option Addr)(c d x y:Nat)(w:World)(hA:aN w A x)(hB:aN w B y)(la:ln aj x<=1000000)(lb:ln aj y<=1000000):
  Calls Tryz.prog 163 #[.slice A (ln aj x) c,.slice B (ln aj y) d] w fun e w'=>∃A' c',e= .returned (.slice A' (ln aj (x+y)) c')/\cO w.heap.size w' A' (ln aj (x+y)) c' (aB aj (x+y))/\Below w.heap.size w w':=by
 have HA:=Lib.hid hA;have HB:=Lib.hid hB;have hls:ln aj (x+y)<=1000001:=qS aD la lb;clear hA hB;obtain⟨i0,hi,IC,vG,Oy⟩:=info_parts kq
 go_enter Tryz.func163,Tryz.ntmps163
 go_wp2_with fail
 go_loopw [5,6,7] (fun v u i wr=>∃k,i= .int .i64 ((k:Nat):Int)/\u= .int .i64 ((cr x y k:Nat):Int)/\k<=ln aj (x+y)/\Hid (zz v=k)/\wr.ownsRow w.heap.size 108 1 v k (eZ .u16 k (aB aj (x+y)))/\Below w.heap.size w wr) (fun v _ _ _=>ln aj (x+y)-zz v)
 case atStart=>exact⟨0,rfl,by rw[Vw];rfl,Nat.zero_le _,Lib.hid rfl,World.ownsRow_nil ..,Below.refl _ _⟩
 case round=>
  obtain⟨k,rfl,rfl,hk,hlv,hown,eP⟩:=hrel;have hcr:=XD x y k
  by_cases hc:k<ln aj x\/k<ln aj y\/0<cr x y k
  ·
   have hk9:=Kk hc;have hcs:=Vx x y k;have HC:=Lib.hid hcs;have HK:=Lib.hid hk9
   obtain⟨q,hq⟩:∃q,q=cr x y k:=⟨_,rfl⟩
   rw[<-hq] at hc hcr⊢;have HQ:=Lib.hid hq;have hdx:=bh x k;have hdy:=bh y k;clear hcs hk9 hq
   go_upto_region 4 with(fail)
   go_cut [21] from 8 to 21 (fun v wx=>v= .bool true/\wx=wr)
   case first=>
    rcases Nat.lt_or_ge k (ln aj x) with h1|h1
    ·
     have t1:decide ((k:Int)<((ln aj x:Nat):Int))=true:=decide_eq_true (by omega);go_wp2_with fail
     go_meet
     exact⟨rfl,rfl⟩
    ·
     have t1:decide ((k:Int)<((ln aj x:Nat):Int))=false:=decide_eq_false (by omega)
     rcases Nat.lt_or_ge k (ln aj y) with h2|h2
     ·
      have t2:decide ((k:Int)<((ln aj y:Nat):Int))=true:=decide_eq_true (by omega);go_wp2_with fail
      go_meet
      exact⟨rfl,rfl⟩
     ·
      have t2:decide ((k:Int)<((ln aj y:Nat):Int))=false:=decide_eq_false (by omega)
      have t3:0<q:=by omega
      go_wp2_with fail
      go_meet
      exact⟨rfl,rfl⟩
   case rest=>
   obtain⟨rfl,rfl⟩:=hcut
   go_upto_if 27 with(fail)
   go_cut [6] from 27 to 34 (fun v wx=>v= .int .i64 ((q+aB aj x k:Nat):Int)/\wx=wc)
   case first=>
    rcases Nat.lt_or_ge k (ln aj x) with h1|h1
    ·
     obtain⟨p,o,rfl,hp,hca⟩:=(aN.below HA.out eP) (by omega);have c1:=hca k h1;have t1:decide ((k:Int)<((ln aj x:Nat):Int))=true:=decide_eq_true (by omega)
     have t2:(k:Int)<((ln aj x:Nat):Int):=by omega
     have o1:IntKind.i64.wrap ((aB aj x k:Nat):Int)=((aB aj x k:Nat):Int):=by rw[IntKind.wrap_i64];omega
     clear hca;go_wp2_with fail
     go_meet
     exact⟨by first|rfl|(congr 1;omega),rfl⟩
    ·
     have t1:decide ((k:Int)<((ln aj x:Nat):Int))=false:=decide_eq_false (by omega);have HZ:=Lib.hid (uR h1);go_wp2_with fail
     go_meet
     exact⟨by rw[HZ.out];first|rfl|(congr 1;omega),rfl⟩
   case rest=>
   obtain⟨rfl,rfl⟩:=hcut
   obtain⟨q2,hq2⟩:∃q2,q2=q+aB aj x k:=⟨_,rfl⟩
   rw[<-hq2]
   have aqZ:q2<=65536:=by omega
   have HQ2:=Lib.hid hq2;clear hq2
   go_upto_if 38 with(fail)
   go_cut [6] from 38 to 45 (fun v wx=>v= .int .i64 ((q2+aB aj y k:Nat):Int)/\wx=wc)
   case first=>
    rcases Nat.lt_or_ge k (ln aj y) with h1|h1
    ·
     obtain⟨p,o,rfl,hp,hca⟩:=(aN.below HB.out eP) (by omega);have c1:=hca k h1;have t1:decide ((k:Int)<((ln aj y:Nat):Int))=true:=decide_eq_true (by omega)
     have t2:(k:Int)<((ln aj y:Nat):Int):=by omega
     have o1:IntKind.i64.wrap ((aB aj y k:Nat):Int)=((aB aj y k:Nat):Int):=by rw[IntKind.wrap_i64];omega
     clear hca;go_wp2_with fail
     go_meet
     exact⟨by first|rfl|(congr 1;omega),rfl⟩
    ·
     have t1:decide ((k:Int)<((ln aj y:Nat):Int))=false:=decide_eq_false (by omega);have HZ:=Lib.hid (uR h1);go_wp2_with fail
     go_meet
     exact⟨by rw[HZ.out];first|rfl|(congr 1;omega),rfl⟩
   case rest=>
   obtain⟨rfl,rfl⟩:=hcut
   obtain⟨T,hT⟩:∃T,T=q2+aB aj y k:=⟨_,rfl⟩
   rw[<-hT]
   have hTl:T<=131072:=by omega
   have e1:cr x y (k+1)=T/65536:=by rw[HC.out.1,<-HQ.out,<-HQ2.out,<-hT]
   have e2:aB aj (x+y) k=T%65536:=by rw[HC.out.2,<-HQ.out,<-HQ2.out,<-hT]
   clear hT hdx hdy
   have t5:(T:Int).tmod 65536=((aB aj (x+y) k:Nat):Int):=by rw[Int.tmod_eq_emod_of_nonneg (by omega),e2];omega
   have t6:(T:Int).tdiv 65536=((cr x y (k+1):Nat):Int):=by rw[Int.tdiv_eq_ediv_of_nonneg (by omega),e1];omega
   have hdl:=bh (x+y) k;have pY:=XD x y (k+1);clear e1 e2
   have o3:IntKind.u16.wrap ((aB aj (x+y) k:Nat):Int)=((aB aj (x+y) k:Nat):Int):=by rw[IntKind.wrap_u16];omega
   have hsz:=eP.size;go_wp2_with (at_builtin;refine wpList_append_own _ rfl _ _ 25 rfl w.heap.size 108 i0 (.int .u16 0) 1 2 Tryz.underlying25 hi IC vG Oy rfl (by decide) _ _ _ rfl (hown.alloc _) ⟨wc.heap.size,0,none⟩ 1 1 [.int .u16 ((aB aj (x+y) k:Nat):Int)] rfl rfl (cell_one_new _ _ _) (by simp[Value.oneCell']) (by unfold maxLen;omega) (by omega) (by simp;omega) ?_;intro v' w5 mN hgrow _;obtain⟨g',cap',rfl⟩:=ownsRow_succ mN)
   go_roundw
   case rel=>
    rw[qR] at mN;exact⟨k+1,rfl,rfl,HK.out,Lib.hid rfl,mN,(eP.alloc hsz (.cells #[.int .u16 ((aB aj (x+y) k:Nat):Int)] 108)).grown hgrow (by simp;omega) (fun g hg=>(hown.lt g hg).1)⟩
   case measure=>
    have:=HK.out;show ln aj (x+y)-(k+1)<ln aj (x+y)-zz u5;rw[hlv.out];omega
  ·
   have h1:ln aj x<=k:=by omega
   have h2:ln aj y<=k:=by omega
   have h3:cr x y k=0:=by omega
   have hkk:k=ln aj (x+y):=by have:=Qq h1 h2 h3;omega
   have t1:decide ((k:Int)<((ln aj x:Nat):Int))=false:=decide_eq_false (by omega);have t2:decide ((k:Int)<((ln aj y:Nat):Int))=false:=decide_eq_false (by omega);rw[h3];obtain⟨A',c',rfl⟩:=mM hown;have HK:=Lib.hid hkk;clear hkk h3 hc;go_wp2_with fail
   go_ret
   refine⟨A',c',ko HK.out, ?_,eP⟩;rw[<-HK.out];exact hown
end Go.Proofs.YtclbiihcbfnjmaaGreat
namespace Go.Proofs.YtclbiihcbfnjmaaGreat
open Go.RowKit

def bw (x y k:Nat):Nat:=if x%aj^k<y%aj^k then 1 else 0
theorem Vz (x y:Nat):bw x y 0=0:=by simp[bw,Nat.mod_one]
theorem Qr (x y k:Nat):bw x y k<=1:=by unfold bw;split<;>omega
theorem Qs {x y k:Nat}(h:y<=x):(x-y)/aj^k+y/aj^k+bw x y k=x/aj^k:=by
 have hp:0<aj^k:=Nat.pow_pos (by decide);have e1:=Nat.div_add_mod x (aj^k);have e2:=Nat.div_add_mod y (aj^k);have l1:=Nat.mod_lt x hp;have l2:=Nat.mod_lt y hp;unfold bw
 generalize aj^k=P at*
 generalize x%P=a at*
 generalize y%P=a' at*
 generalize x/P=X at*
 generalize y/P=Y at*
 by_cases hb:a<a'
 ·
  rw[if_pos hb]
  have hXY:Y+1<=X:=by
   rcases Nat.lt_or_ge Y X with h1|h1
   ·exact h1
   ·have:=Nat.mul_le_mul_left P h1;omega
  obtain⟨Z,rfl⟩:=Nat.le.dest hXY
  have e3:P*(Y+1+Z)=P*Y+P+P*Z:=by rw[Nat.mul_add,Nat.mul_add,Nat.mul_one]
  have e4:x-y=(P+a-a')+P*Z:=by omega
  rw[e4,Nat.add_mul_div_left _ _ hp,Nat.div_eq_of_lt (by omega)];omega
 ·
  rw[if_neg hb]
  have hXY:Y<=X:=by
   rcases Nat.lt_or_ge X Y with h1|h1
   ·
    have:=Nat.mul_le_mul_left P (show X+1<=Y from h1);rw[Nat.mul_add,Nat.mul_one] at this;omega
   ·exact h1
  obtain⟨Z,rfl⟩:=Nat.le.dest hXY;have e3:P*(Y+Z)=P*Y+P*Z:=Nat.mul_add ..
  have e4:x-y=(a-a')+P*Z:=by omega
  rw[e4,Nat.add_mul_div_left _ _ hp,Nat.div_eq_of_lt (by omega)];omega
theorem VA {x y:Nat}(h:y<=x)(k:Nat):bw x y (k+1)=1-(65536+aB aj x k-bw x y k-aB aj y k)/65536/\aB aj (x-y) k=(65536+aB aj x k-bw x y k-aB aj y k)%65536:=by
 have hd:=Qs (k:=k) h;have p9:=Qs (k:=k+1) h;have hb:=Qr x y k;have dI:=Qr x y (k+1);rw[Nat.pow_succ,<-Nat.div_div_eq_div_mul,<-Nat.div_div_eq_div_mul,<-Nat.div_div_eq_div_mul] at p9;unfold aB
 generalize (x-y)/aj^k=Z at*
 generalize x/aj^k=X at*
 generalize y/aj^k=Y at*
 generalize bw x y k=b at*
 generalize bw x y (k+1)=b' at*
 have FU:Z/65536+Y/65536+b'=X/65536:=p9;clear p9;show b'=1-(65536+X%65536-b-Y%65536)/65536/\Z%65536=(65536+X%65536-b-Y%65536)%65536;have h1:=Nat.mod_lt X (show 0<65536 by decide);have h2:=Nat.mod_lt Y (show 0<65536 by decide);have h3:=Nat.mod_lt Z (show 0<65536 by decide);have f1:=Nat.div_add_mod X 65536;have f2:=Nat.div_add_mod Y 65536;have f3:=Nat.div_add_mod Z 65536
 generalize X%65536=dx at*
 generalize Y%65536=dy at*
 generalize Z%65536=dz at*
 generalize X/65536=X1 at*
 generalize Y/65536=Y1 at*
 generalize Z/65536=Z1 at*
 rcases Nat.lt_or_ge dx (dy+b) with hlt|hge
 ·
  have hq:(65536+dx-b-dy)/65536=0:=Nat.div_eq_of_lt (by omega);rw[hq,Nat.mod_eq_of_lt (show 65536+dx-b-dy<65536 by omega)];omega
 ·
  have hq:(65536+dx-b-dy)/65536=1:=by omega
  rw[hq,show 65536+dx-b-dy=65536+(dx-b-dy) by omega,Nat.add_mod_left,Nat.mod_eq_of_lt (show dx-b-dy<65536 by omega)];omega

theorem FK (A B:Option Addr)(c d x y:Nat)(w:World)(hA:aN w A x)(hB:aN w B y)(la:ln aj x<=1000000)(hxy:y<=x):
  Calls Tryz.prog 165 #[.slice A (ln aj x) c,.slice B (ln aj y) d] w fun e w'=>∃A' c',e= .returned (.slice A' (ln aj (x-y)) c')/\aN w' A' (x-y)/\(∀p,A'=some p->w.heap.size<=p.block)/\Below w.heap.size w w':=by
 have HA:=Lib.hid hA;have HB:=Lib.hid hB;have hlx:=aW aD x;have hlb:ln aj y<=ln aj x:=bO aD hxy;have HL:=Lib.hid hlx;have HXY:=Lib.hid hxy;clear hA hB hlx hxy
 obtain⟨N,hN⟩:∃N,N=ln aj x:=⟨_,rfl⟩
 have hNl:N<=1000000:=by omega
 have HN:=Lib.hid hN;rw[<-hN] at hlb⊢;clear hN la;obtain⟨i0,hi,IC,vG,Oy⟩:=info_parts kq
 go_enter Tryz.func165,Tryz.ntmps165
 go_wp2_with fail
 go_loopw [5,6,7] (fun v u i wr=>∃k,i= .int .i64 ((k:Nat):Int)/\u= .int .i64 ((bw x y k:Nat):Int)/\k<=N/\Hid (zz v=k)/\wr.ownsRow w.heap.size 108 1 v k (eZ .u16 k (aB aj (x-y)))/\Below w.heap.size w wr) (fun v _ _ _=>N-zz v)
 case atStart=>exact⟨0,rfl,by rw[Vz];rfl,Nat.zero_le _,Lib.hid rfl,World.ownsRow_nil ..,Below.refl _ _⟩
 case round=>
  obtain⟨k,rfl,rfl,hk,hlv,hown,eP⟩:=hrel;have hbw:=Qr x y k
  by_cases hk9:k<N
  ·
   have hcs:=VA HXY.out k;have HC:=Lib.hid hcs
   obtain⟨q,hq⟩:∃q,q=bw x y k:=⟨_,rfl⟩
   rw[<-hq] at hbw⊢;have HQ:=Lib.hid hq;have hdx:=bh x k;have hdy:=bh y k;clear hcs hq;have t0:decide ((k:Int)<(N:Int))=true:=decide_eq_true (by omega);obtain⟨p,o,rfl,hp,hca⟩:=(aN.below HA.out eP) (by rw[<-HN.out];omega);have c1:=hca k (by rw[<-HN.out];omega)
   have t2:(k:Int)<(N:Int):=by omega
   have o1:IntKind.i64.wrap ((aB aj x k:Nat):Int)=((aB aj x k:Nat):Int):=by rw[IntKind.wrap_i64];omega
   have o2:IntKind.i64.wrap (65536+((aB aj x k:Nat):Int))=65536+((aB aj x k:Nat):Int):=by rw[IntKind.wrap_i64];omega
   have o4:IntKind.i64.wrap (65536+((aB aj x k:Nat):Int)-(q:Int))=((65536+aB aj x k-q:Nat):Int):=by rw[IntKind.wrap_i64];omega
   clear hca
   go_upto_if 26 with(fail)
   have hM:65536+aB aj x k-q<=131071/\65535<=65536+aB aj x k-q:=by omega
   obtain⟨M,hMe⟩:∃M,M=65536+aB aj x k-q:=⟨_,rfl⟩
   rw[<-hMe] at o4 hM⊢;have HM:=Lib.hid hMe;clear hMe o2 c1 o1
   go_cut [8] from 26 to 33 (fun v wx=>v= .int .i64 ((M-aB aj y k:Nat):Int)/\wx=wr)
   case first=>
    rcases Nat.lt_or_ge k (ln aj y) with h1|h1
    ·
     obtain⟨p2,o2,rfl,Ik,hca⟩:=(aN.below HB.out eP) (by omega);have c1:=hca k h1;have t1:decide (k<ln aj y)=true:=decide_eq_true h1
     have t3:(k:Int)<((ln aj y:Nat):Int):=by omega
     have o1:IntKind.i64.wrap ((aB aj y k:Nat):Int)=((aB aj y k:Nat):Int):=by rw[IntKind.wrap_i64];omega
     have o5:IntKind.i64.wrap ((M:Int)-((aB aj y k:Nat):Int))=((M-aB aj y k:Nat):Int):=by rw[IntKind.wrap_i64];omega
     clear hca;go_wp2_with fail
     go_meet
     exact⟨by first|rfl|(congr 1;omega),rfl⟩
    ·
     have t1:decide (k<ln aj y)=false:=decide_eq_false (by omega);have HZ:=Lib.hid (uR h1);go_wp2_with fail
     go_meet
     exact⟨by rw[HZ.out];rfl,rfl⟩
   case rest=>
   obtain⟨rfl,rfl⟩:=hcut
   obtain⟨T,hT⟩:∃T,T=M-aB aj y k:=⟨_,rfl⟩
   rw[<-hT]
   have hTl:T<=131071:=by omega
   have e1:bw x y (k+1)=1-T/65536:=by rw[HC.out.1,<-HQ.out,<-HM.out,<-hT]
   have e2:aB aj (x-y) k=T%65536:=by rw[HC.out.2,<-HQ.out,<-HM.out,<-hT]
   have D7:T/65536<=1:=by omega
   clear hT hdx hdy o4 hM
   have t5:(T:Int).tmod 65536=((aB aj (x-y) k:Nat):Int):=by rw[Int.tmod_eq_emod_of_nonneg (by omega),e2];omega
   have t6:(T:Int).tdiv 65536=((T/65536:Nat):Int):=by rw[Int.tdiv_eq_ediv_of_nonneg (by omega)];omega
   have t7:IntKind.i64.wrap (1-((T/65536:Nat):Int))=((bw x y (k+1):Nat):Int):=by rw[IntKind.wrap_i64,e1];omega
   have t8:IntKind.i64.wrap ((T/65536:Nat):Int)=((T/65536:Nat):Int):=by rw[IntKind.wrap_i64];omega
   have t9:(1:Int)-(T:Int)/65536=((bw x y (k+1):Nat):Int):=by rw[e1];omega
   have hdl:=bh (x-y) k;clear e1 e2
   have o3:IntKind.u16.wrap ((aB aj (x-y) k:Nat):Int)=((aB aj (x-y) k:Nat):Int):=by rw[IntKind.wrap_u16];omega
   have hsz:=eP.size;go_wp2_with (at_builtin;refine wpList_append_own _ rfl _ _ 25 rfl w.heap.size 108 i0 (.int .u16 0) 1 2 Tryz.underlying25 hi IC vG Oy rfl (by decide) _ _ _ rfl (hown.alloc _) ⟨wc.heap.size,0,none⟩ 1 1 [.int .u16 ((aB aj (x-y) k:Nat):Int)] rfl rfl (cell_one_new _ _ _) (by simp[Value.oneCell']) (by unfold maxLen;omega) (by omega) (by simp;omega) ?_;intro v' w5 mN hgrow _;obtain⟨g',cap',rfl⟩:=ownsRow_succ mN)
   go_roundw
   case rel=>
    rw[qR] at mN;exact⟨k+1,rfl,by first|rfl|(congr 1;first|exact t7|exact t9),by omega,Lib.hid rfl,mN,(eP.alloc hsz (.cells #[.int .u16 ((aB aj (x-y) k:Nat):Int)] 108)).grown hgrow (by simp;omega) (fun g hg=>(hown.lt g hg).1)⟩
   case measure=>
    show N-(k+1)<N-zz u5;rw[hlv.out];omega
  ·
   obtain rfl:k=N:=by omega
   obtain⟨A',c',rfl,vB,hrow⟩:=qG.mI hown;have hvs:vs aj (aB aj (x-y)) k=x-y:=bM (Nat.lt_of_le_of_lt (Nat.sub_le x y) (by rw[HN.out];exact HL.out));have hc:=nK wr.heap.size A' k c' (aB aj (x-y)) wr hrow.rd (fun i _=>bh _ i) vB (by omega);rw[hvs] at hc;have HC:=Lib.hid hc;clear hc hvs;go_wp2_with fail
   refine HC.out.mono ?_
   rintro e w5 ⟨rfl,rfl⟩
   go_wp2_with fail
   go_ret
   refine⟨A',c',rfl, ?_,fun p hp=>by subst hp;exact(hown.lt _ rfl).1,eP⟩
   have zO:ln aj (x-y)<=k:=by
    have:=bO aD (Nat.sub_le x y);rw[<-HN.out] at this;exact this
   exact fun hn=>by
    obtain⟨b,o,e,h1,h2⟩:=hrow.rd (by omega);exact⟨b,o,e,h1,fun i hi=>h2 i (by omega)⟩
end Go.Proofs.YtclbiihcbfnjmaaGreat
namespace Go.Proofs.YtclbiihcbfnjmaaGreat
open Go.RowKit

theorem aaT {z:Int}{s:Bool}{x:Nat}(h:z=jg s x):z.natAbs=x/\(s&&decide (0<ln aj x))=decide (z<0):=by
 subst h;refine⟨bT s x, ?_⟩;rw[jj]
 congr 1
 exact decide_eq_decide.2 (cK aD)
theorem tD (A B:Option Addr)(c d x y:Nat)(w:World)(hA:aN w A x)(hB:aN w B y)(la:ln aj x<=1000000)(lb:ln aj y<=1000000):
  Calls Tryz.prog 163 #[.slice A (ln aj x) c,.slice B (ln aj y) d] w fun e w'=>∃A' c',e= .returned (.slice A' (ln aj (x+y)) c')/\aN w' A' (x+y)/\(∀p,A'=some p->w.heap.size<=p.block)/\Below w.heap.size w w':=
 (Kl A B c d x y w hA hB la lb).mono fun _ _ ⟨A',c',he,ho,hb⟩=>⟨A',c',he,ho.num,fun p hp=>by subst hp;exact(World.ownsRow.lt ho _ rfl).1,hb⟩
end Go.Proofs.YtclbiihcbfnjmaaGreat
