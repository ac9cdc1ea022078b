/-
  Parts.
-/
import Derived.Test.YtclbiihcbfnjmaaGreatK6
import Derived.Test.YtclbiihcbfnjmaaGreatK4
import Derived.Deep.CutBlock
import Derived.Deep.DeepCutAuto
import Derived.Deep.RegionHeld3
import Derived.Test.YtclbiihcbfnjmaaGreatK1
import Derived.Deep.CutRange
import Derived.Deep.DrawnRows
import Derived.Test.YtclbiihcbfnjmaaGreatK5
set_option maxRecDepth 100000
set_option maxHeartbeats 4000000
set_option linter.unusedSimpArgs false
namespace Go.Proofs.YtclbiihcbfnjmaaGreat
open Go.RowKit

theorem Two2.below {w:World}{s t:Bool}{A B:Option Addr}{n m c d:Nat}{w' w'':World}(h:Two2 w s t A B n m c d w')(h2:Below w'.heap.size w' w''):Two2 w s t A B n m c d w'':=
 ⟨h.p0.below h2 h.p0.lt,h.p1.below h2 h.p1.lt,h.r.below h2 h.r.lt,h.q.below h2 h.q.lt,h.bel.trans (h2.mono h.bel.size)⟩
theorem Own16.lt {base:Nat}{w:World}{A:Option Addr}{n c:Nat}{f:Nat->Nat}(h:Own16 base w A n c f):∀p,A=some p->p.block<w.heap.size:=by
 intro p hp
 rcases h.2 with⟨hv,-⟩|⟨g,cap,cur,hv,_,hh,_⟩
 ·
  injection hv with e1
  rw[hp] at e1;cases e1
 ·
  injection hv with e1
  rw[hp] at e1
  injection e1 with e1
  subst e1;exact heap_lt hh
def DM (w:World)(q r:Int)(e:Ending)(w':World):Prop:=
 ∃A c B d m,e= .returned (.tuple #[.agg #[.bool (decide (q<0)),.slice A (ln b16 q.natAbs) c],.agg #[.bool (decide (r<0)),.slice B (ln b16 r.natAbs) d],.int .i64 0])/\
  Own16 w.heap.size w' A (ln b16 q.natAbs) c (dgt b16 q.natAbs)/\(∀p,A=some p->p.block<m)/\w.heap.size<=m/\Own16 m w' B (ln b16 r.natAbs) d (dgt b16 r.natAbs)/\Below w.heap.size w w'
theorem WW.vals {w w':World}{z:Bool}{x:Nat}{e:Ending}(h:WW w z x e w'):∃s A c,e= .returned (.agg #[.bool s,.slice A (ln b16 x) c])/\Hid (s=z)/\Own16 w.heap.size w' A (ln b16 x) c (dgt b16 x)/\Below w.heap.size w w':=by
 obtain⟨A,c,he,ho,hb⟩:=h;exact⟨z,A,c,he,Lib.hid rfl,ho,hb⟩
theorem num32_one (w:World):Num32 (w.alloc (.cells #[.int .u32 1] 171)) (some ⟨w.heap.size,0,none⟩) 1:=fun _=>
 ⟨w.heap.size,0,rfl,by simp,fun i hi=>by
  have e1:ln b32 1=1:=ln_small b32_two (by decide) (by decide)
  obtain rfl:i=0:=by omega
  exact cell_of_row _ _ 0 _ _ (0,0) (heap_alloc_new _ _)⟩
theorem TwoP.storeAt {w:World}{s t:Bool}{A B:Option Addr}{n m c d:Nat}{w':World}(h:TwoP w s t A B n m c d w'){R:Nat}(hR:w.heap.size+1<R)(s':Bool)(v':Value):
  TwoP w s t A B n m c d ((w'.setCell ⟨R,0,none⟩ (.bool s')).setCell ⟨R,1,none⟩ v'):=
 have e0:w.heap.size≠R:=by omega
 have e1:w.heap.size+1≠R:=by omega
 have e2:w.heap.size<=R:=by omega
 ⟨h.p0.other e0 s' v',h.p1.other e1 s' v',(h.bel.setCell (p:=⟨R,0,none⟩) e2 _).setCell (p:=⟨R,1,none⟩) e2 _⟩
theorem divMod_walk (s t:Bool)(x y:Nat)(zq zr:Int)(A B:Option Addr)(c d:Nat)(w:World)(hA:Num16 w A x)(hB:Num16 w B y)(la:ln b16 x<=1024)(lb:ln b16 y<=1024)(hy:0<y)
  (hok:(okW s (ln b16 x) (dgt b16 x)&&okW t (ln b16 y) (dgt b16 y))=true)
  (HSAME:Hid (¬(s≠t/\0<x%y)->toI (s !=t) (x/y)=zq/\toI t (x%y)=zr)) (HUP:Hid (s≠t->0<x%y->toI (s !=t) (x/y+1)=zq/\toI t (y-x%y)=zr)):
  Calls Tryz.prog 170 #[.agg #[.bool s,.slice A (ln b16 x) c],.agg #[.bool t,.slice B (ln b16 y) d]] w (DM w zq zr):=by
 have htwo:=two_call3 s t A B (ln b16 x) (ln b16 y) c d _ _ w hA hB (fun i=>dgt16_lt _ i) (fun i=>dgt16_lt _ i) (by omega) (by omega);rw[hok] at htwo;clear hok;have la2:=ln32_short la;have lb2:=ln32_short lb;have hyl:0<ln b16 y:=(ln_pos b16_two).2 hy;have tb0:(((ln b16 y:Nat):Int)==0)=false:=beq_eq_false_iff_ne.2 (by omega);have hqx:x/y<=x:=Nat.div_le_self ..;have hmod:=Nat.mod_lt x hy;have lq:ln b32 (x/y)<=512:=Nat.le_trans (ln_mono b32_two hqx) la2;have lr:ln b32 (x%y)<=512:=Nat.le_trans (ln_mono b32_two (Nat.le_of_lt hmod)) lb2
 have hcases:(s=t\/(s≠t/\x%y=0))\/(s≠t/\0<x%y):=by
  by_cases hst:s=t
  ·exact .inl (.inl hst)
  ·
   rcases Nat.eq_zero_or_pos (x%y) with h0|h0
   ·exact .inl (.inr ⟨hst,h0⟩)
   ·exact .inr ⟨hst,h0⟩
 go_enter Tryz.func170,Tryz.ntmps170
 go_wp2_with fail
 refine htwo.mono ?_
 rintro e w1 ⟨rfl,ht⟩
 obtain⟨p2,p3⟩:=ht.p1.cells;go_wp2_with fail
 refine(pack_any B d y w1 (Num16.below hB ht.bel) (by omega)).mono ?_
 rintro e w2 ⟨A2,c2,rfl,hc2,hn2,hb2⟩
 have ht2:=ht.below hb2;clear ht p2 p3;obtain⟨p0,p1⟩:=ht2.p0.cells;obtain⟨p2,p3⟩:=ht2.p1.cells;go_wp2_with fail
 refine(pack_any A c x w2 (Num16.below hA ht2.bel) (by omega)).mono ?_
 rintro e w3 ⟨A3,c3,rfl,hc3,hn3,hb3⟩
 have ht3:=ht2.below hb3;have hn2':=Num32.below hn2 hb3;clear ht2 p0 p1 p2 p3;go_wp2_with fail
 refine(divide_any A3 A2 c3 c2 x y w3 hn3 hn2' hy (by omega)).mono ?_
 rintro e w4 ⟨A4,c4,A5,c5,rfl,hc4,hc5,hn4,hn5,hb4⟩
 have ht4:=ht3.below hb4;have hn2'':=Num32.below hn2' hb4;clear ht3 hn2' hn2;obtain⟨p0,p1⟩:=ht4.p0.cells;obtain⟨p2,p3⟩:=ht4.p1.cells
 rcases hcases with(hst|⟨hst,hr0⟩)|⟨hst,hrp⟩
 ·
  subst hst
  have hz:(s !=s)=false:=by simp
  obtain⟨hq,hr⟩:=HSAME.out (by simp);rw[hz] at hq;have HQ:=Lib.hid hq;have HR:=Lib.hid hr;clear hq hr hz;go_wp2_with fail
  have ht0:Two2 w s s A B (ln b16 x) (ln b16 y) c d w4.drew:=⟨ht4.p0,ht4.p1,ht4.r,ht4.q,ht4.bel.drew⟩
  have D1:=Lib.hid fun(w':World) (hw':Below w4.heap.size w4 w')=>unpack_any false _ _ _ w' (Num32.below hn4 hw') hc4 (by omega)
  have D2:=Lib.hid fun(w':World) (hw':Below w4.heap.size w4 w')=>unpack_any s _ _ _ w' (Num32.below hn5 hw') hc5 (by omega)
  have hrefl:=(Below.refl w4.heap.size w4).drew;have hl1:=ht4.r.lt;have hl2:=ht4.q.lt;clear p0 p1 p2 p3 ht4
  go_region_held3 (fun w'=>w'.cell? ⟨w.heap.size,0,none⟩=some (.bool s)/\w'.cell? ⟨w.heap.size+1,0,none⟩=some (.bool s)/\TwoP w s s A B (ln b16 x) (ln b16 y) c d w')
   (first|with_reducible exact⟨hP4.p0.cells.1,hP4.p1.cells.1,hP4⟩|with_reducible exact⟨hP3.p0.cells.1,hP3.p1.cells.1,hP3⟩|with_reducible exact⟨hP2.p0.cells.1,hP2.p1.cells.1,hP2⟩|with_reducible exact⟨hP1.p0.cells.1,hP1.p1.cells.1,hP1⟩|with_reducible exact⟨ht0.p0.cells.1,ht0.p1.cells.1,ht0.p0,ht0.p1,ht0.bel⟩)
   (first
    |(go_at_call_of 173 (Value.bool false);refine(D1.out _ hrefl).mono ?_;rintro e w5 hww1;obtain⟨s1,B1,d1,rfl,hS1,hO1,hb5⟩:=hww1.vals;have ht1:=ht0.below hb5;have hP1:TwoP w s s A B (ln b16 x) (ln b16 y) c d w5:=⟨ht1.p0,ht1.p1,ht1.bel⟩)
    |(go_at_call_of 173 (Value.bool s);refine(D2.out _ (hrefl.trans (hb5.mono hrefl.size))).mono ?_;rintro e w6 hww2;obtain⟨s2,B2,d2,rfl,hS2,hO2,hb6⟩:=hww2.vals;have ht2:=ht1.below hb6;have hP2:TwoP w s s A B (ln b16 x) (ln b16 y) c d w6:=⟨ht2.p0,ht2.p1,ht2.bel⟩;obtain⟨r0,r1⟩:=ht2.r.cells;have g0:=ht2.r.frozen 0;have g1:=ht2.r.frozen 1;obtain⟨r2,r3⟩:=ht2.q.cells;have g2:=ht2.q.frozen 0;have g3:=ht2.q.frozen 1;have hP3:=hP2.storeAt (R:=w.heap.size+1+1) (by omega) s1 (.slice B1 (ln b16 (x/y)) d1);have hP4:=hP3.storeAt (R:=w.heap.size+1+1+1) (by omega) s2 (.slice B2 (ln b16 (x%y)) d2)))
  obtain⟨hW,hbW⟩:=store_whole ht2.r ht2.bel (show w.heap.size<=w.heap.size+1+1 by omega) s1 (.slice B1 (ln b16 (x/y)) d1);have hQ:=ht2.q.other (R:=w.heap.size+1+1) (by omega) s1 (.slice B1 (ln b16 (x/y)) d1);obtain⟨hW2,hbW2⟩:=store_whole hQ hbW (show w.heap.size<=w.heap.size+1+1+1 by omega) s2 (.slice B2 (ln b16 (x%y)) d2);have hW1:=hW.other (R:=w.heap.size+1+1+1) (by omega) s2 (.slice B2 (ln b16 (x%y)) d2);have hl5:w4.heap.size<=w5.heap.size:=hb5.size;have o1:=store_own (store_own (hO1.below hb6 (Nat.le_refl _)) hl1 s1 (.slice B1 (ln b16 (x/y)) d1)) hl2 s2 (.slice B2 (ln b16 (x%y)) d2);have o2:=store_own (store_own hO2 (Nat.lt_of_lt_of_le hl1 hl5) s1 (.slice B1 (ln b16 (x/y)) d1)) (Nat.lt_of_lt_of_le hl2 hl5) s2 (.slice B2 (ln b16 (x%y)) d2);have o1l:=hO1.lt;clear hW hQ r0 r1 r2 r3 g0 g1 g2 g3 ht0 ht1 ht2 hP1 hP2 hP3 hP4 hbW hO1 hO2 D1 D2
  go_wp2
  generalize ((((w6.setCell ⟨w.heap.size+1+1,0,none⟩ (.bool s1)).setCell ⟨w.heap.size+1+1,1,none⟩ (.slice B1 (ln b16 (x/y)) d1)).setCell ⟨w.heap.size+1+1+1,0,none⟩ (.bool s2)).setCell ⟨w.heap.size+1+1+1,1,none⟩ (.slice B2 (ln b16 (x%y)) d2))=W7 at*
  obtain⟨k0,k1⟩:=hW1.cells;obtain⟨k2,k3⟩:=hW2.cells;refine bodyPost_ret (v:= .tuple #[.agg #[.bool s1,.slice B1 (ln b16 (x/y)) d1],.agg #[.bool s2,.slice B2 (ln b16 (x%y)) d2],.int .i64 0]) (by simp[results,Tryz.results170,go_sem,k0,k1,k2,k3]) rfl ?_;rw[<-HQ.out,<-HR.out];exact⟨B1,d1,B2,d2,w5.heap.size,by rw[toI_neg,toI_abs,toI_neg,toI_abs,hS1.out,hS2.out],by rw[toI_abs];exact o1.lower (show w.heap.size<=w4.heap.size by omega),o1l,by omega,by rw[toI_abs];exact o2,hbW2⟩
 ·
  have hz:(s !=t)=true:=bne_iff_ne.2 hst;have t1:(s==t)=false:=beq_eq_false_iff_ne.2 hst
  have hl0:((ln b32 (x%y):Nat):Int)<=0:=by rw[hr0,ln_zero];decide
  have t2:decide ((0:Int)<((ln b32 (x%y):Nat):Int))=false:=decide_eq_false (by omega);obtain⟨hq,hr⟩:=HSAME.out (fun h=>by omega);rw[hz] at hq;have HQ:=Lib.hid hq;have HR:=Lib.hid hr;clear hq hr hr0 hz;go_wp2_with fail
  have ht0:Two2 w s t A B (ln b16 x) (ln b16 y) c d w4.drew:=⟨ht4.p0,ht4.p1,ht4.r,ht4.q,ht4.bel.drew⟩
  have D1:=Lib.hid fun(w':World) (hw':Below w4.heap.size w4 w')=>unpack_any true _ _ _ w' (Num32.below hn4 hw') hc4 (by omega)
  have D2:=Lib.hid fun(w':World) (hw':Below w4.heap.size w4 w')=>unpack_any t _ _ _ w' (Num32.below hn5 hw') hc5 (by omega)
  have hrefl:=(Below.refl w4.heap.size w4).drew;have hl1:=ht4.r.lt;have hl2:=ht4.q.lt;clear p0 p1 p2 p3 ht4
  go_region_held3 (fun w'=>w'.cell? ⟨w.heap.size,0,none⟩=some (.bool s)/\w'.cell? ⟨w.heap.size+1,0,none⟩=some (.bool t)/\TwoP w s t A B (ln b16 x) (ln b16 y) c d w')
   (first|with_reducible exact⟨hP4.p0.cells.1,hP4.p1.cells.1,hP4⟩|with_reducible exact⟨hP3.p0.cells.1,hP3.p1.cells.1,hP3⟩|with_reducible exact⟨hP2.p0.cells.1,hP2.p1.cells.1,hP2⟩|with_reducible exact⟨hP1.p0.cells.1,hP1.p1.cells.1,hP1⟩|with_reducible exact⟨ht0.p0.cells.1,ht0.p1.cells.1,ht0.p0,ht0.p1,ht0.bel⟩)
   (first
    |(go_at_call_of 173 (Value.bool true);refine(D1.out _ hrefl).mono ?_;rintro e w5 hww1;obtain⟨s1,B1,d1,rfl,hS1,hO1,hb5⟩:=hww1.vals;have ht1:=ht0.below hb5;have hP1:TwoP w s t A B (ln b16 x) (ln b16 y) c d w5:=⟨ht1.p0,ht1.p1,ht1.bel⟩)
    |(go_at_call_of 173 (Value.bool t);refine(D2.out _ (hrefl.trans (hb5.mono hrefl.size))).mono ?_;rintro e w6 hww2;obtain⟨s2,B2,d2,rfl,hS2,hO2,hb6⟩:=hww2.vals;have ht2:=ht1.below hb6;have hP2:TwoP w s t A B (ln b16 x) (ln b16 y) c d w6:=⟨ht2.p0,ht2.p1,ht2.bel⟩;obtain⟨r0,r1⟩:=ht2.r.cells;have g0:=ht2.r.frozen 0;have g1:=ht2.r.frozen 1;obtain⟨r2,r3⟩:=ht2.q.cells;have g2:=ht2.q.frozen 0;have g3:=ht2.q.frozen 1;have hP3:=hP2.storeAt (R:=w.heap.size+1+1) (by omega) s1 (.slice B1 (ln b16 (x/y)) d1);have hP4:=hP3.storeAt (R:=w.heap.size+1+1+1) (by omega) s2 (.slice B2 (ln b16 (x%y)) d2)))
  obtain⟨hW,hbW⟩:=store_whole ht2.r ht2.bel (show w.heap.size<=w.heap.size+1+1 by omega) s1 (.slice B1 (ln b16 (x/y)) d1);have hQ:=ht2.q.other (R:=w.heap.size+1+1) (by omega) s1 (.slice B1 (ln b16 (x/y)) d1);obtain⟨hW2,hbW2⟩:=store_whole hQ hbW (show w.heap.size<=w.heap.size+1+1+1 by omega) s2 (.slice B2 (ln b16 (x%y)) d2);have hW1:=hW.other (R:=w.heap.size+1+1+1) (by omega) s2 (.slice B2 (ln b16 (x%y)) d2);have hl5:w4.heap.size<=w5.heap.size:=hb5.size;have o1:=store_own (store_own (hO1.below hb6 (Nat.le_refl _)) hl1 s1 (.slice B1 (ln b16 (x/y)) d1)) hl2 s2 (.slice B2 (ln b16 (x%y)) d2);have o2:=store_own (store_own hO2 (Nat.lt_of_lt_of_le hl1 hl5) s1 (.slice B1 (ln b16 (x/y)) d1)) (Nat.lt_of_lt_of_le hl2 hl5) s2 (.slice B2 (ln b16 (x%y)) d2);have o1l:=hO1.lt;clear hW hQ r0 r1 r2 r3 g0 g1 g2 g3 ht0 ht1 ht2 hP1 hP2 hP3 hP4 hbW hO1 hO2 D1 D2
  go_wp2
  generalize ((((w6.setCell ⟨w.heap.size+1+1,0,none⟩ (.bool s1)).setCell ⟨w.heap.size+1+1,1,none⟩ (.slice B1 (ln b16 (x/y)) d1)).setCell ⟨w.heap.size+1+1+1,0,none⟩ (.bool s2)).setCell ⟨w.heap.size+1+1+1,1,none⟩ (.slice B2 (ln b16 (x%y)) d2))=W7 at*
  obtain⟨k0,k1⟩:=hW1.cells;obtain⟨k2,k3⟩:=hW2.cells;refine bodyPost_ret (v:= .tuple #[.agg #[.bool s1,.slice B1 (ln b16 (x/y)) d1],.agg #[.bool s2,.slice B2 (ln b16 (x%y)) d2],.int .i64 0]) (by simp[results,Tryz.results170,go_sem,k0,k1,k2,k3]) rfl ?_;rw[<-HQ.out,<-HR.out];exact⟨B1,d1,B2,d2,w5.heap.size,by rw[toI_neg,toI_abs,toI_neg,toI_abs,hS1.out,hS2.out],by rw[toI_abs];exact o1.lower (show w.heap.size<=w4.heap.size by omega),o1l,by omega,by rw[toI_abs];exact o2,hbW2⟩
 ·
  have hz:(s !=t)=true:=bne_iff_ne.2 hst;have t1:(s==t)=false:=beq_eq_false_iff_ne.2 hst;have hl0:0<ln b32 (x%y):=(ln_pos b32_two).2 hrp;have t2:decide ((0:Int)<((ln b32 (x%y):Nat):Int))=true:=decide_eq_true (by omega);obtain⟨hq,hr⟩:=HUP.out hst hrp;rw[hz] at hq;have HQ:=Lib.hid hq;have HR:=Lib.hid hr;clear hq hr hz;go_wp2_with fail
  have b1:Below w4.heap.size w4 (w4.alloc (.cells #[.int .u32 1] 171)):=(Below.refl _ w4).alloc (Nat.le_refl _) _;have hone:Num32 (w4.alloc (.cells #[.int .u32 1] 171)) (some ⟨w4.heap.size,0,none⟩) 1:=num32_one w4;have e1:ln b32 1=1:=ln_small b32_two (by decide) (by decide);have hplus:=plus_any A4 (some ⟨w4.heap.size,0,none⟩) c4 1 (x/y) 1 _ (Num32.below hn4 b1) hone (by omega) (by omega);rw[e1] at hplus;refine hplus.mono ?_;clear hplus e1 hone
  rintro e w8 ⟨A8,c8,rfl,hc8,hn8,hb8⟩
  have ht8:=(ht4.below b1).below hb8;have hn5b:=Num32.below (Num32.below hn5 b1) hb8;have hn2c:=Num32.below (Num32.below hn2'' b1) hb8;have lq1:ln b32 (x/y+1)<=512+1:=ln_add b32_two lq (by rw[ln_small b32_two (by decide) (by decide)];decide);have lr1:ln b32 (y-x%y)<=512:=Nat.le_trans (ln_mono b32_two (Nat.sub_le ..)) lb2;clear hn4 hn5 hn2'' ht4 p0 p1 p2 p3;obtain⟨p0,p1⟩:=ht8.p0.cells;obtain⟨p2,p3⟩:=ht8.p1.cells;go_wp2_with fail
  refine(minus_any A2 A5 c2 c5 y (x%y) _ hn2c hn5b (Nat.le_of_lt hmod) (by omega)).mono ?_
  rintro e w9 ⟨A9,c9,rfl,hc9,hn9,hb9⟩
  have ht9:=ht8.below hb9;have hn8b:=Num32.below hn8 hb9;clear ht8 hn5b hn2c hn8 p0 p1 p2 p3;obtain⟨p0,p1⟩:=ht9.p0.cells;obtain⟨p2,p3⟩:=ht9.p1.cells;go_wp2_with fail
  have ht0:Two2 w s t A B (ln b16 x) (ln b16 y) c d w9.drew:=⟨ht9.p0,ht9.p1,ht9.r,ht9.q,ht9.bel.drew⟩
  have D1:=Lib.hid fun(w':World) (hw':Below w9.heap.size w9 w')=>unpack_any true _ _ _ w' (Num32.below hn8b hw') hc8 (by omega)
  have D2:=Lib.hid fun(w':World) (hw':Below w9.heap.size w9 w')=>unpack_any t _ _ _ w' (Num32.below hn9 hw') hc9 (by omega)
  have hrefl:=(Below.refl w9.heap.size w9).drew;have hl1:=ht9.r.lt;have hl2:=ht9.q.lt;clear p0 p1 p2 p3 ht9
  go_region_held3 (fun w'=>w'.cell? ⟨w.heap.size,0,none⟩=some (.bool s)/\w'.cell? ⟨w.heap.size+1,0,none⟩=some (.bool t)/\TwoP w s t A B (ln b16 x) (ln b16 y) c d w')
   (first|with_reducible exact⟨hP4.p0.cells.1,hP4.p1.cells.1,hP4⟩|with_reducible exact⟨hP3.p0.cells.1,hP3.p1.cells.1,hP3⟩|with_reducible exact⟨hP2.p0.cells.1,hP2.p1.cells.1,hP2⟩|with_reducible exact⟨hP1.p0.cells.1,hP1.p1.cells.1,hP1⟩|with_reducible exact⟨ht0.p0.cells.1,ht0.p1.cells.1,ht0.p0,ht0.p1,ht0.bel⟩)
   (first
    |(go_at_call_of 173 (Value.bool true);refine(D1.out _ hrefl).mono ?_;rintro e w5 hww1;obtain⟨s1,B1,d1,rfl,hS1,hO1,hb5⟩:=hww1.vals;have ht1:=ht0.below hb5;have hP1:TwoP w s t A B (ln b16 x) (ln b16 y) c d w5:=⟨ht1.p0,ht1.p1,ht1.bel⟩)
    |(go_at_call_of 173 (Value.bool t);refine(D2.out _ (hrefl.trans (hb5.mono hrefl.size))).mono ?_;rintro e w6 hww2;obtain⟨s2,B2,d2,rfl,hS2,hO2,hb6⟩:=hww2.vals;have ht2:=ht1.below hb6;have hP2:TwoP w s t A B (ln b16 x) (ln b16 y) c d w6:=⟨ht2.p0,ht2.p1,ht2.bel⟩;obtain⟨r0,r1⟩:=ht2.r.cells;have g0:=ht2.r.frozen 0;have g1:=ht2.r.frozen 1;obtain⟨r2,r3⟩:=ht2.q.cells;have g2:=ht2.q.frozen 0;have g3:=ht2.q.frozen 1;have hP3:=hP2.storeAt (R:=w.heap.size+1+1) (by omega) s1 (.slice B1 (ln b16 (x/y+1)) d1);have hP4:=hP3.storeAt (R:=w.heap.size+1+1+1) (by omega) s2 (.slice B2 (ln b16 (y-x%y)) d2)))
  obtain⟨hW,hbW⟩:=store_whole ht2.r ht2.bel (show w.heap.size<=w.heap.size+1+1 by omega) s1 (.slice B1 (ln b16 (x/y+1)) d1);have hQ:=ht2.q.other (R:=w.heap.size+1+1) (by omega) s1 (.slice B1 (ln b16 (x/y+1)) d1);obtain⟨hW2,hbW2⟩:=store_whole hQ hbW (show w.heap.size<=w.heap.size+1+1+1 by omega) s2 (.slice B2 (ln b16 (y-x%y)) d2);have hW1:=hW.other (R:=w.heap.size+1+1+1) (by omega) s2 (.slice B2 (ln b16 (y-x%y)) d2);have hl5:w9.heap.size<=w5.heap.size:=hb5.size;have o1:=store_own (store_own (hO1.below hb6 (Nat.le_refl _)) hl1 s1 (.slice B1 (ln b16 (x/y+1)) d1)) hl2 s2 (.slice B2 (ln b16 (y-x%y)) d2);have o2:=store_own (store_own hO2 (Nat.lt_of_lt_of_le hl1 hl5) s1 (.slice B1 (ln b16 (x/y+1)) d1)) (Nat.lt_of_lt_of_le hl2 hl5) s2 (.slice B2 (ln b16 (y-x%y)) d2);have o1l:=hO1.lt;clear hW hQ r0 r1 r2 r3 g0 g1 g2 g3 ht0 ht1 ht2 hP1 hP2 hP3 hP4 hbW hO1 hO2 D1 D2
  go_wp2
  generalize ((((w6.setCell ⟨w.heap.size+1+1,0,none⟩ (.bool s1)).setCell ⟨w.heap.size+1+1,1,none⟩ (.slice B1 (ln b16 (x/y+1)) d1)).setCell ⟨w.heap.size+1+1+1,0,none⟩ (.bool s2)).setCell ⟨w.heap.size+1+1+1,1,none⟩ (.slice B2 (ln b16 (y-x%y)) d2))=W7 at*
  obtain⟨k0,k1⟩:=hW1.cells;obtain⟨k2,k3⟩:=hW2.cells;refine bodyPost_ret (v:= .tuple #[.agg #[.bool s1,.slice B1 (ln b16 (x/y+1)) d1],.agg #[.bool s2,.slice B2 (ln b16 (y-x%y)) d2],.int .i64 0]) (by simp[results,Tryz.results170,go_sem,k0,k1,k2,k3]) rfl ?_;rw[<-HQ.out,<-HR.out];exact⟨B1,d1,B2,d2,w5.heap.size,by rw[toI_neg,toI_abs,toI_neg,toI_abs,hS1.out,hS2.out],by rw[toI_abs];exact o1.lower (show w.heap.size<=w9.heap.size by omega),o1l,by omega,by rw[toI_abs];exact o2,hbW2⟩

theorem divMod_any (a b:Int)(A B:Option Addr)(c d:Nat)(w:World)(hA:Num16 w A a.natAbs)(hB:Num16 w B b.natAbs)(ha:ln b16 a.natAbs<=1024)(hb:ln b16 b.natAbs<=1024)(hb0:b≠0):
  Calls Tryz.prog 170 #[.agg #[.bool (decide (a<0)),.slice A (ln b16 a.natAbs) c],.agg #[.bool (decide (b<0)),.slice B (ln b16 b.natAbs) d]] w (DM w (a.fdiv b) (a.fmod b)):=
 divMod_walk _ _ _ _ _ _ A B c d w hA hB ha hb (by omega) (okW_two ha hb) (Lib.hid (floor_same a hb0)) (Lib.hid (floor_up a hb0))
end Go.Proofs.YtclbiihcbfnjmaaGreat
namespace Go.Proofs.YtclbiihcbfnjmaaGreat
open Go.RowKit

end Go.Proofs.YtclbiihcbfnjmaaGreat
namespace Go.Proofs.YtclbiihcbfnjmaaGreat
open Go.RowKit
abbrev qz4 :Array Value:=#[.bool false,.slice none 0 0,.bool false,.slice none 0 0]
abbrev qz9 :Array Value:=#[.int .i64 0,.int .i64 0,.int .i64 0,.bool false,.slice none 0 0,.bool false,.slice none 0 0,.slice none 0 0,.slice none 0 0]
abbrev qf4 (s:Bool)(A:Option Addr)(n c:Nat)(t:Bool)(B:Option Addr)(m d:Nat):Array Value:=#[.bool s,.slice A n c,.bool t,.slice B m d]
abbrev qb7 (F S:Int)(A:Option Addr)(n c:Nat)(si:Bool)(Ai:Option Addr)(ni ci:Nat)(ti:Bool)(Bi:Option Addr)(mi di:Nat):Array Value:=#[.int .i64 F,.int .i64 S,.slice A n c,.bool si,.slice Ai ni ci,.bool ti,.slice Bi mi di]

def WV (w:World)(z:Int)(s:Bool)(A:Option Addr)(n:Nat):Prop:=s=decide (z<0)/\n=ln b16 z.natAbs/\Num16 w A z.natAbs
def WO (base:Nat)(w:World)(z:Int)(s:Bool)(A:Option Addr)(n c:Nat):Prop:=s=decide (z<0)/\n=ln b16 z.natAbs/\Own16 base w A (ln b16 z.natAbs) c (dgt b16 z.natAbs)
def VI (z:Int)(w:World)(e:Ending)(w':World):Prop:=∃s A n c,e= .returned (.agg #[.bool s,.slice A n c])/\WO w.heap.size w' z s A n c/\Below w.heap.size w w'
def VR (z:Int)(w:World)(e:Ending)(w':World):Prop:=∃s A n c,e= .returned (.tuple #[.agg #[.bool s,.slice A n c],.int .i64 0])/\WO w.heap.size w' z s A n c/\Below w.heap.size w w'
def VR2 (q r:Int)(w:World)(e:Ending)(w':World):Prop:=
 ∃s A n c t B m d,e= .returned (.tuple #[.agg #[.bool s,.slice A n c],.agg #[.bool t,.slice B m d],.int .i64 0])/\WO w.heap.size w' q s A n c/\WO w.heap.size w' r t B m d/\Below w.heap.size w w'
theorem WO.v {base:Nat}{w:World}{z:Int}{s:Bool}{A:Option Addr}{n c:Nat}(h:WO base w z s A n c):WV w z s A n:=⟨h.1,h.2.1,h.2.2.num⟩
theorem WV.len {w:World}{z:Int}{s:Bool}{A:Option Addr}{n:Nat}(h:WV w z s A n):n=ln b16 z.natAbs:=h.2.1
theorem WV.sgn {w:World}{z:Int}{s:Bool}{A:Option Addr}{n:Nat}(h:WV w z s A n):s=decide (z<0):=h.1
theorem WV.below {w w':World}{z:Int}{s:Bool}{A:Option Addr}{n:Nat}(h:WV w z s A n)(hb:Below w.heap.size w w'):WV w' z s A n:=⟨h.1,h.2.1,Num16.below h.2.2 hb⟩
theorem WI.vi {w w':World}{z:Int}{e:Ending}(h:WI w z e w'):VI z w e w':=by
 obtain⟨A,c,he,ho,hb⟩:=h;exact⟨_,A,_,c,he,⟨rfl,rfl,ho⟩,hb⟩
theorem RI.vr {w w':World}{z:Int}{e:Ending}(h:RI w z e w')(hl:ln b16 z.natAbs<=1024):VR z w e w':=by
 rcases h with⟨_,A,c,he,ho,hb⟩|⟨h1,_⟩
 ·exact⟨_,A,_,c,he,⟨rfl,rfl,ho⟩,hb⟩
 ·omega
theorem ln_addZ {a b:Int}{m:Nat}(ha:ln b16 a.natAbs<=m)(hb:ln b16 b.natAbs<=m):ln b16 (a+b).natAbs<=m+1:=
 Nat.le_trans (ln_mono b16_two (Int.natAbs_add_le a b)) (ln_add b16_two ha hb)
theorem ln_mulZ {a b:Int}{m n:Nat}(ha:ln b16 a.natAbs<=m)(hb:ln b16 b.natAbs<=n):ln b16 (a*b).natAbs<=m+n:=by
 rw[Int.natAbs_mul];exact ln_mul b16_two ha hb
theorem ln_int {z:Int}(h1:-9223372036854775808<=z)(h2:z<=9223372036854775807):ln b16 z.natAbs<=4:=(ln_le b16_two).2 (show z.natAbs<18446744073709551616 by omega)

section
variable {a b:Int} {s t:Bool} {A B:Option Addr} {n m c d:Nat} {w:World}
theorem divMod_v (ha:WV w a s A n)(hb:WV w b t B m)(la:n<=1024)(lb:m<=1024)(hb0:b≠0):
  Calls Tryz.prog 170 #[.agg #[.bool s,.slice A n c],.agg #[.bool t,.slice B m d]] w (VR2 (a.fdiv b) (a.fmod b) w):=by
 obtain⟨rfl,rfl,hA⟩:=ha;obtain⟨rfl,rfl,hB⟩:=hb;refine(divMod_any a b A B c d w hA hB la lb hb0).mono ?_
 rintro e w' ⟨A',c',B',d',m,he,h1,-,h2,h3,hb⟩
 exact⟨_,A',_,c',_,B',_,d',he,⟨rfl,rfl,h1⟩,⟨rfl,rfl,h3.lower h2⟩,hb⟩
theorem gcd_v (ha:WV w a s A n)(hb:WV w b t B m)(la:n<=1024)(lb:m<=1024):
  Calls Tryz.prog 169 #[.agg #[.bool s,.slice A n c],.agg #[.bool t,.slice B m d]] w (VR ((Nat.gcd a.natAbs b.natAbs:Nat):Int) w):=by
 obtain⟨rfl,rfl,hA⟩:=ha;obtain⟨rfl,rfl,hB⟩:=hb
 exact(gcd_any a b A B c d w hA hB la lb).mono fun _ _ h=>h.vr (by rw[Int.natAbs_natCast];exact ln_gcd _ _ _ la lb)
theorem cmp_v (ha:WV w a s A n)(hb:WV w b t B m)(la:n<=1024)(lb:m<=1024):
  Calls Tryz.prog 81 #[.agg #[.bool s,.slice A n c],.agg #[.bool t,.slice B m d]] w fun e w'=>e= .returned (.int .i64 (cmpZ a b))/\Below w.heap.size w w':=by
 obtain⟨rfl,rfl,hA⟩:=ha;obtain⟨rfl,rfl,hB⟩:=hb;exact cmp_any a b A B c d w hA hB la lb
theorem refSame_v (ha:WV w a s A n)(hb:WV w b t B m)(la:n<=1000000)(lb:m<=1000000):
  Calls Tryz.prog 79 #[.agg #[.bool s,.slice A n c],.agg #[.bool t,.slice B m d]] w fun e w'=>e= .returned (.bool (decide (a=b)))/\Below w.heap.size w w':=by
 obtain⟨rfl,rfl,hA⟩:=ha;obtain⟨rfl,rfl,hB⟩:=hb;have h:=refSame_any (decide (a<0)) (decide (b<0)) A B (ln b16 a.natAbs) (ln b16 b.natAbs) c d _ _ w hA hB la lb;rw[sameW_num] at h;exact h
theorem same_v (ha:WV w a s A n)(hb:WV w b t B m)(la:n<=1000000)(lb:m<=1000000):
  Calls Tryz.prog 172 #[.agg #[.bool s,.slice A n c],.agg #[.bool t,.slice B m d]] w fun e w'=>e= .returned (.bool (decide (a=b)))/\Below w.heap.size w w':=by
 obtain⟨rfl,rfl,hA⟩:=ha;obtain⟨rfl,rfl,hB⟩:=hb;have h:=same_any (decide (a<0)) (decide (b<0)) A B (ln b16 a.natAbs) (ln b16 b.natAbs) c d _ _ w hA hB la lb;rw[sameW_num] at h;exact h
theorem add_v (ha:WV w a s A n)(hb:WV w b t B m)(la:n<=1024)(lb:m<=1024)(lr:ln b16 (a+b).natAbs<=1024):
  Calls Tryz.prog 153 #[.agg #[.bool s,.slice A n c],.agg #[.bool t,.slice B m d]] w (VR (a+b) w):=by
 obtain⟨rfl,rfl,hA⟩:=ha;obtain⟨rfl,rfl,hB⟩:=hb
 exact(add_any a b A B c d w hA hB la lb).mono fun _ _ h=>h.vr lr
theorem mul_v (ha:WV w a s A n)(hb:WV w b t B m)(la:n<=1024)(lb:m<=1024)(lr:ln b16 (a*b).natAbs<=1024):
  Calls Tryz.prog 125 #[.agg #[.bool s,.slice A n c],.agg #[.bool t,.slice B m d]] w (VR (a*b) w):=by
 obtain⟨rfl,rfl,hA⟩:=ha;obtain⟨rfl,rfl,hB⟩:=hb
 exact(mul_any a b A B c d w hA hB la lb).mono fun _ _ h=>h.vr lr
end
end Go.Proofs.YtclbiihcbfnjmaaGreat
/-! The walks of the laws' helpers sum, product, less and equal. -/
namespace Go.Proofs.YtclbiihcbfnjmaaGreat
open Go.RowKit

section
variable {a b:Int} {s t:Bool} {A B:Option Addr} {n m c d:Nat} {w:World}
end
end Go.Proofs.YtclbiihcbfnjmaaGreat
/-! The walk of the laws' awake. -/
namespace Go.Proofs.YtclbiihcbfnjmaaGreat
open Go.RowKit

def Stable (P:World->Prop):Prop:=∀W W',Below W.heap.size W W'->P W->P W'
structure Env (w:World)(P:World->Prop)(W:World):Prop where
 bel:Below w.heap.size w W
 st:Stable P
 here:P W
theorem Env.start (w:World):Env w (fun _=>True) w:=⟨Below.refl _ _,fun _ _ _ h=>h,trivial⟩
theorem Env.step {w:World}{P:World->Prop}{W W':World}(h:Env w P W)(hb:Below W.heap.size W W'):Env w P W':=⟨h.bel.trans (hb.mono h.bel.size),h.st,h.st _ _ hb h.here⟩
theorem Env.alloc {w:World}{P:World->Prop}{W:World}(h:Env w P W)(o:Obj):Env w P (W.alloc o):=h.step ((Below.refl _ W).alloc (Nat.le_refl _) o)
theorem Env.drew {w:World}{P:World->Prop}{W:World}(h:Env w P W):Env w P W.drew:=h.step (Below.refl _ W).drew
theorem Env.and {w:World}{P Q:World->Prop}{W:World}(h:Env w P W)(hs:Stable Q)(hq:Q W):Env w (fun W=>P W/\Q W) W:=
 ⟨h.bel,fun A B hb hp=>⟨h.st A B hb hp.1,hs A B hb hp.2⟩,h.here,hq⟩
def Bx (g:Nat)(z:Int)(s:Bool)(A:Option Addr)(n c:Nat)(W:World):Prop:=WholeAt W g s (.slice A n c)/\WV W z s A n
theorem WV.stable (z:Int)(s:Bool)(A:Option Addr)(n:Nat):Stable (fun W=>WV W z s A n):=fun _ _ hb h=>h.below hb
end Go.Proofs.YtclbiihcbfnjmaaGreat
/-! The walk of the laws' usable. -/
namespace Go.Proofs.YtclbiihcbfnjmaaGreat
open Go.RowKit

section
variable {g:Nat} {a b c:Int} {s1 s2 s3:Bool} {A1 A2 A3:Option Addr} {n1 n2 n3 c1 c2 c3:Nat} {w W:World}
end
end Go.Proofs.YtclbiihcbfnjmaaGreat
namespace Go.Proofs.YtclbiihcbfnjmaaGreat
open Go.RowKit

def Blk (t:TypeId)(g:Nat)(cs:Array Value)(w:World):Prop:=w.heap[g]?=some (.cells cs t (0,0))
def noLimb :Value->Bool
 | .int .u16 _=>false
 |_=>true
section
variable {w w':World} {g B:Nat} {t:TypeId} {cs:Array Value}
theorem Blk.lt (h:Blk t g cs w):g<w.heap.size:=heap_lt h
theorem Blk.cell (h:Blk t g cs w)(i:Nat):w.cell? ⟨g,i,none⟩=cs[i]?:=cell_of_row w g i cs t (0,0) h
theorem Blk.frozen (h:Blk t g cs w)(i:Nat):w.frozen? ⟨g,i,none⟩=false:=by
 unfold Blk at h
 simp[World.frozen?,h]
theorem Blk.new (w:World)(t:TypeId)(cs:Array Value):Blk t w.heap.size cs (w.alloc (.cells cs t)):=heap_alloc_new w _
theorem Blk.below (h:Blk t g cs w)(hb:Below B w w')(hg:g<B):Blk t g cs w':=(hb.block g hg).trans h
theorem Blk.stable (t:TypeId)(g:Nat)(cs:Array Value):Stable (Blk t g cs):=fun _ _ hb h=>h.below hb h.lt
theorem Blk.set_ (h:Blk t g cs w)(i:Nat)(u:Value):Blk t g (cs.setIfInBounds i u) (w.setCell ⟨g,i,none⟩ u):=by
 unfold Blk at h⊢
 simp[World.setCell,Array.getElem?_modify,h]
theorem Blk.far (h:Blk t g cs w){p:Addr}(hp:g≠p.block)(u:Value):Blk t g cs (w.setCell p u):=(Below.heap_setCell w p u g hp).trans h
theorem Blk.c2 {a b:Value}(h:Blk t g #[a,b] w):w.cell? ⟨g,0,none⟩=some a/\w.cell? ⟨g,1,none⟩=some b:=⟨h.cell 0,h.cell 1⟩
theorem Blk.c3 {a b c:Value}(h:Blk t g #[a,b,c] w):w.cell? ⟨g,0,none⟩=some a/\w.cell? ⟨g,1,none⟩=some b/\w.cell? ⟨g,2,none⟩=some c:=⟨h.cell 0,h.cell 1,h.cell 2⟩
theorem Blk.c4 {a b c d:Value}(h:Blk t g #[a,b,c,d] w):w.cell? ⟨g,0,none⟩=some a/\w.cell? ⟨g,1,none⟩=some b/\w.cell? ⟨g,2,none⟩=some c/\w.cell? ⟨g,3,none⟩=some d:=⟨h.cell 0,h.cell 1,h.cell 2,h.cell 3⟩
theorem Blk.j2 {a b:Value}{R:Prop}(h:Blk t g #[a,b] w)(r:R):w.cell? ⟨g,0,none⟩=some a/\w.cell? ⟨g,1,none⟩=some b/\R:=⟨h.cell 0,h.cell 1,r⟩
theorem Blk.f2 (h:Blk t g cs w):w.frozen? ⟨g,0,none⟩=false/\w.frozen? ⟨g,1,none⟩=false:=⟨h.frozen 0,h.frozen 1⟩
theorem Blk.j3 {a b c:Value}{R:Prop}(h:Blk t g #[a,b,c] w)(r:R):w.cell? ⟨g,0,none⟩=some a/\w.cell? ⟨g,1,none⟩=some b/\w.cell? ⟨g,2,none⟩=some c/\R:=⟨h.cell 0,h.cell 1,h.cell 2,r⟩
theorem Blk.j4 {a b c d:Value}{R:Prop}(h:Blk t g #[a,b,c,d] w)(r:R):w.cell? ⟨g,0,none⟩=some a/\w.cell? ⟨g,1,none⟩=some b/\w.cell? ⟨g,2,none⟩=some c/\w.cell? ⟨g,3,none⟩=some d/\R:=⟨h.cell 0,h.cell 1,h.cell 2,h.cell 3,r⟩
theorem Blk.f4 (h:Blk t g cs w):w.frozen? ⟨g,0,none⟩=false/\w.frozen? ⟨g,1,none⟩=false/\w.frozen? ⟨g,2,none⟩=false/\w.frozen? ⟨g,3,none⟩=false:=⟨h.frozen 0,h.frozen 1,h.frozen 2,h.frozen 3⟩
theorem Blk.s2 {a b:Value}(h:Blk t g #[a,b] w)(a' b':Value):Blk t g #[a',b'] ((w.setCell ⟨g,0,none⟩ a').setCell ⟨g,1,none⟩ b'):=by
 have:=(h.set_ 0 a').set_ 1 b'
 simpa using this
theorem Blk.s4 {a b c d:Value}(h:Blk t g #[a,b,c,d] w)(a' b' c' d':Value):Blk t g #[a',b',c',d'] ((((w.setCell ⟨g,0,none⟩ a').setCell ⟨g,1,none⟩ b').setCell ⟨g,2,none⟩ c').setCell ⟨g,3,none⟩ d'):=by
 have:=(((h.set_ 0 a').set_ 1 b').set_ 2 c').set_ 3 d'
 simpa using this
theorem Blk.far2 {R:Nat}(h:Blk t g cs w)(hp:g≠R)(a b:Value):Blk t g cs ((w.setCell ⟨R,0,none⟩ a).setCell ⟨R,1,none⟩ b):=(h.far (p:=⟨R,0,none⟩) hp a).far (p:=⟨R,1,none⟩) hp b
theorem Blk.far4 {R:Nat}(h:Blk t g cs w)(hp:g≠R)(a b c d:Value):Blk t g cs ((((w.setCell ⟨R,0,none⟩ a).setCell ⟨R,1,none⟩ b).setCell ⟨R,2,none⟩ c).setCell ⟨R,3,none⟩ d):=(h.far2 hp a b).far (p:=⟨R,2,none⟩) hp c|>.far (p:=⟨R,3,none⟩) hp d
theorem Rd.sep {n i:Nat}{A:Option Addr}{f:Nat->Nat}(h:Rd B .u16 w A n f)(hW:Blk t g cs w)(hn:cs.toList.all noLimb=true)(u:Value):Rd B .u16 (w.setCell ⟨g,i,none⟩ u) A n f:=fun h0=>by
 obtain⟨b,o,e,hb,hc⟩:=h h0;refine⟨b,o,e,hb,fun j hj=> ?_⟩
 have hne:b≠g:=fun e=>by
  subst e;have h1:=hc j hj;rw[hW.cell] at h1;have h2:=List.all_eq_true.1 hn _ (Array.mem_toList_iff.2 (Array.mem_of_getElem? h1))
  cases h2
 rw[World.cell?_setCell_other w _ _ u (fun e=>hne (congrArg Addr.block e).symm)];exact hc j hj
theorem WV.sep {i n:Nat}{z:Int}{s:Bool}{A:Option Addr}(h:WV w z s A n)(hW:Blk t g cs w)(hn:cs.toList.all noLimb=true)(u:Value):WV (w.setCell ⟨g,i,none⟩ u) z s A n:=by
 refine⟨h.1,h.2.1, ?_⟩;have h3:Rd w.heap.size .u16 w A (ln b16 z.natAbs) (dgt b16 z.natAbs):=h.2.2;have h4:=h3.sep hW hn (i:=i) u;unfold Num16
 rwa [World.size_setCell]
theorem WV.sep2 {n:Nat}{z:Int}{s:Bool}{A:Option Addr}{x y:Value}(h:WV w z s A n)(hW:Blk t g #[x,y] w)(hn: [x,y].all noLimb=true)(a b:Value)(ha:noLimb a=true):WV ((w.setCell ⟨g,0,none⟩ a).setCell ⟨g,1,none⟩ b) z s A n:=by
 refine(h.sep hW hn a).sep (hW.set_ 0 a) ?_ b;simp only[List.all_cons,List.all_nil,Bool.and_true,Bool.and_eq_true] at hn;show(noLimb a&&(noLimb y&&true))=true;rw[ha,hn.2];rfl
theorem WV.sep4 {n:Nat}{z:Int}{s:Bool}{A:Option Addr}{x y u v:Value}(h:WV w z s A n)(hW:Blk t g #[x,y,u,v] w)(hn: [x,y,u,v].all noLimb=true)(a b c d:Value)(ha:noLimb a=true)(hb:noLimb b=true)(hc:noLimb c=true):
  WV ((((w.setCell ⟨g,0,none⟩ a).setCell ⟨g,1,none⟩ b).setCell ⟨g,2,none⟩ c).setCell ⟨g,3,none⟩ d) z s A n:=by
 simp only[List.all_cons,List.all_nil,Bool.and_true,Bool.and_eq_true] at hn;obtain⟨h1,h2,h3,h4⟩:=hn;refine(((h.sep hW (by simp[h1,h2,h3,h4]) a).sep (hW.set_ 0 a) ?_ b).sep ((hW.set_ 0 a).set_ 1 b) ?_ c).sep (((hW.set_ 0 a).set_ 1 b).set_ 2 c) ?_ d
 ·
  show(noLimb a&&(noLimb y&&(noLimb u&&(noLimb v&&true))))=true;rw[ha,h2,h3,h4];rfl
 ·
  show(noLimb a&&(noLimb b&&(noLimb u&&(noLimb v&&true))))=true;rw[ha,hb,h3,h4];rfl
 ·
  show(noLimb a&&(noLimb b&&(noLimb c&&(noLimb v&&true))))=true;rw[ha,hb,hc,h4];rfl
end
end Go.Proofs.YtclbiihcbfnjmaaGreat
namespace Go.Proofs.YtclbiihcbfnjmaaGreat
open Go.RowKit

theorem belAlloc (W:World)(o:Obj):Below W.heap.size W (W.alloc o):=(Below.refl _ W).alloc (Nat.le_refl _) o
end Go.Proofs.YtclbiihcbfnjmaaGreat
namespace Go.Proofs.YtclbiihcbfnjmaaGreat
open Go.RowKit

def FV (w:World)(q:Rat)(s:Bool)(A:Option Addr)(n:Nat)(t:Bool)(B:Option Addr)(m:Nat):Prop:=WV w q.num s A n/\WV w ((q.den:Nat):Int) t B m
theorem FV.below {w w':World}{q:Rat}{s t:Bool}{A B:Option Addr}{n m:Nat}(h:FV w q s A n t B m)(hb:Below w.heap.size w w'):FV w' q s A n t B m:=⟨h.1.below hb,h.2.below hb⟩
theorem FV.stable (q:Rat)(s:Bool)(A:Option Addr)(n:Nat)(t:Bool)(B:Option Addr)(m:Nat):Stable (fun W=>FV W q s A n t B m):=fun _ _ hb h=>h.below hb
theorem FV.sep {w:World}{q:Rat}{s t:Bool}{A B:Option Addr}{n m g i:Nat}{T:TypeId}{cs:Array Value}(h:FV w q s A n t B m)(hW:Blk T g cs w)(hn:cs.toList.all noLimb=true)(u:Value):FV (w.setCell ⟨g,i,none⟩ u) q s A n t B m:=⟨h.1.sep hW hn u,h.2.sep hW hn u⟩
theorem FV.sep4 {w:World}{q:Rat}{s t:Bool}{A B:Option Addr}{n m g:Nat}{T:TypeId}{x y u v:Value}(h:FV w q s A n t B m)(hW:Blk T g #[x,y,u,v] w)(hn: [x,y,u,v].all noLimb=true)(a b c d:Value)(ha:noLimb a=true)(hb:noLimb b=true)(hc:noLimb c=true):
  FV ((((w.setCell ⟨g,0,none⟩ a).setCell ⟨g,1,none⟩ b).setCell ⟨g,2,none⟩ c).setCell ⟨g,3,none⟩ d) q s A n t B m:=⟨h.1.sep4 hW hn a b c d ha hb hc,h.2.sep4 hW hn a b c d ha hb hc⟩
theorem Env.again {w W:World}(h:Below w.heap.size w W):Env w (fun _=>True) W:=⟨h,fun _ _ _ h=>h,trivial⟩
theorem Env.blkI {w W:World}{P:World->Prop}{g:Nat}{t:TypeId}{cs:Array Value}(h:Env w P W)(hb:Blk t g cs W):Env w (fun V=>P V/\Blk t g cs V) W:=h.and (Blk.stable _ _ _) hb
theorem bel2 {w W:World}{g:Nat}(h:Below w.heap.size w W)(hg:w.heap.size<=g)(a b:Value):Below w.heap.size w ((W.setCell ⟨g,0,none⟩ a).setCell ⟨g,1,none⟩ b):=(h.setCell (p:=⟨g,0,none⟩) hg _).setCell (p:=⟨g,1,none⟩) hg _
theorem bel4 {w W:World}{g:Nat}(h:Below w.heap.size w W)(hg:w.heap.size<=g)(a b c d:Value):Below w.heap.size w ((((W.setCell ⟨g,0,none⟩ a).setCell ⟨g,1,none⟩ b).setCell ⟨g,2,none⟩ c).setCell ⟨g,3,none⟩ d):=((bel2 h hg a b).setCell (p:=⟨g,2,none⟩) hg _).setCell (p:=⟨g,3,none⟩) hg _
theorem FV.ln {w:World}{q:Rat}{s t:Bool}{A B:Option Addr}{n m k:Nat}(h:FV w q s A n t B m)(hq:fl q<=k):n<=k/\m<=k:=by
 have h1:=fl_le.1 hq;have h2:=h.1.len;have h3:=h.2.len;rw[Int.natAbs_natCast] at h3;omega
theorem Env.blk {w W:World}{P:World->Prop}{g:Nat}(h:Env w P W)(t:TypeId)(cs:Array Value)(hg:W.heap.size=g):Env w (fun V=>P V/\Blk t g cs V) (W.alloc (.cells cs t)):=by
 subst hg;exact(h.alloc _).and (Blk.stable _ _ _) (Blk.new W t cs)
theorem Env.wv {w W:World}{P:World->Prop}{z:Int}{s:Bool}{A:Option Addr}{n:Nat}(h:Env w P W)(hv:WV W z s A n):Env w (fun V=>P V/\WV V z s A n) W:=h.and (WV.stable _ _ _ _) hv
theorem Env.fv {w W:World}{P:World->Prop}{q:Rat}{s t:Bool}{A B:Option Addr}{n m:Nat}(h:Env w P W)(hv:FV W q s A n t B m):Env w (fun V=>P V/\FV V q s A n t B m) W:=h.and (FV.stable _ _ _ _ _ _ _) hv
def WR (z:Int)(w:World)(e:Ending)(w':World):Prop:=∃s A n c,e= .returned (.agg #[.bool s,.slice A n c])/\WV w' z s A n/\Below w.heap.size w w'

theorem isOne_v {z:Int}{s:Bool}{A:Option Addr}{n c:Nat}{w:World}(ha:WV w z s A n)(hn:n<=1000000):
  Calls Tryz.prog 150 #[.agg #[.bool s,.slice A n c]] w fun e w'=>e= .returned (.bool (decide (z=1)))/\Below w.heap.size w w':=by
 have hbl:Below w.heap.size w (w.alloc (.cells #[.bool s,.slice A n c] 27)):=(Below.refl _ _).alloc (Nat.le_refl _) _;obtain⟨hs,hl,hr⟩:=ha
 cases s with
 |true=>
  have hz:z<0:=of_decide_eq_true hs.symm;clear hs hl hr;have HE:=Lib.hid (decide_eq_false (show¬z=1 by omega))
  go_enter Tryz.func150,Tryz.ntmps150
  go_wp2_with fail
  go_ret
  exact⟨ret_bool HE.out.symm,hbl⟩
 |false=>
  have hz:¬z<0:=of_decide_eq_false hs.symm
  by_cases h1:n=1
  ·
   subst h1;obtain⟨b,o,rfl,hb,hc⟩:=hr (by omega);have c1:=hc 0 (by omega);rw[Nat.add_zero] at c1
   have hv:dgt b16 z.natAbs 0=z.natAbs:=by
    have h:=vs_dgt_ln b16_two (x:=z.natAbs);rw[<-hl,vs_succ,vs_zero] at h
    simpa using h
   rw[hv] at c1;have hlt:b<w.heap.size:=hb;clear hl hs hc hr hv;have c2:(w.alloc (.cells #[.bool false,.slice (some ⟨b,o,none⟩) 1 c] 27)).cell? ⟨b,o,none⟩=some (.int .u16 ((z.natAbs:Nat):Int)):=(World.cell?_alloc_lt w _ ⟨b,o,none⟩ hlt).trans c1
   by_cases h2:z=1
   ·
    have e1:=decide_eq_true h2;have t2:(((z.natAbs:Nat):Int)==1)=true:=beq_iff_eq.2 (by omega);have HE:=Lib.hid e1;clear e1 h2
    go_enter Tryz.func150,Tryz.ntmps150
    go_wp2_with fail
    go_ret
    exact⟨ret_bool HE.out.symm,hbl⟩
   ·
    have e1:=decide_eq_false h2;have t2:(((z.natAbs:Nat):Int)==1)=false:=beq_eq_false_iff_ne.2 (by omega);have HE:=Lib.hid e1;clear e1 h2
    go_enter Tryz.func150,Tryz.ntmps150
    go_wp2_with fail
    go_ret
    exact⟨ret_bool HE.out.symm,hbl⟩
  ·
   have hz1:¬z=1:=fun e=>h1 (by rw[hl,e];decide)
   have e1:=decide_eq_false hz1;have t1:((n:Int)==1)=false:=beq_eq_false_iff_ne.2 (by omega);have HE:=Lib.hid e1;clear e1 hl hz1 hs hr
   go_enter Tryz.func150,Tryz.ntmps150
   go_wp2_with fail
   go_ret
   exact⟨ret_bool HE.out.symm,hbl⟩
end Go.Proofs.YtclbiihcbfnjmaaGreat
namespace Go.Proofs.YtclbiihcbfnjmaaGreat
open Go.RowKit

theorem rtrim_round {f:Nat->Nat}{k V:Nat}(hk0:0<k)(hv:vs b16 f k=V)(hx:f (k-1)=0):vs b16 f (k-1)=V:=by
 have h1:=vs_succ b16 f (k-1);rw[show k-1+1=k by omega,hv,hx] at h1;omega
theorem rtrim_any (B:Nat)(A:Option Addr)(n c:Nat)(f:Nat->Nat)(w:World)(h:Rd B .u16 w A n f)(hf:∀i,i<n->f i<65536)(hc:n<=c)(hn:n<=100000000):
  Calls Tryz.prog 177 #[.slice A n c] w fun e w'=>e= .returned (.slice A (ln b16 (vs b16 f n)) c)/\w=w':=by
 have HF:=Lib.hid hf;clear hf
 go_enter Tryz.func177,Tryz.ntmps177
 go_wp2_with fail
 go_loopw [3] (fun v wr=>∃k:Nat,k<=n/\v= .int .i64 (k:Int)/\Hid (vs b16 f k=vs b16 f n)/\wr=w) (fun v _=>(intOf v).toNat)
 case atStart=>exact⟨n,Nat.le_refl _,rfl,Lib.hid rfl,rfl⟩
 case round=>
  obtain⟨k,hk,rfl,HV,rfl⟩:=hrel
  rcases Nat.eq_zero_or_pos k with rfl|hk0
  ·
   go_wp2_with fail
   go_ret
   exact⟨ret_slice (by rw[<-HV.out,vs_zero,ln_zero]),rfl⟩
  ·
   obtain⟨b,o,rfl,hb,hcell⟩:=h (by omega);have hx:=hcell (k-1) (by omega)
   have t0:(0:Int)<(k:Int):=by omega
   have e1:(k:Int)-1=((k-1:Nat):Int):=by omega
   have e2:((k:Int)-1).toNat=k-1:=by omega
   have i1:(0:Int)<=(k:Int)-1:=by omega
   have i2:(k:Int)-1<(n:Int):=by omega
   have i3:(k:Int)<=(c:Int):=by omega
   clear hcell
   by_cases h0:f (k-1)=0
   ·
    have t1:(((f (k-1):Nat):Int)==0)=true:=by rw[h0];rfl
    have HN:=Lib.hid (rtrim_round hk0 HV.out h0);clear h0;go_wp2_with fail
    go_roundw
    case rel=>exact⟨k-1,by omega,rfl,HN,by first|trivial|rfl⟩
    case measure=>simp[intOf];omega
   ·
    have t1:(((f (k-1):Nat):Int)==0)=false:=beq_eq_false_iff_ne.2 (by omega);have H0:=Lib.hid h0;clear h0;go_wp2_with fail
    go_ret
    exact⟨ret_slice (by rw[<-HV.out,ln_vs b16_two (fun j hj=>HF.out j (by omega)) (.inr H0.out)]),rfl⟩
def LessPost (a b:Nat)(w:World)(e:Ending)(w':World):Prop:=e= .returned (.bool (decide (a<b)))/\∃n,w'=w.drewN n

theorem rless_len (A B:Option Addr)(n m c d:Nat)(w:World)(h:n≠m):
  Calls Tryz.prog 164 #[.slice A n c,.slice B m d] w fun e w'=>e= .returned (.bool (decide (n<m)))/\w=w':=by
 rcases Nat.lt_or_gt_of_ne h with h1|h1
 ·
  have k1:((n:Int) !=m)=true:=by simp;omega
  have k2:decide ((n:Int)<(m:Int))=true:=decide_eq_true (by omega);have k3:=Lib.hid (decide_eq_true h1)
  go_enter Tryz.func164,Tryz.ntmps164
  go_wp2
  go_ret
  first|exact⟨ret_bool k3.out.symm,rfl⟩|exact⟨rfl,rfl⟩
 ·
  have k1:((n:Int) !=m)=true:=by simp;omega
  have k2:decide ((n:Int)<(m:Int))=false:=decide_eq_false (by omega);have k3:=Lib.hid (decide_eq_false (show¬n<m by omega))
  go_enter Tryz.func164,Tryz.ntmps164
  go_wp2
  go_ret
  first|exact⟨ret_bool k3.out.symm,rfl⟩|exact⟨rfl,rfl⟩

theorem rless_same (A B:Option Addr)(n c d a b:Nat)(w:World)(ha:Rd w.heap.size .u16 w A n (dgt b16 a))(hb:Rd w.heap.size .u16 w B n (dgt b16 b))(hn:n<=100000000)(la:a<b16^n)(lb:b<b16^n):
  Calls Tryz.prog 164 #[.slice A n c,.slice B n d] w (LessPost a b w):=by
 have LA:=Lib.hid la;have LB:=Lib.hid lb;clear la lb
 have hcell:∀j,j<n->∃p q p' q',A=some ⟨p,q,none⟩/\B=some ⟨p',q',none⟩/\(w.cell? ⟨p,q+j,none⟩=some (.int .u16 (dgt b16 a j:Int)))/\(w.cell? ⟨p',q'+j,none⟩=some (.int .u16 (dgt b16 b j:Int))):=fun j hj=>by
  obtain⟨p,q,e,_,h1⟩:=ha (by omega);obtain⟨p',q',e',_,h2⟩:=hb (by omega);exact⟨p,q,p',q',e,e',h1 j hj,h2 j hj⟩
 have HC:=Lib.hid hcell;clear ha hb hcell
 go_enter Tryz.func164,Tryz.ntmps164
 go_wp2
 go_loopw [5] (fun i wr=>∃k:Nat,k<=n/\i= .int .i64 ((k:Int)-1)/\(∀j,k<=j->j<n->dgt b16 a j=dgt b16 b j)/\∃m,wr=w.drewN m) (fun i _=>(intOf i+1).toNat)
 case atStart=>exact⟨n,Nat.le_refl _,rfl,fun j h1 h2=>absurd h2 (by omega),0,rfl⟩
 case round=>
  obtain⟨k,hk,rfl,he,m,rfl⟩:=hrel;have HE:=Lib.hid he;clear he
  rcases Nat.eq_zero_or_pos k with rfl|hk0
  ·
   go_wp2
   go_ret
   exact⟨ret_bool (decide_eq_false (show¬a<b from fun hh=>by have:=eq_of_dgt LA.out LB.out fun j hj=>HE.out j (by omega) hj;omega)).symm,m,rfl⟩
  ·
   obtain⟨p,q,p',q',rfl,rfl,h1,h2⟩:=HC.out (k-1) (by omega)
   have ek:((k:Int)-1).toNat=k-1:=by omega
   rcases Nat.lt_trichotomy (dgt b16 a (k-1)) (dgt b16 b (k-1)) with hlt|heq|hgt
   ·
    have t1:(((dgt b16 a (k-1):Nat):Int) !=((dgt b16 b (k-1):Nat):Int))=true:=by simp;omega
    have t2:((dgt b16 a (k-1):Nat):Int)<((dgt b16 b (k-1):Nat):Int):=by omega
    have t3:=Lib.hid (decide_eq_true (lt_of_dgt b16_two LA.out LB.out (by omega) (fun j h1 h2=>HE.out j (by omega) h2) hlt))
    go_wp2
    go_quiet (fail)
    go_wp2
    go_quiet (fail)
    go_wp2
    go_ret
    first|exact⟨ret_bool t3.out.symm,_,by rw[World.drewN_drewN,World.drewN_drewN]⟩|exact⟨ret_bool (by rw[t3.out];first|exact decide_eq_false (by omega)|exact decide_eq_true (by omega)),_,by rw[World.drewN_drewN,World.drewN_drewN]⟩
   ·
    have t1:(((dgt b16 a (k-1):Nat):Int) !=((dgt b16 b (k-1):Nat):Int))=false:=by simp;omega
    go_wp2
    go_quiet (fail)
    go_wp2
    go_roundw
    case rel=>
     refine⟨k-1,by omega,by go_num,fun j h1 h2=> ?_,_,rfl⟩
     by_cases e:j=k-1
     ·rw[e];exact heq
     ·exact HE.out j (by omega) h2
    case measure=>simp[intOf];omega
   ·
    have t1:(((dgt b16 a (k-1):Nat):Int) !=((dgt b16 b (k-1):Nat):Int))=true:=by simp;omega
    have t2:¬((dgt b16 a (k-1):Nat):Int)<((dgt b16 b (k-1):Nat):Int):=by omega
    have t3:=Lib.hid (decide_eq_false (Nat.lt_asymm (lt_of_dgt b16_two LB.out LA.out (by omega) (fun j h1 h2=>(HE.out j (by omega) h2).symm) hgt)))
    go_wp2
    go_quiet (fail)
    go_wp2
    go_quiet (fail)
    go_wp2
    go_ret
    first|exact⟨ret_bool t3.out.symm,_,by rw[World.drewN_drewN,World.drewN_drewN]⟩|exact⟨ret_bool (by rw[t3.out];first|exact decide_eq_false (by omega)|exact decide_eq_true (by omega)),_,by rw[World.drewN_drewN,World.drewN_drewN]⟩
theorem rless_any (A B:Option Addr)(c d a b:Nat)(w:World)(ha:Num16 w A a)(hb:Num16 w B b)(la:ln b16 a<=100000000):
  Calls Tryz.prog 164 #[.slice A (ln b16 a) c,.slice B (ln b16 b) d] w (LessPost a b w):=by
 by_cases h:ln b16 a=ln b16 b
 ·
  unfold Num16 at ha hb;have h1:=lt_pow_ln b16_two a;have h2:=lt_pow_ln b16_two b;rw[<-h] at hb h2⊢;exact rless_same A B _ c d a b w ha hb la h1 h2
 ·
  refine(rless_len A B _ _ c d w h).mono fun e w' ⟨he,hw⟩=>⟨?_,0,hw.symm⟩
  rw[he]
  rcases Nat.lt_or_gt_of_ne h with h1|h1
  ·
   have:a<b:=Nat.lt_of_not_le fun hle=>by have:=ln_mono b16_two hle;omega
   rw[decide_eq_true h1,decide_eq_true this]
  ·
   have:b<a:=Nat.lt_of_not_le fun hle=>by have:=ln_mono b16_two hle;omega
   rw[decide_eq_false (show¬ln b16 a<ln b16 b by omega),decide_eq_false (show¬a<b by omega)]
end Go.Proofs.YtclbiihcbfnjmaaGreat
namespace Go.Proofs.YtclbiihcbfnjmaaGreat
open Go.RowKit

theorem Num16.of_rd {w:World}{A:Option Addr}{n:Nat}{f:Nat->Nat}(h:Rd w.heap.size .u16 w A n f)(hf:∀i,i<n->f i<65536):Num16 w A (vs b16 f n):=by
 have hl:ln b16 (vs b16 f n)<=n:=(ln_le b16_two).2 (vs_lt hf)
 exact(h.shorter hl).congr fun i hi=>(dgt_vs hf (by omega)).symm

end Go.Proofs.YtclbiihcbfnjmaaGreat
namespace Go.Proofs.YtclbiihcbfnjmaaGreat
open Go.RowKit

def qst16 (x d k j:Nat):Nat:=if k<=j then dgt b16 (x/d) j else 0
theorem qst16_lt (x d k j:Nat):qst16 x d k j<65536:=by unfold qst16;split;exact dgt16_lt ..;decide
theorem qst16_total {n:Nat}(x d:Nat)(h:x<b16^n):vs b16 (qst16 x d 0) n=x/d:=by
 rw[vs_congr (g:=dgt b16 (x/d)) fun j _=>by simp[qst16]];exact vs_dgt_lt (Nat.lt_of_le_of_lt (Nat.div_le_self ..) h)
theorem half_step (x k:Nat):x/b16^(k+1)%131072%2*65536+dgt b16 x k=x/b16^k%131072/\x/b16^k%131072/2=dgt b16 (x/2) k:=by
 have e1:x/b16^k=65536*(x/b16^(k+1))+dgt b16 x k:=by
  rw[dgt,Nat.pow_succ,<-Nat.div_div_eq_div_mul];exact(Nat.div_add_mod _ _).symm
 have e2:dgt b16 (x/2) k=x/b16^k/2%65536:=by
  rw[dgt,Nat.div_div_eq_div_mul,Nat.div_div_eq_div_mul,Nat.mul_comm];rfl
 have h1:=dgt16_lt x k;rw[e2]
 generalize x/b16^k=a at*
 generalize x/b16^(k+1)=b at*
 generalize dgt b16 x k=c at*
 omega

theorem rhalf_any (A:Option Addr)(c x:Nat)(w:World)(hx:Num16 w A x)(hn:ln b16 x<=2000000):
  Calls Tryz.prog 176 #[.slice A (ln b16 x) c] w fun e w'=>∃A' c',e= .returned (.slice A' (ln b16 (x/2)) c')/\Num16 w' A' (x/2)/\(∀p,A'=some p->w.heap.size<=p.block)/\Below w.heap.size w w':=by
 have hmk:=mk16 (ln b16 x) (ln b16 x) (Nat.le_refl _) (by omega);have HN:=Lib.hid (qst16_total x 2 (lt_pow_ln b16_two x));have HL:=Lib.hid (lt_pow_ln b16_two x)
 go_enter Tryz.func176,Tryz.ntmps176
 go_wp2_with fail
 clear hmk
 go_loopw [4,5] (fun r i wr=>∃k:Nat,k<=ln b16 x/\i= .int .i64 ((k:Int)-1)/\r= .int .i64 ((x/b16^k%131072:Nat):Int)/\Row wr w.heap.size 108 .u16 (ln b16 x) (ln b16 x) (qst16 x 2 k)/\Below w.heap.size w wr) (fun _ i _=>(intOf i+1).toNat)
 case atStart=>exact⟨ln b16 x,Nat.le_refl _,rfl,by rw[Nat.div_eq_of_lt HL.out];rfl,Row.made.congr fun j hj=>by simp only[qst16];rw[if_neg (by omega)],(Below.refl _ _).alloc (Nat.le_refl _) _⟩
 case round=>
  obtain⟨k,hk,rfl,rfl,hrow,hbel⟩:=hrel
  rcases Nat.eq_zero_or_pos k with rfl|hk0
  ·
   have ht:=rtrim_any wr.heap.size (some ⟨w.heap.size,0,none⟩) (ln b16 x) (ln b16 x) _ wr (hrow.rd (Nat.le_refl _) hrow.lt) (fun i _=>qst16_lt ..) (Nat.le_refl _) (by omega);have hnum:=Num16.of_rd (hrow.rd (Nat.le_refl _) hrow.lt) (fun i _=>qst16_lt ..);rw[HN.out] at ht hnum;have HT:=Lib.hid ht;have HNUM:=Lib.hid hnum;clear ht hnum;go_wp2_with fail
   refine HT.out.mono ?_
   rintro e w3 ⟨rfl,rfl⟩
   go_wp2_with fail
   go_ret
   exact⟨_,_,rfl,HNUM.out,fun p hp=>by injection hp with hp;rw[<-hp];exact Nat.le_refl _,hbel⟩
  ·
   obtain⟨j,rfl⟩:∃j,k=j+1:=⟨k-1,by omega⟩
   have ej:(((j+1:Nat):Int)-1)=(j:Int):=by omega
   rw[ej];obtain⟨b,o,rfl,hb,hca⟩:=hx (by omega);have c0:=(hbel.cell (p:=⟨b,o+j,none⟩) hb).trans (hca j (by omega));have c1:=hrow.cell (i:=j) (by omega);have c2:=hrow.frozen j;have hl:=dgt16_lt x j;have hq:=dgt16_lt (x/2) j;obtain⟨s1,s2⟩:=half_step x j
   obtain⟨N,hN⟩:∃N,N=x/b16^(j+1)%131072:=⟨_,rfl⟩
   obtain⟨M,hM⟩:∃M,M=x/b16^j%131072:=⟨_,rfl⟩
   rw[<-hN,<-hM] at s1;rw[<-hM] at s2;rw[<-hN]
   obtain⟨P,hP⟩:∃P,P=N%2:=⟨_,rfl⟩
   have hPl:P<=1:=by omega
   have hNl:N<131072:=by omega
   have r1:(N:Int).tmod 2=(P:Int):=by rw[Int.tmod_eq_emod_of_nonneg (by omega)];omega
   have o1:IntKind.i64.wrap ((P:Int)*65536)=(P:Int)*65536:=by rw[IntKind.wrap_i64];omega
   have o2:IntKind.i64.wrap ((dgt b16 x j:Nat):Int)=((dgt b16 x j:Nat):Int):=by rw[IntKind.wrap_i64];omega
   have o3:IntKind.i64.wrap ((P:Int)*65536+((dgt b16 x j:Nat):Int))=(M:Int):=by rw[IntKind.wrap_i64];omega
   have r2:(M:Int).tdiv 2=((dgt b16 (x/2) j:Nat):Int):=by rw[Int.tdiv_eq_ediv_of_nonneg (by omega)];omega
   have o4:IntKind.u16.wrap ((dgt b16 (x/2) j:Nat):Int)=((dgt b16 (x/2) j:Nat):Int):=by rw[IntKind.wrap_u16];omega
   have i1:(j:Int)<((ln b16 x:Nat):Int):=by omega
   have HM:=Lib.hid hM;clear s1 s2 hN hM hP hca;go_wp2_with fail
   go_roundw
   case rel=>exact⟨j,by omega,by go_num,by rw[HM.out],hrow.set (by simp[qst16]) fun q _ hq=>by simp only[qst16,show j<=q↔j+1<=q by omega],hbel.setCell (Nat.le_refl _) _⟩
   case measure=>simp[intOf]
end Go.Proofs.YtclbiihcbfnjmaaGreat
/-! The walk of the reference's short. -/
namespace Go.Proofs.YtclbiihcbfnjmaaGreat
open Go.RowKit

theorem short_num {x d:Nat}(hd:0<d)(hd1:d<=65535):vs b16 (fun _=>x%d) 1=x%d/\∀j,j<1->x%d<65536:=by
 have h1:=Nat.mod_lt x hd;refine⟨?_,fun _ _=>by omega⟩;rw[vs_succ,vs_zero]
 simp
def RDiv (x y:Nat)(w:World)(e:Ending)(w':World):Prop:=
 ∃A c B d,e= .returned (.tuple #[.slice A (ln b16 (x/y)) c,.slice B (ln b16 (x%y)) d])/\Num16 w' A (x/y)/\Num16 w' B (x%y)/\(∀p,A=some p->w.heap.size<=p.block)/\(∀p,B=some p->w.heap.size<=p.block)/\Below w.heap.size w w'
theorem rshort_any (A:Option Addr)(c x d:Nat)(w:World)(hx:Num16 w A x)(hd:0<d)(hd1:d<=65535)(hn:ln b16 x<=2000000):
  Calls Tryz.prog 175 #[.slice A (ln b16 x) c,.int .i64 (d:Int)] w (RDiv x d w):=by
 have hmk:=mk16 (ln b16 x) (ln b16 x) (Nat.le_refl _) (by omega);have HN:=Lib.hid (qst16_total x d (lt_pow_ln b16_two x));have HL:=Lib.hid (lt_pow_ln b16_two x);have hn0:((d:Int)==0)=false:=beq_eq_false_iff_ne.2 (by omega)
 have hn1:¬(d:Int)=0:=by omega
 go_enter Tryz.func175,Tryz.ntmps175
 go_wp2_with fail
 clear hmk
 go_loopw [7,8] (fun r i wr=>∃k:Nat,k<=ln b16 x/\i= .int .i64 ((k:Int)-1)/\r= .int .i64 ((x/b16^k%d:Nat):Int)/\Row wr w.heap.size 108 .u16 (ln b16 x) (ln b16 x) (qst16 x d k)/\Below w.heap.size w wr) (fun _ i _=>(intOf i+1).toNat)
 case atStart=>exact⟨ln b16 x,Nat.le_refl _,rfl,by rw[Nat.div_eq_of_lt HL.out];simp,Row.made.congr fun j hj=>by simp only[qst16];rw[if_neg (by omega)],(Below.refl _ _).alloc (Nat.le_refl _) _⟩
 case round=>
  obtain⟨k,hk,rfl,rfl,hrow,hbel⟩:=hrel
  rcases Nat.eq_zero_or_pos k with rfl|hk0
  ·
   have ht:=rtrim_any wr.heap.size (some ⟨w.heap.size,0,none⟩) (ln b16 x) (ln b16 x) _ wr (hrow.rd (Nat.le_refl _) hrow.lt) (fun i _=>qst16_lt ..) (Nat.le_refl _) (by omega);have hnum:=Num16.of_rd (hrow.rd (Nat.le_refl _) hrow.lt) (fun i _=>qst16_lt ..);rw[HN.out] at ht hnum;have HT:=Lib.hid ht;have HNUM:=Lib.hid hnum;have hs1:=short_num (x:=x) hd hd1
   obtain⟨R,hR⟩:∃R,R=x%d:=⟨_,rfl⟩
   rw[<-hR] at hs1
   have hR1:R<65536:=by rw[hR];have:=Nat.mod_lt x hd;omega
   rw[Nat.pow_zero,Nat.div_one,<-hR]
   have o1:IntKind.u16.wrap (R:Int)=(R:Int):=by rw[IntKind.wrap_u16];omega
   have HS:=Lib.hid hs1;have HR:=Lib.hid hR;clear ht hnum hs1 hR;have hcell:=heap_alloc_new wr (.cells #[.int .u16 (R:Int)] 108)
   have hrd2:Rd (wr.heap.size+1) .u16 (wr.alloc (.cells #[.int .u16 (R:Int)] 108)) (some ⟨wr.heap.size,0,none⟩) 1 (fun _=>R):=fun _=>⟨_,0,rfl,Nat.lt_succ_self _,fun i hi=>by
    obtain rfl:i=0:=by omega
    exact(cell_of_row _ _ 0 _ _ (0,0) hcell).trans rfl⟩
   have ht2:=rtrim_any (wr.heap.size+1) (some ⟨wr.heap.size,0,none⟩) 1 1 (fun _=>R) _ hrd2 (fun _ _=>hR1) (Nat.le_refl _) (by omega);have hnum2:=Num16.of_rd (w:=wr.alloc (.cells #[.int .u16 (R:Int)] 108)) (by rw[World.size_alloc];exact hrd2) (fun _ _=>hR1);rw[HS.out.1] at ht2 hnum2;have HT2:=Lib.hid ht2;have HN2:=Lib.hid hnum2;clear hcell hrd2 ht2 hnum2;go_wp2_with fail
   refine HT.out.mono ?_
   rintro e w3 ⟨rfl,rfl⟩
   go_wp2_with fail
   refine HT2.out.mono ?_
   rintro e w3 ⟨rfl,rfl⟩
   go_wp2_with fail
   go_ret2
   have hba:=(Below.refl wr.heap.size wr).alloc (Nat.le_refl _) (.cells #[.int .u16 (R:Int)] 108);rw[HR.out] at HN2 hba⊢;exact⟨_,_,_,_,rfl,Num16.below HNUM.out hba,HN2.out,fun p hp=>by injection hp with hp;rw[<-hp];exact Nat.le_refl _,fun p hp=>by injection hp with hp;rw[<-hp];exact hbel.size,hbel.trans (hba.mono hbel.size)⟩
  ·
   obtain⟨j,rfl⟩:∃j,k=j+1:=⟨k-1,by omega⟩
   have ej:(((j+1:Nat):Int)-1)=(j:Int):=by omega
   rw[ej];obtain⟨b,o,rfl,hb,hca⟩:=hx (by omega);have c0:=(hbel.cell (p:=⟨b,o+j,none⟩) hb).trans (hca j (by omega));have c1:=hrow.cell (i:=j) (by omega);have c2:=hrow.frozen j;have hl:=dgt16_lt x j;have hq:=dgt16_lt (x/d) j;obtain⟨s1,s2⟩:=short_step (B:=b16) (x:=x) (k:=j) hd;have hNl:=Nat.mod_lt (x/b16^(j+1)) hd
   obtain⟨N,hN⟩:∃N,N=x/b16^(j+1)%d:=⟨_,rfl⟩
   rw[<-hN] at s1 s2 hNl;rw[<-hN]
   obtain⟨M,hM⟩:∃M,M=b16*N+dgt b16 x j:=⟨_,rfl⟩
   rw[<-hM] at s1 s2
   have hMv:M=N*65536+dgt b16 x j:=by rw[hM,Nat.mul_comm];rfl
   have hMd:M/d<65536:=by rw[Nat.div_lt_iff_lt_mul hd];(have:(N+1)*65536<=d*65536:=Nat.mul_le_mul_right _ hNl);omega
   rw[Nat.mod_eq_of_lt (show M/d<b16 from hMd)] at s1
   have o1:IntKind.i64.wrap ((N:Int)*65536)=(N:Int)*65536:=by rw[IntKind.wrap_i64];omega
   have o2:IntKind.i64.wrap ((dgt b16 x j:Nat):Int)=((dgt b16 x j:Nat):Int):=by rw[IntKind.wrap_i64];omega
   have o3:IntKind.i64.wrap ((N:Int)*65536+((dgt b16 x j:Nat):Int))=(M:Int):=by rw[IntKind.wrap_i64];omega
   have r1:(M:Int).tdiv (d:Int)=((dgt b16 (x/d) j:Nat):Int):=by rw[Int.tdiv_eq_ediv_of_nonneg (by omega),<-s1];exact(Int.natCast_ediv M d).symm
   have r2:(M:Int).tmod (d:Int)=((x/b16^j%d:Nat):Int):=by rw[Int.tmod_eq_emod_of_nonneg (by omega),<-s2];exact(Int.natCast_emod M d).symm
   have o4:IntKind.u16.wrap ((dgt b16 (x/d) j:Nat):Int)=((dgt b16 (x/d) j:Nat):Int):=by rw[IntKind.wrap_u16];omega
   have i1:(j:Int)<((ln b16 x:Nat):Int):=by omega
   clear s1 s2 hN hM hMv hMd hca HN HL;go_wp2_with fail
   go_roundw
   case rel=>exact⟨j,by omega,by go_num,rfl,hrow.set (by simp[qst16]) fun q _ hq=>by simp only[qst16,show j<=q↔j+1<=q by omega],hbel.setCell (Nat.le_refl _) _⟩
   case measure=>simp[intOf]
end Go.Proofs.YtclbiihcbfnjmaaGreat
namespace Go.Proofs.YtclbiihcbfnjmaaGreat
open Go.RowKit

theorem dv_step {x e:Nat}(he:0<e):(x/e=2*(x/(e*2))+(if x%(e*2)<e then 0 else 1))/\x%e=(if x%(e*2)<e then x%(e*2) else x%(e*2)-e):=by
 have h1:x/(e*2)=x/e/2:=(Nat.div_div_eq_div_mul x e 2).symm;have h2:x%(e*2)=x%e+e*(x/e%2):=Nat.mod_mul;have h3:=Nat.mod_lt x he;rw[h1,h2]
 generalize x/e=q at*
 generalize x%e=r at*
 rcases(show q%2=0\/q%2=1 by omega) with h|h
 ·rw[h,Nat.mul_zero,Nat.add_zero,if_pos h3,if_pos h3];omega
 ·rw[h,Nat.mul_one,if_neg (by omega),if_neg (by omega)];omega
theorem two_pow_double (y k:Nat):y*2^k+y*2^k=y*2^(k+1):=by rw[Nat.pow_succ,<-Nat.mul_assoc];omega
theorem two_pow_half (y k:Nat):y*2^(k+1)/2=y*2^k:=by rw[<-two_pow_double];omega
theorem lt_two_pow (k:Nat):k<2^k:=Nat.lt_two_pow_self
theorem le_of_doubles {x y k:Nat}(hy:0<y)(h:∀i,i<k->y*2^i<=x):k<=16*ln b16 x:=by
 rcases Nat.eq_zero_or_pos k with h0|h0
 ·omega
 ·
  have h1:=h (k-1) (by omega);have h2:2^(k-1)<=x:=Nat.le_trans (Nat.le_mul_of_pos_left _ hy) h1
  have h3:x<2^(16*ln b16 x):=by
   have:=lt_pow_ln b16_two x
   rwa [show b16=2^16 from rfl,<-Nat.pow_mul] at this
  have h4:=(Nat.pow_lt_pow_iff_right (by decide:1<2)).1 (Nat.lt_of_le_of_lt h2 h3);omega
theorem le_val_of_double {x y k:Nat}(hy:0<y)(h:y*2^k<=x):k<x:=by
 have h1:=lt_two_pow k;have h2:2^k<=y*2^k:=Nat.le_mul_of_pos_left _ hy;omega
def Dbl (x y n:Nat):Prop:=∀i,i<n->y*2^i<=x
theorem Dbl.succ {x y n:Nat}(h:Dbl x y n)(h1:¬x<y*2^n):Dbl x y (n+1):=fun i hi=>by
 rcases Nat.lt_or_ge i n with h2|h2
 ·exact h i h2
 ·
  obtain rfl:i=n:=by omega
  omega
theorem Dbl.ln {x y n i:Nat}(h:Dbl x y n)(hi:i<n):ln b16 (y*2^i)<=ln b16 x:=ln_mono b16_two (h i hi)
theorem Dbl.ln2 {x y n i B:Nat}(h:Dbl x y n)(hi:i<=n)(hx:Go.Proofs.YtclbiihcbfnjmaaGreat.ln b16 x<=B)(hy:Go.Proofs.YtclbiihcbfnjmaaGreat.ln b16 y<=B):Go.Proofs.YtclbiihcbfnjmaaGreat.ln b16 (y*2^i)<=B+1:=by
 rcases Nat.eq_zero_or_pos i with h0|h0
 ·
  subst h0;rw[Nat.pow_zero,Nat.mul_one];omega
 ·
  have h1:=h.ln (i:=i-1) (by omega);have h2:=ln_add (B:=b16) b16_two (m:=B) (x:=y*2^(i-1)) (y:=y*2^(i-1)) (by omega) (by omega);rw[two_pow_double,show i-1+1=i by omega] at h2;exact h2
theorem dv_start {x y n:Nat}(h:x<y*2^n):x/(y*2^n)=0/\x%(y*2^n)=x:=⟨Nat.div_eq_of_lt h,Nat.mod_eq_of_lt h⟩
end Go.Proofs.YtclbiihcbfnjmaaGreat
namespace Go.Proofs.YtclbiihcbfnjmaaGreat
open Go.RowKit

end Go.Proofs.YtclbiihcbfnjmaaGreat
namespace Go.Proofs.YtclbiihcbfnjmaaGreat
open Go.RowKit

end Go.Proofs.YtclbiihcbfnjmaaGreat
namespace Go.Proofs.YtclbiihcbfnjmaaGreat
open Go.RowKit

def cr (x y k:Nat):Nat:=(x%b16^k+y%b16^k)/b16^k
theorem cr_zero (x y:Nat):cr x y 0=0:=by simp[cr,Nat.mod_one]
theorem cr_le (x y k:Nat):cr x y k<=1:=by
 have hp:0<b16^k:=Nat.pow_pos (by decide);have h1:=Nat.mod_lt x hp;have h2:=Nat.mod_lt y hp;have:cr x y k<2:=(Nat.div_lt_iff_lt_mul hp).2 (by omega);omega
theorem cr_step (x y k:Nat):cr x y (k+1)=(cr x y k+dgt b16 x k+dgt b16 y k)/65536/\dgt b16 (x+y) k=(cr x y k+dgt b16 x k+dgt b16 y k)%65536:=by
 have hp:0<b16^k:=Nat.pow_pos (by decide);have e1:=Nat.div_add_mod x (b16^k);have e2:=Nat.div_add_mod y (b16^k)
 constructor
 ·
  unfold cr dgt;rw[Nat.pow_succ,Nat.mod_mul,Nat.mod_mul,<-Nat.div_div_eq_div_mul];rw[show x%b16^k+b16^k*(x/b16^k%b16)+(y%b16^k+b16^k*(y/b16^k%b16))=(x%b16^k+y%b16^k)+b16^k*(x/b16^k%b16+y/b16^k%b16) by rw[Nat.mul_add];omega];rw[Nat.add_mul_div_left _ _ hp,<-Nat.add_assoc];rfl
 ·
  unfold cr dgt
  have h3:(x+y)/b16^k=(x%b16^k+y%b16^k)/b16^k+(x/b16^k+y/b16^k):=by
   conv=>lhs;rw[<-e1,<-e2]
   rw[show b16^k*(x/b16^k)+x%b16^k+(b16^k*(y/b16^k)+y%b16^k)=(x%b16^k+y%b16^k)+b16^k*(x/b16^k+y/b16^k) by rw[Nat.mul_add];omega];rw[Nat.add_mul_div_left _ _ hp]
  rw[h3];show((x%b16^k+y%b16^k)/b16^k+(x/b16^k+y/b16^k))%65536=((x%b16^k+y%b16^k)/b16^k+x/b16^k%65536+y/b16^k%65536)%65536;omega
theorem ln_over {x k:Nat}(h:b16^k<=x):k<ln b16 x:=by
 rcases Nat.lt_or_ge k (ln b16 x) with h1|h1
 ·exact h1
 ·have:=(ln_le b16_two).1 h1;omega
theorem plus_more {x y k:Nat}(h:k<ln b16 x\/k<ln b16 y\/0<cr x y k):k<ln b16 (x+y):=by
 rcases h with h|h|h
 ·exact Nat.lt_of_lt_of_le h (ln_mono b16_two (by omega))
 ·exact Nat.lt_of_lt_of_le h (ln_mono b16_two (by omega))
 ·
  refine ln_over ?_;have h1:b16^k<=x%b16^k+y%b16^k:=(Nat.div_pos_iff.1 h).2;have h2:=Nat.mod_le x (b16^k);have h3:=Nat.mod_le y (b16^k);omega
theorem plus_end {x y k:Nat}(h1:ln b16 x<=k)(h2:ln b16 y<=k)(h3:cr x y k=0):ln b16 (x+y)<=k:=by
 have hp:0<b16^k:=Nat.pow_pos (by decide);have e1:=(ln_le b16_two).1 h1;have e2:=(ln_le b16_two).1 h2;refine(ln_le b16_two).2 ?_;unfold cr at h3;rw[Nat.mod_eq_of_lt e1,Nat.mod_eq_of_lt e2] at h3;have:=Nat.lt_of_div_eq_zero hp h3;omega
theorem dgt_over {x k:Nat}(h:ln b16 x<=k):dgt b16 x k=0:=dgt_of_lt ((ln_le b16_two).1 h)

theorem rplus_any (A B:Option Addr)(c d x y:Nat)(w:World)(hA:Num16 w A x)(hB:Num16 w B y)(la:ln b16 x<=1000000)(lb:ln b16 y<=1000000):
  Calls Tryz.prog 163 #[.slice A (ln b16 x) c,.slice B (ln b16 y) d] w fun e w'=>∃A' c',e= .returned (.slice A' (ln b16 (x+y)) c')/\Own16 w.heap.size w' A' (ln b16 (x+y)) c' (dgt b16 (x+y))/\Below w.heap.size w w':=by
 have HA:=Lib.hid hA;have HB:=Lib.hid hB;have hls:ln b16 (x+y)<=1000001:=ln_add b16_two la lb;clear hA hB;obtain⟨i0,hi,hz0,hz1,hz2⟩:=info_parts info_u16
 go_enter Tryz.func163,Tryz.ntmps163
 go_wp2_with fail
 go_loopw [5,6,7] (fun v u i wr=>∃k,i= .int .i64 ((k:Nat):Int)/\u= .int .i64 ((cr x y k:Nat):Int)/\k<=ln b16 (x+y)/\Hid (lenV v=k)/\wr.ownsRow w.heap.size 108 1 v k (nums .u16 k (dgt b16 (x+y)))/\Below w.heap.size w wr) (fun v _ _ _=>ln b16 (x+y)-lenV v)
 case atStart=>exact⟨0,rfl,by rw[cr_zero];rfl,Nat.zero_le _,Lib.hid rfl,World.ownsRow_nil ..,Below.refl _ _⟩
 case round=>
  obtain⟨k,rfl,rfl,hk,hlv,hown,hbl⟩:=hrel;have hcr:=cr_le x y k
  by_cases hc:k<ln b16 x\/k<ln b16 y\/0<cr x y k
  ·
   have hk9:=plus_more hc;have hcs:=cr_step x y k;have HC:=Lib.hid hcs;have HK:=Lib.hid hk9
   obtain⟨q,hq⟩:∃q,q=cr x y k:=⟨_,rfl⟩
   rw[<-hq] at hc hcr⊢;have HQ:=Lib.hid hq;have hdx:=dgt16_lt x k;have hdy:=dgt16_lt y k;clear hcs hk9 hq
   go_upto_region 4 with(fail)
   go_cut [21] from 8 to 21 (fun v wx=>v= .bool true/\wx=wr)
   case first=>
    rcases Nat.lt_or_ge k (ln b16 x) with h1|h1
    ·
     have t1:decide ((k:Int)<((ln b16 x:Nat):Int))=true:=decide_eq_true (by omega);go_wp2_with fail
     go_meet
     exact⟨rfl,rfl⟩
    ·
     have t1:decide ((k:Int)<((ln b16 x:Nat):Int))=false:=decide_eq_false (by omega)
     rcases Nat.lt_or_ge k (ln b16 y) with h2|h2
     ·
      have t2:decide ((k:Int)<((ln b16 y:Nat):Int))=true:=decide_eq_true (by omega);go_wp2_with fail
      go_meet
      exact⟨rfl,rfl⟩
     ·
      have t2:decide ((k:Int)<((ln b16 y:Nat):Int))=false:=decide_eq_false (by omega)
      have t3:0<q:=by omega
      go_wp2_with fail
      go_meet
      exact⟨rfl,rfl⟩
   case rest=>
   obtain⟨rfl,rfl⟩:=hcut
   go_upto_if 27 with(fail)
   go_cut [6] from 27 to 34 (fun v wx=>v= .int .i64 ((q+dgt b16 x k:Nat):Int)/\wx=wc)
   case first=>
    rcases Nat.lt_or_ge k (ln b16 x) with h1|h1
    ·
     obtain⟨p,o,rfl,hp,hca⟩:=(Num16.below HA.out hbl) (by omega);have c1:=hca k h1;have t1:decide ((k:Int)<((ln b16 x:Nat):Int))=true:=decide_eq_true (by omega)
     have t2:(k:Int)<((ln b16 x:Nat):Int):=by omega
     have o1:IntKind.i64.wrap ((dgt b16 x k:Nat):Int)=((dgt b16 x k:Nat):Int):=by rw[IntKind.wrap_i64];omega
     clear hca;go_wp2_with fail
     go_meet
     exact⟨by first|rfl|(congr 1;omega),rfl⟩
    ·
     have t1:decide ((k:Int)<((ln b16 x:Nat):Int))=false:=decide_eq_false (by omega);have HZ:=Lib.hid (dgt_over h1);go_wp2_with fail
     go_meet
     exact⟨by rw[HZ.out];first|rfl|(congr 1;omega),rfl⟩
   case rest=>
   obtain⟨rfl,rfl⟩:=hcut
   obtain⟨q2,hq2⟩:∃q2,q2=q+dgt b16 x k:=⟨_,rfl⟩
   rw[<-hq2]
   have hq2l:q2<=65536:=by omega
   have HQ2:=Lib.hid hq2;clear hq2
   go_upto_if 38 with(fail)
   go_cut [6] from 38 to 45 (fun v wx=>v= .int .i64 ((q2+dgt b16 y k:Nat):Int)/\wx=wc)
   case first=>
    rcases Nat.lt_or_ge k (ln b16 y) with h1|h1
    ·
     obtain⟨p,o,rfl,hp,hca⟩:=(Num16.below HB.out hbl) (by omega);have c1:=hca k h1;have t1:decide ((k:Int)<((ln b16 y:Nat):Int))=true:=decide_eq_true (by omega)
     have t2:(k:Int)<((ln b16 y:Nat):Int):=by omega
     have o1:IntKind.i64.wrap ((dgt b16 y k:Nat):Int)=((dgt b16 y k:Nat):Int):=by rw[IntKind.wrap_i64];omega
     clear hca;go_wp2_with fail
     go_meet
     exact⟨by first|rfl|(congr 1;omega),rfl⟩
    ·
     have t1:decide ((k:Int)<((ln b16 y:Nat):Int))=false:=decide_eq_false (by omega);have HZ:=Lib.hid (dgt_over h1);go_wp2_with fail
     go_meet
     exact⟨by rw[HZ.out];first|rfl|(congr 1;omega),rfl⟩
   case rest=>
   obtain⟨rfl,rfl⟩:=hcut
   obtain⟨T,hT⟩:∃T,T=q2+dgt b16 y k:=⟨_,rfl⟩
   rw[<-hT]
   have hTl:T<=131072:=by omega
   have e1:cr x y (k+1)=T/65536:=by rw[HC.out.1,<-HQ.out,<-HQ2.out,<-hT]
   have e2:dgt b16 (x+y) k=T%65536:=by rw[HC.out.2,<-HQ.out,<-HQ2.out,<-hT]
   clear hT hdx hdy
   have t5:(T:Int).tmod 65536=((dgt b16 (x+y) k:Nat):Int):=by rw[Int.tmod_eq_emod_of_nonneg (by omega),e2];omega
   have t6:(T:Int).tdiv 65536=((cr x y (k+1):Nat):Int):=by rw[Int.tdiv_eq_ediv_of_nonneg (by omega),e1];omega
   have hdl:=dgt16_lt (x+y) k;have hcl:=cr_le x y (k+1);clear e1 e2
   have o3:IntKind.u16.wrap ((dgt b16 (x+y) k:Nat):Int)=((dgt b16 (x+y) k:Nat):Int):=by rw[IntKind.wrap_u16];omega
   have hsz:=hbl.size;go_wp2_with (at_builtin;refine wpList_append_own _ rfl _ _ 25 rfl w.heap.size 108 i0 (.int .u16 0) 1 2 Tryz.underlying25 hi hz0 hz1 hz2 rfl (by decide) _ _ _ rfl (hown.alloc _) ⟨wc.heap.size,0,none⟩ 1 1 [.int .u16 ((dgt b16 (x+y) k:Nat):Int)] rfl rfl (cell_one_new _ _ _) (by simp[Value.oneCell']) (by unfold maxLen;omega) (by omega) (by simp;omega) ?_;intro v' w5 hown5 hgrow _;obtain⟨g',cap',rfl⟩:=ownsRow_succ hown5)
   go_roundw
   case rel=>
    rw[nums_succ] at hown5;exact⟨k+1,rfl,rfl,HK.out,Lib.hid rfl,hown5,(hbl.alloc hsz (.cells #[.int .u16 ((dgt b16 (x+y) k:Nat):Int)] 108)).grown hgrow (by simp;omega) (fun g hg=>(hown.lt g hg).1)⟩
   case measure=>
    have:=HK.out;show ln b16 (x+y)-(k+1)<ln b16 (x+y)-lenV u5;rw[hlv.out];omega
  ·
   have h1:ln b16 x<=k:=by omega
   have h2:ln b16 y<=k:=by omega
   have h3:cr x y k=0:=by omega
   have hkk:k=ln b16 (x+y):=by have:=plus_end h1 h2 h3;omega
   have t1:decide ((k:Int)<((ln b16 x:Nat):Int))=false:=decide_eq_false (by omega);have t2:decide ((k:Int)<((ln b16 y:Nat):Int))=false:=decide_eq_false (by omega);rw[h3];obtain⟨A',c',rfl⟩:=own_slice16 hown;have HK:=Lib.hid hkk;clear hkk h3 hc;go_wp2_with fail
   go_ret
   refine⟨A',c',ret_slice HK.out, ?_,hbl⟩;rw[<-HK.out];exact hown
end Go.Proofs.YtclbiihcbfnjmaaGreat
namespace Go.Proofs.YtclbiihcbfnjmaaGreat
open Go.RowKit

def bw (x y k:Nat):Nat:=if x%b16^k<y%b16^k then 1 else 0
theorem bw_zero (x y:Nat):bw x y 0=0:=by simp[bw,Nat.mod_one]
theorem bw_le (x y k:Nat):bw x y k<=1:=by unfold bw;split<;>omega
theorem bw_div {x y k:Nat}(h:y<=x):(x-y)/b16^k+y/b16^k+bw x y k=x/b16^k:=by
 have hp:0<b16^k:=Nat.pow_pos (by decide);have e1:=Nat.div_add_mod x (b16^k);have e2:=Nat.div_add_mod y (b16^k);have l1:=Nat.mod_lt x hp;have l2:=Nat.mod_lt y hp;unfold bw
 generalize b16^k=P at*
 generalize x%P=a at*
 generalize y%P=a' at*
 generalize x/P=X at*
 generalize y/P=Y at*
 by_cases hb:a<a'
 ·
  rw[if_pos hb]
  have hXY:Y+1<=X:=by
   rcases Nat.lt_or_ge Y X with h1|h1
   ·exact h1
   ·have:=Nat.mul_le_mul_left P h1;omega
  obtain⟨Z,rfl⟩:=Nat.le.dest hXY
  have e3:P*(Y+1+Z)=P*Y+P+P*Z:=by rw[Nat.mul_add,Nat.mul_add,Nat.mul_one]
  have e4:x-y=(P+a-a')+P*Z:=by omega
  rw[e4,Nat.add_mul_div_left _ _ hp,Nat.div_eq_of_lt (by omega)];omega
 ·
  rw[if_neg hb]
  have hXY:Y<=X:=by
   rcases Nat.lt_or_ge X Y with h1|h1
   ·
    have:=Nat.mul_le_mul_left P (show X+1<=Y from h1);rw[Nat.mul_add,Nat.mul_one] at this;omega
   ·exact h1
  obtain⟨Z,rfl⟩:=Nat.le.dest hXY;have e3:P*(Y+Z)=P*Y+P*Z:=Nat.mul_add ..
  have e4:x-y=(a-a')+P*Z:=by omega
  rw[e4,Nat.add_mul_div_left _ _ hp,Nat.div_eq_of_lt (by omega)];omega
theorem bw_step {x y:Nat}(h:y<=x)(k:Nat):bw x y (k+1)=1-(65536+dgt b16 x k-bw x y k-dgt b16 y k)/65536/\dgt b16 (x-y) k=(65536+dgt b16 x k-bw x y k-dgt b16 y k)%65536:=by
 have hd:=bw_div (k:=k) h;have hd1:=bw_div (k:=k+1) h;have hb:=bw_le x y k;have hb1:=bw_le x y (k+1);rw[Nat.pow_succ,<-Nat.div_div_eq_div_mul,<-Nat.div_div_eq_div_mul,<-Nat.div_div_eq_div_mul] at hd1;unfold dgt
 generalize (x-y)/b16^k=Z at*
 generalize x/b16^k=X at*
 generalize y/b16^k=Y at*
 generalize bw x y k=b at*
 generalize bw x y (k+1)=b' at*
 have hd2:Z/65536+Y/65536+b'=X/65536:=hd1;clear hd1;show b'=1-(65536+X%65536-b-Y%65536)/65536/\Z%65536=(65536+X%65536-b-Y%65536)%65536;have h1:=Nat.mod_lt X (show 0<65536 by decide);have h2:=Nat.mod_lt Y (show 0<65536 by decide);have h3:=Nat.mod_lt Z (show 0<65536 by decide);have f1:=Nat.div_add_mod X 65536;have f2:=Nat.div_add_mod Y 65536;have f3:=Nat.div_add_mod Z 65536
 generalize X%65536=dx at*
 generalize Y%65536=dy at*
 generalize Z%65536=dz at*
 generalize X/65536=X1 at*
 generalize Y/65536=Y1 at*
 generalize Z/65536=Z1 at*
 rcases Nat.lt_or_ge dx (dy+b) with hlt|hge
 ·
  have hq:(65536+dx-b-dy)/65536=0:=Nat.div_eq_of_lt (by omega);rw[hq,Nat.mod_eq_of_lt (show 65536+dx-b-dy<65536 by omega)];omega
 ·
  have hq:(65536+dx-b-dy)/65536=1:=by omega
  rw[hq,show 65536+dx-b-dy=65536+(dx-b-dy) by omega,Nat.add_mod_left,Nat.mod_eq_of_lt (show dx-b-dy<65536 by omega)];omega

theorem rminus_any (A B:Option Addr)(c d x y:Nat)(w:World)(hA:Num16 w A x)(hB:Num16 w B y)(la:ln b16 x<=1000000)(hxy:y<=x):
  Calls Tryz.prog 165 #[.slice A (ln b16 x) c,.slice B (ln b16 y) d] w fun e w'=>∃A' c',e= .returned (.slice A' (ln b16 (x-y)) c')/\Num16 w' A' (x-y)/\(∀p,A'=some p->w.heap.size<=p.block)/\Below w.heap.size w w':=by
 have HA:=Lib.hid hA;have HB:=Lib.hid hB;have hlx:=lt_pow_ln b16_two x;have hlb:ln b16 y<=ln b16 x:=ln_mono b16_two hxy;have HL:=Lib.hid hlx;have HXY:=Lib.hid hxy;clear hA hB hlx hxy
 obtain⟨N,hN⟩:∃N,N=ln b16 x:=⟨_,rfl⟩
 have hNl:N<=1000000:=by omega
 have HN:=Lib.hid hN;rw[<-hN] at hlb⊢;clear hN la;obtain⟨i0,hi,hz0,hz1,hz2⟩:=info_parts info_u16
 go_enter Tryz.func165,Tryz.ntmps165
 go_wp2_with fail
 go_loopw [5,6,7] (fun v u i wr=>∃k,i= .int .i64 ((k:Nat):Int)/\u= .int .i64 ((bw x y k:Nat):Int)/\k<=N/\Hid (lenV v=k)/\wr.ownsRow w.heap.size 108 1 v k (nums .u16 k (dgt b16 (x-y)))/\Below w.heap.size w wr) (fun v _ _ _=>N-lenV v)
 case atStart=>exact⟨0,rfl,by rw[bw_zero];rfl,Nat.zero_le _,Lib.hid rfl,World.ownsRow_nil ..,Below.refl _ _⟩
 case round=>
  obtain⟨k,rfl,rfl,hk,hlv,hown,hbl⟩:=hrel;have hbw:=bw_le x y k
  by_cases hk9:k<N
  ·
   have hcs:=bw_step HXY.out k;have HC:=Lib.hid hcs
   obtain⟨q,hq⟩:∃q,q=bw x y k:=⟨_,rfl⟩
   rw[<-hq] at hbw⊢;have HQ:=Lib.hid hq;have hdx:=dgt16_lt x k;have hdy:=dgt16_lt y k;clear hcs hq;have t0:decide ((k:Int)<(N:Int))=true:=decide_eq_true (by omega);obtain⟨p,o,rfl,hp,hca⟩:=(Num16.below HA.out hbl) (by rw[<-HN.out];omega);have c1:=hca k (by rw[<-HN.out];omega)
   have t2:(k:Int)<(N:Int):=by omega
   have o1:IntKind.i64.wrap ((dgt b16 x k:Nat):Int)=((dgt b16 x k:Nat):Int):=by rw[IntKind.wrap_i64];omega
   have o2:IntKind.i64.wrap (65536+((dgt b16 x k:Nat):Int))=65536+((dgt b16 x k:Nat):Int):=by rw[IntKind.wrap_i64];omega
   have o4:IntKind.i64.wrap (65536+((dgt b16 x k:Nat):Int)-(q:Int))=((65536+dgt b16 x k-q:Nat):Int):=by rw[IntKind.wrap_i64];omega
   clear hca
   go_upto_if 26 with(fail)
   have hM:65536+dgt b16 x k-q<=131071/\65535<=65536+dgt b16 x k-q:=by omega
   obtain⟨M,hMe⟩:∃M,M=65536+dgt b16 x k-q:=⟨_,rfl⟩
   rw[<-hMe] at o4 hM⊢;have HM:=Lib.hid hMe;clear hMe o2 c1 o1
   go_cut [8] from 26 to 33 (fun v wx=>v= .int .i64 ((M-dgt b16 y k:Nat):Int)/\wx=wr)
   case first=>
    rcases Nat.lt_or_ge k (ln b16 y) with h1|h1
    ·
     obtain⟨p2,o2,rfl,hp2,hca⟩:=(Num16.below HB.out hbl) (by omega);have c1:=hca k h1;have t1:decide (k<ln b16 y)=true:=decide_eq_true h1
     have t3:(k:Int)<((ln b16 y:Nat):Int):=by omega
     have o1:IntKind.i64.wrap ((dgt b16 y k:Nat):Int)=((dgt b16 y k:Nat):Int):=by rw[IntKind.wrap_i64];omega
     have o5:IntKind.i64.wrap ((M:Int)-((dgt b16 y k:Nat):Int))=((M-dgt b16 y k:Nat):Int):=by rw[IntKind.wrap_i64];omega
     clear hca;go_wp2_with fail
     go_meet
     exact⟨by first|rfl|(congr 1;omega),rfl⟩
    ·
     have t1:decide (k<ln b16 y)=false:=decide_eq_false (by omega);have HZ:=Lib.hid (dgt_over h1);go_wp2_with fail
     go_meet
     exact⟨by rw[HZ.out];rfl,rfl⟩
   case rest=>
   obtain⟨rfl,rfl⟩:=hcut
   obtain⟨T,hT⟩:∃T,T=M-dgt b16 y k:=⟨_,rfl⟩
   rw[<-hT]
   have hTl:T<=131071:=by omega
   have e1:bw x y (k+1)=1-T/65536:=by rw[HC.out.1,<-HQ.out,<-HM.out,<-hT]
   have e2:dgt b16 (x-y) k=T%65536:=by rw[HC.out.2,<-HQ.out,<-HM.out,<-hT]
   have hT2:T/65536<=1:=by omega
   clear hT hdx hdy o4 hM
   have t5:(T:Int).tmod 65536=((dgt b16 (x-y) k:Nat):Int):=by rw[Int.tmod_eq_emod_of_nonneg (by omega),e2];omega
   have t6:(T:Int).tdiv 65536=((T/65536:Nat):Int):=by rw[Int.tdiv_eq_ediv_of_nonneg (by omega)];omega
   have t7:IntKind.i64.wrap (1-((T/65536:Nat):Int))=((bw x y (k+1):Nat):Int):=by rw[IntKind.wrap_i64,e1];omega
   have t8:IntKind.i64.wrap ((T/65536:Nat):Int)=((T/65536:Nat):Int):=by rw[IntKind.wrap_i64];omega
   have t9:(1:Int)-(T:Int)/65536=((bw x y (k+1):Nat):Int):=by rw[e1];omega
   have hdl:=dgt16_lt (x-y) k;clear e1 e2
   have o3:IntKind.u16.wrap ((dgt b16 (x-y) k:Nat):Int)=((dgt b16 (x-y) k:Nat):Int):=by rw[IntKind.wrap_u16];omega
   have hsz:=hbl.size;go_wp2_with (at_builtin;refine wpList_append_own _ rfl _ _ 25 rfl w.heap.size 108 i0 (.int .u16 0) 1 2 Tryz.underlying25 hi hz0 hz1 hz2 rfl (by decide) _ _ _ rfl (hown.alloc _) ⟨wc.heap.size,0,none⟩ 1 1 [.int .u16 ((dgt b16 (x-y) k:Nat):Int)] rfl rfl (cell_one_new _ _ _) (by simp[Value.oneCell']) (by unfold maxLen;omega) (by omega) (by simp;omega) ?_;intro v' w5 hown5 hgrow _;obtain⟨g',cap',rfl⟩:=ownsRow_succ hown5)
   go_roundw
   case rel=>
    rw[nums_succ] at hown5;exact⟨k+1,rfl,by first|rfl|(congr 1;first|exact t7|exact t9),by omega,Lib.hid rfl,hown5,(hbl.alloc hsz (.cells #[.int .u16 ((dgt b16 (x-y) k:Nat):Int)] 108)).grown hgrow (by simp;omega) (fun g hg=>(hown.lt g hg).1)⟩
   case measure=>
    show N-(k+1)<N-lenV u5;rw[hlv.out];omega
  ·
   obtain rfl:k=N:=by omega
   obtain⟨A',c',rfl,hcc,hrow⟩:=RowO.of_own hown;have hvs:vs b16 (dgt b16 (x-y)) k=x-y:=vs_dgt_lt (Nat.lt_of_le_of_lt (Nat.sub_le x y) (by rw[HN.out];exact HL.out));have hc:=rtrim_any wr.heap.size A' k c' (dgt b16 (x-y)) wr hrow.rd (fun i _=>dgt16_lt _ i) hcc (by omega);rw[hvs] at hc;have HC:=Lib.hid hc;clear hc hvs;go_wp2_with fail
   refine HC.out.mono ?_
   rintro e w5 ⟨rfl,rfl⟩
   go_wp2_with fail
   go_ret
   refine⟨A',c',rfl, ?_,fun p hp=>by subst hp;exact(hown.lt _ rfl).1,hbl⟩
   have hln:ln b16 (x-y)<=k:=by
    have:=ln_mono b16_two (Nat.sub_le x y);rw[<-HN.out] at this;exact this
   exact fun hn=>by
    obtain⟨b,o,e,h1,h2⟩:=hrow.rd (by omega);exact⟨b,o,e,h1,fun i hi=>h2 i (by omega)⟩
end Go.Proofs.YtclbiihcbfnjmaaGreat
namespace Go.Proofs.YtclbiihcbfnjmaaGreat
open Go.RowKit

theorem sgn_of {z:Int}{s:Bool}{x:Nat}(h:z=toI s x):z.natAbs=x/\(s&&decide (0<ln b16 x))=decide (z<0):=by
 subst h;refine⟨toI_abs s x, ?_⟩;rw[toI_neg]
 congr 1
 exact decide_eq_decide.2 (ln_pos b16_two)
theorem rplus_o (A B:Option Addr)(c d x y:Nat)(w:World)(hA:Num16 w A x)(hB:Num16 w B y)(la:ln b16 x<=1000000)(lb:ln b16 y<=1000000):
  Calls Tryz.prog 163 #[.slice A (ln b16 x) c,.slice B (ln b16 y) d] w fun e w'=>∃A' c',e= .returned (.slice A' (ln b16 (x+y)) c')/\Num16 w' A' (x+y)/\(∀p,A'=some p->w.heap.size<=p.block)/\Below w.heap.size w w':=
 (rplus_any A B c d x y w hA hB la lb).mono fun _ _ ⟨A',c',he,ho,hb⟩=>⟨A',c',he,ho.num,fun p hp=>by subst hp;exact(World.ownsRow.lt ho _ rfl).1,hb⟩
end Go.Proofs.YtclbiihcbfnjmaaGreat
