/-
  Parts.
-/
import Derived.Test.YtclbiihcbfnjmaaGreatES1
set_option linter.unusedSimpArgs false
set_option maxRecDepth 100000
set_option maxHeartbeats 8000000
namespace Go.Proofs.YtclbiihcbfnjmaaGreat
open Go.RowKit

theorem AR {h:Nat->FH}{w:World}(hr7:kA w (h 7).A (h 7).n (h 7).f (h 7).B (h 7).m (h 7).g)(hn7:(h 7).n<=1000000)(hm7:(h 7).m<=1000000)(hr8:kA w (h 8).A (h 8).n (h 8).f (h 8).B (h 8).m (h 8).g)(ZP:(h 8).n<=1000000)(hm8:(h 8).m<=1000000)(hr9:kA w (h 9).A (h 9).n (h 9).f (h 9).B (h 9).m (h 9).g)(hn9:(h 9).n<=1000000)(hm9:(h 9).m<=1000000)(Qn:(okF (h 7).s (h 7).n (h 7).f (h 7).t (h 7).m (h 7).g&&okF (h 8).s (h 8).n (h 8).f (h 8).t (h 8).m (h 8).g&&okF (h 9).s (h 9).n (h 9).f (h 9).t (h 9).m (h 9).g)=false):
  Calls Tryz.prog 37 #[.agg #[.bool (h 0).s,.slice (h 0).A (h 0).n (h 0).c,.bool (h 0).t,.slice (h 0).B (h 0).m (h 0).d,.bool (h 1).s,.slice (h 1).A (h 1).n (h 1).c,.bool (h 1).t,.slice (h 1).B (h 1).m (h 1).d,.bool (h 2).s,.slice (h 2).A (h 2).n (h 2).c,.bool (h 2).t,.slice (h 2).B (h 2).m (h 2).d,.bool (h 3).s,.slice (h 3).A (h 3).n (h 3).c,.bool (h 3).t,.slice (h 3).B (h 3).m (h 3).d,.bool (h 4).s,.slice (h 4).A (h 4).n (h 4).c,.bool (h 4).t,.slice (h 4).B (h 4).m (h 4).d,.bool (h 5).s,.slice (h 5).A (h 5).n (h 5).c,.bool (h 5).t,.slice (h 5).B (h 5).m (h 5).d,.bool (h 6).s,.slice (h 6).A (h 6).n (h 6).c,.bool (h 6).t,.slice (h 6).B (h 6).m (h 6).d,.bool (h 7).s,.slice (h 7).A (h 7).n (h 7).c,.bool (h 7).t,.slice (h 7).B (h 7).m (h 7).d,.bool (h 8).s,.slice (h 8).A (h 8).n (h 8).c,.bool (h 8).t,.slice (h 8).B (h 8).m (h 8).d,.bool (h 9).s,.slice (h 9).A (h 9).n (h 9).c,.bool (h 9).t,.slice (h 9).B (h 9).m (h 9).d,.bool (h 10).s,.slice (h 10).A (h 10).n (h 10).c,.bool (h 10).t,.slice (h 10).B (h 10).m (h 10).d]] w (vL 2 w):=by
 have Hr7:=af hr7;have Hn7:=af hn7;have Hm7:=af hm7;have Hr8:=af hr8;have Hn8:=af ZP;have Hm8:=af hm8;have Hr9:=af hr9;have Hn9:=af hn9;have Hm9:=af hm9;clear hr7 hn7 hm7 hr8 ZP hm8 hr9 hn9 hm9
 have hc:okF (h 7).s (h 7).n (h 7).f (h 7).t (h 7).m (h 7).g=false\/(okF (h 7).s (h 7).n (h 7).f (h 7).t (h 7).m (h 7).g=true/\okF (h 8).s (h 8).n (h 8).f (h 8).t (h 8).m (h 8).g=false)\/(okF (h 7).s (h 7).n (h 7).f (h 7).t (h 7).m (h 7).g=true/\okF (h 8).s (h 8).n (h 8).f (h 8).t (h 8).m (h 8).g=true/\okF (h 9).s (h 9).n (h 9).f (h 9).t (h 9).m (h 9).g=false):=by
  revert Qn
  cases okF (h 7).s (h 7).n (h 7).f (h 7).t (h 7).m (h 7).g<;>cases okF (h 8).s (h 8).n (h 8).f (h 8).t (h 8).m (h 8).g<;>cases okF (h 9).s (h 9).n (h 9).f (h 9).t (h 9).m (h 9).g<;>simp
 clear Qn
 rcases hc with q7|⟨q7,q8⟩|⟨q7,q8,q9⟩
 ·
  have Qo:=af q7;clear q7;have hE:=((Env.start w).blk 61 #[.bool (h 0).s,.slice (h 0).A (h 0).n (h 0).c,.bool (h 0).t,.slice (h 0).B (h 0).m (h 0).d,.bool (h 1).s,.slice (h 1).A (h 1).n (h 1).c,.bool (h 1).t,.slice (h 1).B (h 1).m (h 1).d,.bool (h 2).s,.slice (h 2).A (h 2).n (h 2).c,.bool (h 2).t,.slice (h 2).B (h 2).m (h 2).d,.bool (h 3).s,.slice (h 3).A (h 3).n (h 3).c,.bool (h 3).t,.slice (h 3).B (h 3).m (h 3).d,.bool (h 4).s,.slice (h 4).A (h 4).n (h 4).c,.bool (h 4).t,.slice (h 4).B (h 4).m (h 4).d,.bool (h 5).s,.slice (h 5).A (h 5).n (h 5).c,.bool (h 5).t,.slice (h 5).B (h 5).m (h 5).d,.bool (h 6).s,.slice (h 6).A (h 6).n (h 6).c,.bool (h 6).t,.slice (h 6).B (h 6).m (h 6).d,.bool (h 7).s,.slice (h 7).A (h 7).n (h 7).c,.bool (h 7).t,.slice (h 7).B (h 7).m (h 7).d,.bool (h 8).s,.slice (h 8).A (h 8).n (h 8).c,.bool (h 8).t,.slice (h 8).B (h 8).m (h 8).d,.bool (h 9).s,.slice (h 9).A (h 9).n (h 9).c,.bool (h 9).t,.slice (h 9).B (h 9).m (h 9).d,.bool (h 10).s,.slice (h 10).A (h 10).n (h 10).c,.bool (h 10).t,.slice (h 10).B (h 10).m (h 10).d] (g:=w.heap.size) rfl).blk 29 aW (g:=w.heap.size+1) (by simp)
  obtain⟨W0,aC⟩:∃W0,W0=(w.alloc (.cells #[.bool (h 0).s,.slice (h 0).A (h 0).n (h 0).c,.bool (h 0).t,.slice (h 0).B (h 0).m (h 0).d,.bool (h 1).s,.slice (h 1).A (h 1).n (h 1).c,.bool (h 1).t,.slice (h 1).B (h 1).m (h 1).d,.bool (h 2).s,.slice (h 2).A (h 2).n (h 2).c,.bool (h 2).t,.slice (h 2).B (h 2).m (h 2).d,.bool (h 3).s,.slice (h 3).A (h 3).n (h 3).c,.bool (h 3).t,.slice (h 3).B (h 3).m (h 3).d,.bool (h 4).s,.slice (h 4).A (h 4).n (h 4).c,.bool (h 4).t,.slice (h 4).B (h 4).m (h 4).d,.bool (h 5).s,.slice (h 5).A (h 5).n (h 5).c,.bool (h 5).t,.slice (h 5).B (h 5).m (h 5).d,.bool (h 6).s,.slice (h 6).A (h 6).n (h 6).c,.bool (h 6).t,.slice (h 6).B (h 6).m (h 6).d,.bool (h 7).s,.slice (h 7).A (h 7).n (h 7).c,.bool (h 7).t,.slice (h 7).B (h 7).m (h 7).d,.bool (h 8).s,.slice (h 8).A (h 8).n (h 8).c,.bool (h 8).t,.slice (h 8).B (h 8).m (h 8).d,.bool (h 9).s,.slice (h 9).A (h 9).n (h 9).c,.bool (h 9).t,.slice (h 9).B (h 9).m (h 9).d,.bool (h 10).s,.slice (h 10).A (h 10).n (h 10).c,.bool (h 10).t,.slice (h 10).B (h 10).m (h 10).d] 61)).alloc (.cells aW 29):=⟨_,rfl⟩
  rw[<-aC] at hE;have aZ:=af aC;clear aC
  go_enter Tryz.func37,Tryz.ntmps37
  go_upto_region 1 with(fail)
  rw[<-aZ.out];have k1:=(hE.g1).cell 28;have k2:=(hE.g1).cell 29;have k3:=(hE.g1).cell 30;have k4:=(hE.g1).cell 31;go_wp2_with fail
  refine hE.br (cV (h 7).s (h 7).t (h 7).A (h 7).B (h 7).n (h 7).m (h 7).c (h 7).d (h 7).f (h 7).g _ (Hr7.out.below hE.ax) Hn7.out Hm7.out false Qo.out) ?_;clear hE k1 k2 k3 k4;intro w5 hE
  go_upto_region 2 with(fail)
  have cS:w.heap.size<=w.heap.size+1:=by omega
  have hB:=(hE.g0).s4 (.bool false) (.slice none 0 0) (.bool false) (.slice none 0 0);have aM:=bW hE.ax cS (.bool false) (.slice none 0 0) (.bool false) (.slice none 0 0)
  obtain⟨WW,bn⟩:∃x,x=((((w5.setCell ⟨w.heap.size+1,0,none⟩ (.bool false)).setCell ⟨w.heap.size+1,1,none⟩ (.slice none 0 0)).setCell ⟨w.heap.size+1,2,none⟩ (.bool false)).setCell ⟨w.heap.size+1,3,none⟩ (.slice none 0 0)):=⟨_,rfl⟩
  rw[<-bn] at hB aM;obtain⟨x0,x1,x2,x3⟩:=(hE.g0).c4;obtain⟨fL,fM,fV,fW⟩:=(hE.g0).f4;have bR:=af bn;clear bn;go_wp2_with fail
  clear x0 x1 x2 x3;rw[<-bR.out];obtain⟨y0,y1,y2,y3⟩:=hB.c4;refine aK (v:= .tuple #[.agg aW,.int .i64 2]) (by simp[results,Tryz.results37,go_sem,y0,y1,y2,y3]) rfl ?_;exact⟨rfl,aM⟩
 ·
  have Qo:=af q7;have Hq8:=af q8;clear q7 q8;have hE:=((Env.start w).blk 61 #[.bool (h 0).s,.slice (h 0).A (h 0).n (h 0).c,.bool (h 0).t,.slice (h 0).B (h 0).m (h 0).d,.bool (h 1).s,.slice (h 1).A (h 1).n (h 1).c,.bool (h 1).t,.slice (h 1).B (h 1).m (h 1).d,.bool (h 2).s,.slice (h 2).A (h 2).n (h 2).c,.bool (h 2).t,.slice (h 2).B (h 2).m (h 2).d,.bool (h 3).s,.slice (h 3).A (h 3).n (h 3).c,.bool (h 3).t,.slice (h 3).B (h 3).m (h 3).d,.bool (h 4).s,.slice (h 4).A (h 4).n (h 4).c,.bool (h 4).t,.slice (h 4).B (h 4).m (h 4).d,.bool (h 5).s,.slice (h 5).A (h 5).n (h 5).c,.bool (h 5).t,.slice (h 5).B (h 5).m (h 5).d,.bool (h 6).s,.slice (h 6).A (h 6).n (h 6).c,.bool (h 6).t,.slice (h 6).B (h 6).m (h 6).d,.bool (h 7).s,.slice (h 7).A (h 7).n (h 7).c,.bool (h 7).t,.slice (h 7).B (h 7).m (h 7).d,.bool (h 8).s,.slice (h 8).A (h 8).n (h 8).c,.bool (h 8).t,.slice (h 8).B (h 8).m (h 8).d,.bool (h 9).s,.slice (h 9).A (h 9).n (h 9).c,.bool (h 9).t,.slice (h 9).B (h 9).m (h 9).d,.bool (h 10).s,.slice (h 10).A (h 10).n (h 10).c,.bool (h 10).t,.slice (h 10).B (h 10).m (h 10).d] (g:=w.heap.size) rfl).blk 29 aW (g:=w.heap.size+1) (by simp)
  obtain⟨W0,aC⟩:∃W0,W0=(w.alloc (.cells #[.bool (h 0).s,.slice (h 0).A (h 0).n (h 0).c,.bool (h 0).t,.slice (h 0).B (h 0).m (h 0).d,.bool (h 1).s,.slice (h 1).A (h 1).n (h 1).c,.bool (h 1).t,.slice (h 1).B (h 1).m (h 1).d,.bool (h 2).s,.slice (h 2).A (h 2).n (h 2).c,.bool (h 2).t,.slice (h 2).B (h 2).m (h 2).d,.bool (h 3).s,.slice (h 3).A (h 3).n (h 3).c,.bool (h 3).t,.slice (h 3).B (h 3).m (h 3).d,.bool (h 4).s,.slice (h 4).A (h 4).n (h 4).c,.bool (h 4).t,.slice (h 4).B (h 4).m (h 4).d,.bool (h 5).s,.slice (h 5).A (h 5).n (h 5).c,.bool (h 5).t,.slice (h 5).B (h 5).m (h 5).d,.bool (h 6).s,.slice (h 6).A (h 6).n (h 6).c,.bool (h 6).t,.slice (h 6).B (h 6).m (h 6).d,.bool (h 7).s,.slice (h 7).A (h 7).n (h 7).c,.bool (h 7).t,.slice (h 7).B (h 7).m (h 7).d,.bool (h 8).s,.slice (h 8).A (h 8).n (h 8).c,.bool (h 8).t,.slice (h 8).B (h 8).m (h 8).d,.bool (h 9).s,.slice (h 9).A (h 9).n (h 9).c,.bool (h 9).t,.slice (h 9).B (h 9).m (h 9).d,.bool (h 10).s,.slice (h 10).A (h 10).n (h 10).c,.bool (h 10).t,.slice (h 10).B (h 10).m (h 10).d] 61)).alloc (.cells aW 29):=⟨_,rfl⟩
  rw[<-aC] at hE;have aZ:=af aC;clear aC
  go_enter Tryz.func37,Tryz.ntmps37
  go_upto_region 1 with(fail)
  rw[<-aZ.out];have k1:=(hE.g1).cell 28;have k2:=(hE.g1).cell 29;have k3:=(hE.g1).cell 30;have k4:=(hE.g1).cell 31;go_wp2_with fail
  refine hE.br (cV (h 7).s (h 7).t (h 7).A (h 7).B (h 7).n (h 7).m (h 7).c (h 7).d (h 7).f (h 7).g _ (Hr7.out.below hE.ax) Hn7.out Hm7.out true Qo.out) ?_;clear hE k1 k2 k3 k4;intro w5 hE;have k6:=(hE.g1).cell 32;have k7:=(hE.g1).cell 33;have k8:=(hE.g1).cell 34;have k9:=(hE.g1).cell 35;go_wp2_with fail
  refine hE.br (cV (h 8).s (h 8).t (h 8).A (h 8).B (h 8).n (h 8).m (h 8).c (h 8).d (h 8).f (h 8).g _ (Hr8.out.below hE.ax) Hn8.out Hm8.out false Hq8.out) ?_;clear hE k6 k7 k8 k9;intro rU hE
  go_upto_region 2 with(fail)
  have cS:w.heap.size<=w.heap.size+1:=by omega
  have hB:=(hE.g0).s4 (.bool false) (.slice none 0 0) (.bool false) (.slice none 0 0);have aM:=bW hE.ax cS (.bool false) (.slice none 0 0) (.bool false) (.slice none 0 0)
  obtain⟨WW,bn⟩:∃x,x=((((rU.setCell ⟨w.heap.size+1,0,none⟩ (.bool false)).setCell ⟨w.heap.size+1,1,none⟩ (.slice none 0 0)).setCell ⟨w.heap.size+1,2,none⟩ (.bool false)).setCell ⟨w.heap.size+1,3,none⟩ (.slice none 0 0)):=⟨_,rfl⟩
  rw[<-bn] at hB aM;obtain⟨x0,x1,x2,x3⟩:=(hE.g0).c4;obtain⟨fL,fM,fV,fW⟩:=(hE.g0).f4;have bR:=af bn;clear bn;go_wp2_with fail
  clear x0 x1 x2 x3;rw[<-bR.out];obtain⟨y0,y1,y2,y3⟩:=hB.c4;refine aK (v:= .tuple #[.agg aW,.int .i64 2]) (by simp[results,Tryz.results37,go_sem,y0,y1,y2,y3]) rfl ?_;exact⟨rfl,aM⟩
 ·
  have Qo:=af q7;have Hq8:=af q8;have Hq9:=af q9;clear q7 q8 q9;have hE:=((Env.start w).blk 61 #[.bool (h 0).s,.slice (h 0).A (h 0).n (h 0).c,.bool (h 0).t,.slice (h 0).B (h 0).m (h 0).d,.bool (h 1).s,.slice (h 1).A (h 1).n (h 1).c,.bool (h 1).t,.slice (h 1).B (h 1).m (h 1).d,.bool (h 2).s,.slice (h 2).A (h 2).n (h 2).c,.bool (h 2).t,.slice (h 2).B (h 2).m (h 2).d,.bool (h 3).s,.slice (h 3).A (h 3).n (h 3).c,.bool (h 3).t,.slice (h 3).B (h 3).m (h 3).d,.bool (h 4).s,.slice (h 4).A (h 4).n (h 4).c,.bool (h 4).t,.slice (h 4).B (h 4).m (h 4).d,.bool (h 5).s,.slice (h 5).A (h 5).n (h 5).c,.bool (h 5).t,.slice (h 5).B (h 5).m (h 5).d,.bool (h 6).s,.slice (h 6).A (h 6).n (h 6).c,.bool (h 6).t,.slice (h 6).B (h 6).m (h 6).d,.bool (h 7).s,.slice (h 7).A (h 7).n (h 7).c,.bool (h 7).t,.slice (h 7).B (h 7).m (h 7).d,.bool (h 8).s,.slice (h 8).A (h 8).n (h 8).c,.bool (h 8).t,.slice (h 8).B (h 8).m (h 8).d,.bool (h 9).s,.slice (h 9).A (h 9).n (h 9).c,.bool (h 9).t,.slice (h 9).B (h 9).m (h 9).d,.bool (h 10).s,.slice (h 10).A (h 10).n (h 10).c,.bool (h 10).t,.slice (h 10).B (h 10).m (h 10).d] (g:=w.heap.size) rfl).blk 29 aW (g:=w.heap.size+1) (by simp)
  obtain⟨W0,aC⟩:∃W0,W0=(w.alloc (.cells #[.bool (h 0).s,.slice (h 0).A (h 0).n (h 0).c,.bool (h 0).t,.slice (h 0).B (h 0).m (h 0).d,.bool (h 1).s,.slice (h 1).A (h 1).n (h 1).c,.bool (h 1).t,.slice (h 1).B (h 1).m (h 1).d,.bool (h 2).s,.slice (h 2).A (h 2).n (h 2).c,.bool (h 2).t,.slice (h 2).B (h 2).m (h 2).d,.bool (h 3).s,.slice (h 3).A (h 3).n (h 3).c,.bool (h 3).t,.slice (h 3).B (h 3).m (h 3).d,.bool (h 4).s,.slice (h 4).A (h 4).n (h 4).c,.bool (h 4).t,.slice (h 4).B (h 4).m (h 4).d,.bool (h 5).s,.slice (h 5).A (h 5).n (h 5).c,.bool (h 5).t,.slice (h 5).B (h 5).m (h 5).d,.bool (h 6).s,.slice (h 6).A (h 6).n (h 6).c,.bool (h 6).t,.slice (h 6).B (h 6).m (h 6).d,.bool (h 7).s,.slice (h 7).A (h 7).n (h 7).c,.bool (h 7).t,.slice (h 7).B (h 7).m (h 7).d,.bool (h 8).s,.slice (h 8).A (h 8).n (h 8).c,.bool (h 8).t,.slice (h 8).B (h 8).m (h 8).d,.bool (h 9).s,.slice (h 9).A (h 9).n (h 9).c,.bool (h 9).t,.slice (h 9).B (h 9).m (h 9).d,.bool (h 10).s,.slice (h 10).A (h 10).n (h 10).c,.bool (h 10).t,.slice (h 10).B (h 10).m (h 10).d] 61)).alloc (.cells aW 29):=⟨_,rfl⟩
  rw[<-aC] at hE;have aZ:=af aC;clear aC
  go_enter Tryz.func37,Tryz.ntmps37
  go_upto_region 1 with(fail)
  rw[<-aZ.out];have k1:=(hE.g1).cell 28;have k2:=(hE.g1).cell 29;have k3:=(hE.g1).cell 30;have k4:=(hE.g1).cell 31;go_wp2_with fail
  refine hE.br (cV (h 7).s (h 7).t (h 7).A (h 7).B (h 7).n (h 7).m (h 7).c (h 7).d (h 7).f (h 7).g _ (Hr7.out.below hE.ax) Hn7.out Hm7.out true Qo.out) ?_;clear hE k1 k2 k3 k4;intro w5 hE;have k6:=(hE.g1).cell 32;have k7:=(hE.g1).cell 33;have k8:=(hE.g1).cell 34;have k9:=(hE.g1).cell 35;go_wp2_with fail
  refine hE.br (cV (h 8).s (h 8).t (h 8).A (h 8).B (h 8).n (h 8).m (h 8).c (h 8).d (h 8).f (h 8).g _ (Hr8.out.below hE.ax) Hn8.out Hm8.out true Hq8.out) ?_;clear hE k6 k7 k8 k9;intro rU hE;have dX:=(hE.g1).cell 36;have dY:=(hE.g1).cell 37;have eu:=(hE.g1).cell 38;have eF:=(hE.g1).cell 39;go_wp2_with fail
  refine hE.br (cV (h 9).s (h 9).t (h 9).A (h 9).B (h 9).n (h 9).m (h 9).c (h 9).d (h 9).f (h 9).g _ (Hr9.out.below hE.ax) Hn9.out Hm9.out false Hq9.out) ?_;clear hE dX dY eu eF;intro wX hE
  go_upto_region 2 with(fail)
  have cS:w.heap.size<=w.heap.size+1:=by omega
  have hB:=(hE.g0).s4 (.bool false) (.slice none 0 0) (.bool false) (.slice none 0 0);have aM:=bW hE.ax cS (.bool false) (.slice none 0 0) (.bool false) (.slice none 0 0)
  obtain⟨WW,bn⟩:∃x,x=((((wX.setCell ⟨w.heap.size+1,0,none⟩ (.bool false)).setCell ⟨w.heap.size+1,1,none⟩ (.slice none 0 0)).setCell ⟨w.heap.size+1,2,none⟩ (.bool false)).setCell ⟨w.heap.size+1,3,none⟩ (.slice none 0 0)):=⟨_,rfl⟩
  rw[<-bn] at hB aM;obtain⟨x0,x1,x2,x3⟩:=(hE.g0).c4;obtain⟨fL,fM,fV,fW⟩:=(hE.g0).f4;have bR:=af bn;clear bn;go_wp2_with fail
  clear x0 x1 x2 x3;rw[<-bR.out];obtain⟨y0,y1,y2,y3⟩:=hB.c4;refine aK (v:= .tuple #[.agg aW,.int .i64 2]) (by simp[results,Tryz.results37,go_sem,y0,y1,y2,y3]) rfl ?_;exact⟨rfl,aM⟩
theorem DU {h:Nat->FH}{a b c:Rat}{w:World}(ha:FV w a (h 7).s (h 7).A (h 7).n (h 7).t (h 7).B (h 7).m)(hb:FV w b (h 8).s (h 8).A (h 8).n (h 8).t (h 8).B (h 8).m)(hc:FV w c (h 9).s (h 9).A (h 9).n (h 9).t (h 9).B (h 9).m)(la:fl a<=256)(lb:fl b<=256)(lc:fl c<=256)(l1:256<fl (a+b)):
  Calls Tryz.prog 37 #[.agg #[.bool (h 0).s,.slice (h 0).A (h 0).n (h 0).c,.bool (h 0).t,.slice (h 0).B (h 0).m (h 0).d,.bool (h 1).s,.slice (h 1).A (h 1).n (h 1).c,.bool (h 1).t,.slice (h 1).B (h 1).m (h 1).d,.bool (h 2).s,.slice (h 2).A (h 2).n (h 2).c,.bool (h 2).t,.slice (h 2).B (h 2).m (h 2).d,.bool (h 3).s,.slice (h 3).A (h 3).n (h 3).c,.bool (h 3).t,.slice (h 3).B (h 3).m (h 3).d,.bool (h 4).s,.slice (h 4).A (h 4).n (h 4).c,.bool (h 4).t,.slice (h 4).B (h 4).m (h 4).d,.bool (h 5).s,.slice (h 5).A (h 5).n (h 5).c,.bool (h 5).t,.slice (h 5).B (h 5).m (h 5).d,.bool (h 6).s,.slice (h 6).A (h 6).n (h 6).c,.bool (h 6).t,.slice (h 6).B (h 6).m (h 6).d,.bool (h 7).s,.slice (h 7).A (h 7).n (h 7).c,.bool (h 7).t,.slice (h 7).B (h 7).m (h 7).d,.bool (h 8).s,.slice (h 8).A (h 8).n (h 8).c,.bool (h 8).t,.slice (h 8).B (h 8).m (h 8).d,.bool (h 9).s,.slice (h 9).A (h 9).n (h 9).c,.bool (h 9).t,.slice (h 9).B (h 9).m (h 9).d,.bool (h 10).s,.slice (h 10).A (h 10).n (h 10).c,.bool (h 10).t,.slice (h 10).B (h 10).m (h 10).d]] w (vL 3 w):=by
 have hE:=(((((Env.start w).fv ha).fv hb).fv hc).blk 61 #[.bool (h 0).s,.slice (h 0).A (h 0).n (h 0).c,.bool (h 0).t,.slice (h 0).B (h 0).m (h 0).d,.bool (h 1).s,.slice (h 1).A (h 1).n (h 1).c,.bool (h 1).t,.slice (h 1).B (h 1).m (h 1).d,.bool (h 2).s,.slice (h 2).A (h 2).n (h 2).c,.bool (h 2).t,.slice (h 2).B (h 2).m (h 2).d,.bool (h 3).s,.slice (h 3).A (h 3).n (h 3).c,.bool (h 3).t,.slice (h 3).B (h 3).m (h 3).d,.bool (h 4).s,.slice (h 4).A (h 4).n (h 4).c,.bool (h 4).t,.slice (h 4).B (h 4).m (h 4).d,.bool (h 5).s,.slice (h 5).A (h 5).n (h 5).c,.bool (h 5).t,.slice (h 5).B (h 5).m (h 5).d,.bool (h 6).s,.slice (h 6).A (h 6).n (h 6).c,.bool (h 6).t,.slice (h 6).B (h 6).m (h 6).d,.bool (h 7).s,.slice (h 7).A (h 7).n (h 7).c,.bool (h 7).t,.slice (h 7).B (h 7).m (h 7).d,.bool (h 8).s,.slice (h 8).A (h 8).n (h 8).c,.bool (h 8).t,.slice (h 8).B (h 8).m (h 8).d,.bool (h 9).s,.slice (h 9).A (h 9).n (h 9).c,.bool (h 9).t,.slice (h 9).B (h 9).m (h 9).d,.bool (h 10).s,.slice (h 10).A (h 10).n (h 10).c,.bool (h 10).t,.slice (h 10).B (h 10).m (h 10).d] (g:=w.heap.size) rfl).blk 29 aW (g:=w.heap.size+1) (by simp)
 obtain⟨W0,aC⟩:∃W0,W0=(w.alloc (.cells #[.bool (h 0).s,.slice (h 0).A (h 0).n (h 0).c,.bool (h 0).t,.slice (h 0).B (h 0).m (h 0).d,.bool (h 1).s,.slice (h 1).A (h 1).n (h 1).c,.bool (h 1).t,.slice (h 1).B (h 1).m (h 1).d,.bool (h 2).s,.slice (h 2).A (h 2).n (h 2).c,.bool (h 2).t,.slice (h 2).B (h 2).m (h 2).d,.bool (h 3).s,.slice (h 3).A (h 3).n (h 3).c,.bool (h 3).t,.slice (h 3).B (h 3).m (h 3).d,.bool (h 4).s,.slice (h 4).A (h 4).n (h 4).c,.bool (h 4).t,.slice (h 4).B (h 4).m (h 4).d,.bool (h 5).s,.slice (h 5).A (h 5).n (h 5).c,.bool (h 5).t,.slice (h 5).B (h 5).m (h 5).d,.bool (h 6).s,.slice (h 6).A (h 6).n (h 6).c,.bool (h 6).t,.slice (h 6).B (h 6).m (h 6).d,.bool (h 7).s,.slice (h 7).A (h 7).n (h 7).c,.bool (h 7).t,.slice (h 7).B (h 7).m (h 7).d,.bool (h 8).s,.slice (h 8).A (h 8).n (h 8).c,.bool (h 8).t,.slice (h 8).B (h 8).m (h 8).d,.bool (h 9).s,.slice (h 9).A (h 9).n (h 9).c,.bool (h 9).t,.slice (h 9).B (h 9).m (h 9).d,.bool (h 10).s,.slice (h 10).A (h 10).n (h 10).c,.bool (h 10).t,.slice (h 10).B (h 10).m (h 10).d] 61)).alloc (.cells aW 29):=⟨_,rfl⟩
 rw[<-aC] at hE;have aZ:=af aC;clear aC
 go_enter Tryz.func37,Tryz.ntmps37
 go_upto_region 1 with(fail)
 rw[<-aZ.out];have k1:=(hE.g1).cell 28;have k2:=(hE.g1).cell 29;have k3:=(hE.g1).cell 30;have k4:=(hE.g1).cell 31;go_wp2_with fail
 refine hE.br (iO (c:=(h 7).c) (d:=(h 7).d) (hE.h4) la) ?_;clear hE k1 k2 k3 k4;intro w5 hE;have k6:=(hE.g1).cell 32;have k7:=(hE.g1).cell 33;have k8:=(hE.g1).cell 34;have k9:=(hE.g1).cell 35;go_wp2_with fail
 refine hE.br (iO (c:=(h 8).c) (d:=(h 8).d) (hE.h3) lb) ?_;clear hE k6 k7 k8 k9;intro rU hE;have dX:=(hE.g1).cell 36;have dY:=(hE.g1).cell 37;have eu:=(hE.g1).cell 38;have eF:=(hE.g1).cell 39;go_wp2_with fail
 refine hE.br (iO (c:=(h 9).c) (d:=(h 9).d) (hE.h2) lc) ?_;clear hE dX dY eu eF;intro wX hE
 go_upto_region 4 with(fail)
 obtain⟨g16,jG⟩:∃g16,g16=wX.heap.size:=⟨_,rfl⟩
 have Gk:w.heap.size<g16:=by rw[jG];exact(hE.g1).lt
 have Qe:w.heap.size+1<g16:=by rw[jG];exact(hE.g0).lt
 replace hE:=hE.blk 120 #[.int .i64 0] (g:=g16) jG.symm;generalize wX.alloc (.cells #[.int .i64 0] 120)=Pf at hE⊢;rw[<-jG];clear jG;replace hE:=hE.drew;refine bH (S:=fun V=>au 61 (w.heap.size) #[.bool (h 0).s,.slice (h 0).A (h 0).n (h 0).c,.bool (h 0).t,.slice (h 0).B (h 0).m (h 0).d,.bool (h 1).s,.slice (h 1).A (h 1).n (h 1).c,.bool (h 1).t,.slice (h 1).B (h 1).m (h 1).d,.bool (h 2).s,.slice (h 2).A (h 2).n (h 2).c,.bool (h 2).t,.slice (h 2).B (h 2).m (h 2).d,.bool (h 3).s,.slice (h 3).A (h 3).n (h 3).c,.bool (h 3).t,.slice (h 3).B (h 3).m (h 3).d,.bool (h 4).s,.slice (h 4).A (h 4).n (h 4).c,.bool (h 4).t,.slice (h 4).B (h 4).m (h 4).d,.bool (h 5).s,.slice (h 5).A (h 5).n (h 5).c,.bool (h 5).t,.slice (h 5).B (h 5).m (h 5).d,.bool (h 6).s,.slice (h 6).A (h 6).n (h 6).c,.bool (h 6).t,.slice (h 6).B (h 6).m (h 6).d,.bool (h 7).s,.slice (h 7).A (h 7).n (h 7).c,.bool (h 7).t,.slice (h 7).B (h 7).m (h 7).d,.bool (h 8).s,.slice (h 8).A (h 8).n (h 8).c,.bool (h 8).t,.slice (h 8).B (h 8).m (h 8).d,.bool (h 9).s,.slice (h 9).A (h 9).n (h 9).c,.bool (h 9).t,.slice (h 9).B (h 9).m (h 9).d,.bool (h 10).s,.slice (h 10).A (h 10).n (h 10).c,.bool (h 10).t,.slice (h 10).B (h 10).m (h 10).d] V) (by kernel_rfl) (hE.h2) (fun hHeld=> ?_)
 generalize Pf.drew=wd at*
 refine tk 0 ?_
 refine tk 1 ?_ (hy:=by
  intro w aG;have acn:=(aG).cell 28;have aco:=(aG).cell 29;have acp:=(aG).cell 30;have ah1:=(aG).cell 31;clear aG
  first|(go_simp;done)|(go_simp;with_reducible rfl))
 try simp only[PL]
 refine tk 2 ?_
 refine tk 3 ?_ (hy:=by
  intro w aG;have ah2:=(aG).cell 32;have ah3:=(aG).cell 33;have ah4:=(aG).cell 34;have ah5:=(aG).cell 35;clear aG
  first|(go_simp;done)|(go_simp;with_reducible rfl))
 try simp only[PL]
 refine tk 5 ?_
 refine tk 6 ?_ (hy:=by
  intro w aG;have ah6:=(aG).cell 36;have ah7:=(aG).cell 37;have ah8:=(aG).cell 38;have ah9:=(aG).cell 39;clear aG
  first|(go_simp;done)|(go_simp;with_reducible rfl))
 try simp only[PL]
 refine cC (rs:=[4,8]) (by kernel_rfl) (by simp) (bq rfl (fun K hK=> ?_) (bq rfl (fun K hK=> ?_) (cD)))
 ·
  go_simp;refine(lA (ca:=(h 7).c) (da:=(h 7).d) (cb:=(h 8).c) (db:=(h 8).d) hE.g0 (hE.h5) (hE.h4) la lb l1).mono ?_
  rintro e w9 ⟨rfl,u2,JE,hb⟩
  subst JE
  have kF:w.heap.size<=g16:=by omega
  replace hE:=(((((((Env.again (hE.ax.setCell (p:=⟨g16,0,none⟩) kF (.int .i64 3))).fv ((hE.h5).sep (i:=0) (hE.g0) rfl (.int .i64 3))).fv ((hE.h4).sep (i:=0) (hE.g0) rfl (.int .i64 3))).fv ((hE.h3).sep (i:=0) (hE.g0) rfl (.int .i64 3))).ag ((hE.h2).far (p:=⟨g16,0,none⟩) (by first|omega|(simp;omega)) (.int .i64 3))).ag ((hE.g1).far (p:=⟨g16,0,none⟩) (by first|omega|(simp;omega)) (.int .i64 3))).ag (show au 120 g16 #[.int .i64 3] _ by simpa using(hE.g0).dZ 0 (.int .i64 3)));generalize wd.setCell ⟨g16,0,none⟩ (.int .i64 3)=asE at hE hb;replace hE:=hE.step hb;clear hb kF;go_wp2_with fail
  refine hK.out _ _ (hE.h2) (fun hHeld=> ?_);clear hK K;try simp only[PL]
  refine cC (rs:=[7,8]) (by kernel_rfl) (by simp) (bq rfl (fun K hK=> ?_) (bq rfl (fun K hK=> ?_) (cD)))
  ·
   go_simp;refine hE.br (sC (sa:=false) (ta:=false) (Aa:=none) (Ba:=none) (na:=0) (ca:=0) (ma:=0) (da:=0) (sb:=(h 9).s) (tb:=(h 9).t) (Ab:=(h 9).A) (Bb:=(h 9).B) (nb:=(h 9).n) (cb:=(h 9).c) (mb:=(h 9).m) (db:=(h 9).d) hE.g0) ?_;clear hE;intro TL hE;go_wp2_with fail
   refine hK.out _ _ (hE.h2) (fun hHeld=> ?_);clear hK K;try simp only[PL]
   refine r1 8 (fun K hK=> ?_);go_simp
   obtain⟨g19,mQ⟩:∃g19,g19=TL.heap.size:=⟨_,rfl⟩
   have adn:w.heap.size<g19:=by rw[mQ];exact(hE.h2).lt
   have ado:w.heap.size+1<g19:=by rw[mQ];exact(hE.g1).lt
   have adp:g16<g19:=by rw[mQ];exact(hE.g0).lt
   replace hE:=hE.blk 29 aW (g:=g19) mQ.symm;generalize TL.alloc (.cells aW 29)=ZE at hE⊢;rw[<-mQ];clear mQ;refine hK.out _ _ (hE.h3) (fun hHeld=> ?_);clear hK K;try simp only[PL]
   refine r1 9 (fun K hK=> ?_)
   have oq:w.heap.size<=g19:=by omega
   obtain⟨vC,vD,DG,DH⟩:=(hE.g0).c4;obtain⟨vE,vF,DI,DJ⟩:=hE.g0.f4;replace hE:=((((((((Env.again (bW hE.ax oq (.bool false) (.slice none 0 0) (.bool false) (.slice none 0 0))).fv ((hE.h6).ak hE.g0 rfl _ _ _ _ rfl rfl rfl)).fv ((hE.h5).ak hE.g0 rfl _ _ _ _ rfl rfl rfl)).fv ((hE.h4).ak hE.g0 rfl _ _ _ _ rfl rfl rfl)).ag ((hE.h3).aj (by omega) _ _ _ _)).ag ((hE.h2).aj (by omega) _ _ _ _)).ag ((hE.g1).aj (by omega) _ _ _ _)).ag ((hE.g0).s4 _ _ _ _));go_simp;clear vC vD DG DH vE vF DI DJ oq;generalize ((((ZE.setCell ⟨g19,0,none⟩ (.bool false)).setCell ⟨g19,1,none⟩ (.slice none 0 0)).setCell ⟨g19,2,none⟩ (.bool false)).setCell ⟨g19,3,none⟩ (.slice none 0 0))=W20 at hE⊢;refine hK.out _ _ (hE.h3) (fun hHeld=> ?_);clear hK K;try simp only[PL]
   refine aX (by kernel_rfl) ?_ _;have lV:=(hE.g1).cell 0
   go_upto_region 6 with(fail)
   clear lV;replace hE:=hE.drew;refine bH (S:=fun V=>au 120 (g16) #[.int .i64 3] V) (by kernel_rfl) (hE.g1) (fun hHeld=> ?_)
   generalize W20.drew=wd at*
   refine tk 0 ?_;refine tk 1 ?_
   refine tk 2 ?_ (hy:=by
    intro w aG;have nR:=(aG).cell 0;clear aG
    first|(go_simp;done)|(go_simp;with_reducible rfl))
   try simp only[PL]
   refine r1 3 (fun K hK=> ?_)
   have DV:w.heap.size<=w.heap.size+1:=by omega
   obtain⟨Qp,Qq,Qr,Qs⟩:=(hE.h2).c4;obtain⟨Qt,Qu,Qv,Qw⟩:=hE.h2.f4;replace hE:=((((((((Env.again (bW hE.ax DV (.bool false) (.slice none 0 0) (.bool false) (.slice none 0 0))).fv ((hE.h6).ak hE.h2 rfl _ _ _ _ rfl rfl rfl)).fv ((hE.h5).ak hE.h2 rfl _ _ _ _ rfl rfl rfl)).fv ((hE.h4).ak hE.h2 rfl _ _ _ _ rfl rfl rfl)).ag ((hE.h3).aj (R:=w.heap.size+1) (by omega) _ _ _ _)).ag ((hE.h2).s4 _ _ _ _)).ag ((hE.g1).aj (R:=w.heap.size+1) (by omega) _ _ _ _)).ag ((hE.g0).aj (R:=w.heap.size+1) (by omega) _ _ _ _));go_simp;clear Qp Qq Qr Qs Qt Qu Qv Qw DV;generalize ((((wd.setCell ⟨w.heap.size+1,0,none⟩ (.bool false)).setCell ⟨w.heap.size+1,1,none⟩ (.slice none 0 0)).setCell ⟨w.heap.size+1,2,none⟩ (.bool false)).setCell ⟨w.heap.size+1,3,none⟩ (.slice none 0 0))=W22 at hE⊢;refine hK.out _ _ (hE.g1) (fun hHeld=> ?_);clear hK K;try simp only[PL]
   refine tk 4 ?_;refine aX (by kernel_rfl) ?_ _;obtain⟨y0,y1,y2,y3⟩:=(hE.h2).c4;go_wp2_with fail
   refine aK (v:= .tuple #[.agg aW,.int .i64 3]) (by simp[results,Tryz.results37,go_sem,y0,y1,y2,y3]) rfl ?_;exact⟨rfl,hE.ax⟩
  ·
   go_simp
   obtain⟨g23,kN⟩:∃g23,g23=w9.heap.size:=⟨_,rfl⟩
   have PW:w.heap.size<g23:=by rw[kN];exact(hE.h2).lt
   have adq:w.heap.size+1<g23:=by rw[kN];exact(hE.g1).lt
   have adr:g16<g23:=by rw[kN];exact(hE.g0).lt
   replace hE:=hE.blk 29 aW (g:=g23) kN.symm;generalize w9.alloc (.cells aW 29)=Gl at hE⊢;rw[<-kN];clear kN;refine hK.out _ _ (hE.h3) (fun hHeld=> ?_);clear hK K;try simp only[PL]
   refine r1 7 (fun K hK=> ?_);go_simp;refine hE.br (sC (sa:=false) (ta:=false) (Aa:=none) (Ba:=none) (na:=0) (ca:=0) (ma:=0) (da:=0) (sb:=(h 9).s) (tb:=(h 9).t) (Ab:=(h 9).A) (Bb:=(h 9).B) (nb:=(h 9).n) (cb:=(h 9).c) (mb:=(h 9).m) (db:=(h 9).d) hE.g1) ?_;clear hE;intro OA hE;go_wp2_with fail
   refine hK.out _ _ (hE.h3) (fun hHeld=> ?_);clear hK K;try simp only[PL]
   refine r1 9 (fun K hK=> ?_)
   have DW:w.heap.size<=g23:=by omega
   obtain⟨Qx,Qy,Qz,QA⟩:=(hE.g0).c4;obtain⟨QB,QC,QD,QE⟩:=hE.g0.f4;replace hE:=((((((((Env.again (bW hE.ax DW (.bool false) (.slice none 0 0) (.bool false) (.slice none 0 0))).fv ((hE.h6).ak hE.g0 rfl _ _ _ _ rfl rfl rfl)).fv ((hE.h5).ak hE.g0 rfl _ _ _ _ rfl rfl rfl)).fv ((hE.h4).ak hE.g0 rfl _ _ _ _ rfl rfl rfl)).ag ((hE.h3).aj (by omega) _ _ _ _)).ag ((hE.h2).aj (by omega) _ _ _ _)).ag ((hE.g1).aj (by omega) _ _ _ _)).ag ((hE.g0).s4 _ _ _ _));go_simp;clear Qx Qy Qz QA QB QC QD QE DW;generalize ((((OA.setCell ⟨g23,0,none⟩ (.bool false)).setCell ⟨g23,1,none⟩ (.slice none 0 0)).setCell ⟨g23,2,none⟩ (.bool false)).setCell ⟨g23,3,none⟩ (.slice none 0 0))=W25 at hE⊢;refine hK.out _ _ (hE.h3) (fun hHeld=> ?_);clear hK K;try simp only[PL]
   refine aX (by kernel_rfl) ?_ _;have nQ:=(hE.g1).cell 0
   go_upto_region 6 with(fail)
   clear nQ;replace hE:=hE.drew;refine bH (S:=fun V=>au 120 (g16) #[.int .i64 3] V) (by kernel_rfl) (hE.g1) (fun hHeld=> ?_)
   generalize W25.drew=wd at*
   refine tk 0 ?_;refine tk 1 ?_
   refine tk 2 ?_ (hy:=by
    intro w aG;have nR:=(aG).cell 0;clear aG
    first|(go_simp;done)|(go_simp;with_reducible rfl))
   try simp only[PL]
   refine r1 3 (fun K hK=> ?_)
   have DX:w.heap.size<=w.heap.size+1:=by omega
   obtain⟨QF,QG,QH,QI⟩:=(hE.h2).c4;obtain⟨QJ,QK,QL,QM⟩:=hE.h2.f4;replace hE:=((((((((Env.again (bW hE.ax DX (.bool false) (.slice none 0 0) (.bool false) (.slice none 0 0))).fv ((hE.h6).ak hE.h2 rfl _ _ _ _ rfl rfl rfl)).fv ((hE.h5).ak hE.h2 rfl _ _ _ _ rfl rfl rfl)).fv ((hE.h4).ak hE.h2 rfl _ _ _ _ rfl rfl rfl)).ag ((hE.h3).aj (R:=w.heap.size+1) (by omega) _ _ _ _)).ag ((hE.h2).s4 _ _ _ _)).ag ((hE.g1).aj (R:=w.heap.size+1) (by omega) _ _ _ _)).ag ((hE.g0).aj (R:=w.heap.size+1) (by omega) _ _ _ _));go_simp;clear QF QG QH QI QJ QK QL QM DX;generalize ((((wd.setCell ⟨w.heap.size+1,0,none⟩ (.bool false)).setCell ⟨w.heap.size+1,1,none⟩ (.slice none 0 0)).setCell ⟨w.heap.size+1,2,none⟩ (.bool false)).setCell ⟨w.heap.size+1,3,none⟩ (.slice none 0 0))=W27 at hE⊢;refine hK.out _ _ (hE.g1) (fun hHeld=> ?_);clear hK K;try simp only[PL]
   refine tk 4 ?_;refine aX (by kernel_rfl) ?_ _;obtain⟨y0,y1,y2,y3⟩:=(hE.h2).c4;go_wp2_with fail
   refine aK (v:= .tuple #[.agg aW,.int .i64 3]) (by simp[results,Tryz.results37,go_sem,y0,y1,y2,y3]) rfl ?_;exact⟨rfl,hE.ax⟩
 ·
  go_simp
  obtain⟨nT,sD⟩:∃nT,nT=wd.heap.size:=⟨_,rfl⟩
  have ads:w.heap.size<nT:=by rw[sD];exact(hE.h2).lt
  have adt:w.heap.size+1<nT:=by rw[sD];exact(hE.g1).lt
  have adu:g16<nT:=by rw[sD];exact(hE.g0).lt
  replace hE:=hE.blk 29 aW (g:=nT) sD.symm;generalize wd.alloc (.cells aW 29)=W28 at hE⊢;rw[<-sD];clear sD;refine hK.out _ _ (hE.h3) (fun hHeld=> ?_);clear hK K;try simp only[PL]
  refine r1 4 (fun K hK=> ?_);go_simp;refine(lA (ca:=(h 7).c) (da:=(h 7).d) (cb:=(h 8).c) (db:=(h 8).d) hE.g1 (hE.h6) (hE.h5) la lb l1).mono ?_
  rintro e w9 ⟨rfl,u2,JE,hb⟩
  subst JE
  have ZQ:w.heap.size<=g16:=by omega
  replace hE:=((((((((Env.again (hE.ax.setCell (p:=⟨g16,0,none⟩) ZQ (.int .i64 3))).fv ((hE.h6).sep (i:=0) (hE.g1) rfl (.int .i64 3))).fv ((hE.h5).sep (i:=0) (hE.g1) rfl (.int .i64 3))).fv ((hE.h4).sep (i:=0) (hE.g1) rfl (.int .i64 3))).ag ((hE.h3).far (p:=⟨g16,0,none⟩) (by first|omega|(simp;omega)) (.int .i64 3))).ag ((hE.h2).far (p:=⟨g16,0,none⟩) (by first|omega|(simp;omega)) (.int .i64 3))).ag (show au 120 g16 #[.int .i64 3] _ by simpa using(hE.g1).dZ 0 (.int .i64 3))).ag ((hE.g0).far (p:=⟨g16,0,none⟩) (by first|omega|(simp;omega)) (.int .i64 3)));generalize W28.setCell ⟨g16,0,none⟩ (.int .i64 3)=asF at hE hb;replace hE:=hE.step hb;clear hb ZQ;go_wp2_with fail
  refine hK.out _ _ (hE.h3) (fun hHeld=> ?_);clear hK K;try simp only[PL]
  refine r1 7 (fun K hK=> ?_);go_simp;refine hE.br (sC (sa:=false) (ta:=false) (Aa:=none) (Ba:=none) (na:=0) (ca:=0) (ma:=0) (da:=0) (sb:=(h 9).s) (tb:=(h 9).t) (Ab:=(h 9).A) (Bb:=(h 9).B) (nb:=(h 9).n) (cb:=(h 9).c) (mb:=(h 9).m) (db:=(h 9).d) hE.g1) ?_;clear hE;intro w30 hE;go_wp2_with fail
  refine hK.out _ _ (hE.h3) (fun hHeld=> ?_);clear hK K;try simp only[PL]
  refine r1 9 (fun K hK=> ?_)
  have DY:w.heap.size<=nT:=by omega
  obtain⟨QN,QO,QS,QT⟩:=(hE.g0).c4;obtain⟨QU,QV,QW,QX⟩:=hE.g0.f4;replace hE:=((((((((Env.again (bW hE.ax DY (.bool false) (.slice none 0 0) (.bool false) (.slice none 0 0))).fv ((hE.h6).ak hE.g0 rfl _ _ _ _ rfl rfl rfl)).fv ((hE.h5).ak hE.g0 rfl _ _ _ _ rfl rfl rfl)).fv ((hE.h4).ak hE.g0 rfl _ _ _ _ rfl rfl rfl)).ag ((hE.h3).aj (by omega) _ _ _ _)).ag ((hE.h2).aj (by omega) _ _ _ _)).ag ((hE.g1).aj (by omega) _ _ _ _)).ag ((hE.g0).s4 _ _ _ _));go_simp;clear QN QO QS QT QU QV QW QX DY;generalize ((((w30.setCell ⟨nT,0,none⟩ (.bool false)).setCell ⟨nT,1,none⟩ (.slice none 0 0)).setCell ⟨nT,2,none⟩ (.bool false)).setCell ⟨nT,3,none⟩ (.slice none 0 0))=W31 at hE⊢;refine hK.out _ _ (hE.h3) (fun hHeld=> ?_);clear hK K;try simp only[PL]
  refine aX (by kernel_rfl) ?_ _;have tC:=(hE.g1).cell 0
  go_upto_region 6 with(fail)
  clear tC;replace hE:=hE.drew;refine bH (S:=fun V=>au 120 (g16) #[.int .i64 3] V) (by kernel_rfl) (hE.g1) (fun hHeld=> ?_)
  generalize W31.drew=wd at*
  refine tk 0 ?_;refine tk 1 ?_
  refine tk 2 ?_ (hy:=by
   intro w aG;have nR:=(aG).cell 0;clear aG
   first|(go_simp;done)|(go_simp;with_reducible rfl))
  try simp only[PL]
  refine r1 3 (fun K hK=> ?_)
  have DZ:w.heap.size<=w.heap.size+1:=by omega
  obtain⟨QY,QZ,Ra,Rb⟩:=(hE.h2).c4;obtain⟨Rc,Re,Rf,Rg⟩:=hE.h2.f4;replace hE:=((((((((Env.again (bW hE.ax DZ (.bool false) (.slice none 0 0) (.bool false) (.slice none 0 0))).fv ((hE.h6).ak hE.h2 rfl _ _ _ _ rfl rfl rfl)).fv ((hE.h5).ak hE.h2 rfl _ _ _ _ rfl rfl rfl)).fv ((hE.h4).ak hE.h2 rfl _ _ _ _ rfl rfl rfl)).ag ((hE.h3).aj (R:=w.heap.size+1) (by omega) _ _ _ _)).ag ((hE.h2).s4 _ _ _ _)).ag ((hE.g1).aj (R:=w.heap.size+1) (by omega) _ _ _ _)).ag ((hE.g0).aj (R:=w.heap.size+1) (by omega) _ _ _ _));go_simp;clear QY QZ Ra Rb Rc Re Rf Rg DZ;generalize ((((wd.setCell ⟨w.heap.size+1,0,none⟩ (.bool false)).setCell ⟨w.heap.size+1,1,none⟩ (.slice none 0 0)).setCell ⟨w.heap.size+1,2,none⟩ (.bool false)).setCell ⟨w.heap.size+1,3,none⟩ (.slice none 0 0))=W33 at hE⊢;refine hK.out _ _ (hE.g1) (fun hHeld=> ?_);clear hK K;try simp only[PL]
  refine tk 4 ?_;refine aX (by kernel_rfl) ?_ _;obtain⟨y0,y1,y2,y3⟩:=(hE.h2).c4;go_wp2_with fail
  refine aK (v:= .tuple #[.agg aW,.int .i64 3]) (by simp[results,Tryz.results37,go_sem,y0,y1,y2,y3]) rfl ?_;exact⟨rfl,hE.ax⟩
theorem Ea {h:Nat->FH}{a b c:Rat}{w:World}(ha:FV w a (h 7).s (h 7).A (h 7).n (h 7).t (h 7).B (h 7).m)(hb:FV w b (h 8).s (h 8).A (h 8).n (h 8).t (h 8).B (h 8).m)(hc:FV w c (h 9).s (h 9).A (h 9).n (h 9).t (h 9).B (h 9).m)(la:fl a<=256)(lb:fl b<=256)(lc:fl c<=256)(l1:fl (a+b)<=256)(l2:256<fl (a+b+c)):
  Calls Tryz.prog 37 #[.agg #[.bool (h 0).s,.slice (h 0).A (h 0).n (h 0).c,.bool (h 0).t,.slice (h 0).B (h 0).m (h 0).d,.bool (h 1).s,.slice (h 1).A (h 1).n (h 1).c,.bool (h 1).t,.slice (h 1).B (h 1).m (h 1).d,.bool (h 2).s,.slice (h 2).A (h 2).n (h 2).c,.bool (h 2).t,.slice (h 2).B (h 2).m (h 2).d,.bool (h 3).s,.slice (h 3).A (h 3).n (h 3).c,.bool (h 3).t,.slice (h 3).B (h 3).m (h 3).d,.bool (h 4).s,.slice (h 4).A (h 4).n (h 4).c,.bool (h 4).t,.slice (h 4).B (h 4).m (h 4).d,.bool (h 5).s,.slice (h 5).A (h 5).n (h 5).c,.bool (h 5).t,.slice (h 5).B (h 5).m (h 5).d,.bool (h 6).s,.slice (h 6).A (h 6).n (h 6).c,.bool (h 6).t,.slice (h 6).B (h 6).m (h 6).d,.bool (h 7).s,.slice (h 7).A (h 7).n (h 7).c,.bool (h 7).t,.slice (h 7).B (h 7).m (h 7).d,.bool (h 8).s,.slice (h 8).A (h 8).n (h 8).c,.bool (h 8).t,.slice (h 8).B (h 8).m (h 8).d,.bool (h 9).s,.slice (h 9).A (h 9).n (h 9).c,.bool (h 9).t,.slice (h 9).B (h 9).m (h 9).d,.bool (h 10).s,.slice (h 10).A (h 10).n (h 10).c,.bool (h 10).t,.slice (h 10).B (h 10).m (h 10).d]] w (vL 3 w):=by
 have hE:=(((((Env.start w).fv ha).fv hb).fv hc).blk 61 #[.bool (h 0).s,.slice (h 0).A (h 0).n (h 0).c,.bool (h 0).t,.slice (h 0).B (h 0).m (h 0).d,.bool (h 1).s,.slice (h 1).A (h 1).n (h 1).c,.bool (h 1).t,.slice (h 1).B (h 1).m (h 1).d,.bool (h 2).s,.slice (h 2).A (h 2).n (h 2).c,.bool (h 2).t,.slice (h 2).B (h 2).m (h 2).d,.bool (h 3).s,.slice (h 3).A (h 3).n (h 3).c,.bool (h 3).t,.slice (h 3).B (h 3).m (h 3).d,.bool (h 4).s,.slice (h 4).A (h 4).n (h 4).c,.bool (h 4).t,.slice (h 4).B (h 4).m (h 4).d,.bool (h 5).s,.slice (h 5).A (h 5).n (h 5).c,.bool (h 5).t,.slice (h 5).B (h 5).m (h 5).d,.bool (h 6).s,.slice (h 6).A (h 6).n (h 6).c,.bool (h 6).t,.slice (h 6).B (h 6).m (h 6).d,.bool (h 7).s,.slice (h 7).A (h 7).n (h 7).c,.bool (h 7).t,.slice (h 7).B (h 7).m (h 7).d,.bool (h 8).s,.slice (h 8).A (h 8).n (h 8).c,.bool (h 8).t,.slice (h 8).B (h 8).m (h 8).d,.bool (h 9).s,.slice (h 9).A (h 9).n (h 9).c,.bool (h 9).t,.slice (h 9).B (h 9).m (h 9).d,.bool (h 10).s,.slice (h 10).A (h 10).n (h 10).c,.bool (h 10).t,.slice (h 10).B (h 10).m (h 10).d] (g:=w.heap.size) rfl).blk 29 aW (g:=w.heap.size+1) (by simp)
 obtain⟨W0,aC⟩:∃W0,W0=(w.alloc (.cells #[.bool (h 0).s,.slice (h 0).A (h 0).n (h 0).c,.bool (h 0).t,.slice (h 0).B (h 0).m (h 0).d,.bool (h 1).s,.slice (h 1).A (h 1).n (h 1).c,.bool (h 1).t,.slice (h 1).B (h 1).m (h 1).d,.bool (h 2).s,.slice (h 2).A (h 2).n (h 2).c,.bool (h 2).t,.slice (h 2).B (h 2).m (h 2).d,.bool (h 3).s,.slice (h 3).A (h 3).n (h 3).c,.bool (h 3).t,.slice (h 3).B (h 3).m (h 3).d,.bool (h 4).s,.slice (h 4).A (h 4).n (h 4).c,.bool (h 4).t,.slice (h 4).B (h 4).m (h 4).d,.bool (h 5).s,.slice (h 5).A (h 5).n (h 5).c,.bool (h 5).t,.slice (h 5).B (h 5).m (h 5).d,.bool (h 6).s,.slice (h 6).A (h 6).n (h 6).c,.bool (h 6).t,.slice (h 6).B (h 6).m (h 6).d,.bool (h 7).s,.slice (h 7).A (h 7).n (h 7).c,.bool (h 7).t,.slice (h 7).B (h 7).m (h 7).d,.bool (h 8).s,.slice (h 8).A (h 8).n (h 8).c,.bool (h 8).t,.slice (h 8).B (h 8).m (h 8).d,.bool (h 9).s,.slice (h 9).A (h 9).n (h 9).c,.bool (h 9).t,.slice (h 9).B (h 9).m (h 9).d,.bool (h 10).s,.slice (h 10).A (h 10).n (h 10).c,.bool (h 10).t,.slice (h 10).B (h 10).m (h 10).d] 61)).alloc (.cells aW 29):=⟨_,rfl⟩
 rw[<-aC] at hE;have aZ:=af aC;clear aC
 go_enter Tryz.func37,Tryz.ntmps37
 go_upto_region 1 with(fail)
 rw[<-aZ.out];have k1:=(hE.g1).cell 28;have k2:=(hE.g1).cell 29;have k3:=(hE.g1).cell 30;have k4:=(hE.g1).cell 31;go_wp2_with fail
 refine hE.br (iO (c:=(h 7).c) (d:=(h 7).d) (hE.h4) la) ?_;clear hE k1 k2 k3 k4;intro w5 hE;have k6:=(hE.g1).cell 32;have k7:=(hE.g1).cell 33;have k8:=(hE.g1).cell 34;have k9:=(hE.g1).cell 35;go_wp2_with fail
 refine hE.br (iO (c:=(h 8).c) (d:=(h 8).d) (hE.h3) lb) ?_;clear hE k6 k7 k8 k9;intro rU hE;have dX:=(hE.g1).cell 36;have dY:=(hE.g1).cell 37;have eu:=(hE.g1).cell 38;have eF:=(hE.g1).cell 39;go_wp2_with fail
 refine hE.br (iO (c:=(h 9).c) (d:=(h 9).d) (hE.h2) lc) ?_;clear hE dX dY eu eF;intro wX hE
 go_upto_region 4 with(fail)
 obtain⟨g16,jG⟩:∃g16,g16=wX.heap.size:=⟨_,rfl⟩
 have Gk:w.heap.size<g16:=by rw[jG];exact(hE.g1).lt
 have Qe:w.heap.size+1<g16:=by rw[jG];exact(hE.g0).lt
 replace hE:=hE.blk 120 #[.int .i64 0] (g:=g16) jG.symm;generalize wX.alloc (.cells #[.int .i64 0] 120)=Pf at hE⊢;rw[<-jG];clear jG;replace hE:=hE.drew;refine bH (S:=fun V=>au 61 (w.heap.size) #[.bool (h 0).s,.slice (h 0).A (h 0).n (h 0).c,.bool (h 0).t,.slice (h 0).B (h 0).m (h 0).d,.bool (h 1).s,.slice (h 1).A (h 1).n (h 1).c,.bool (h 1).t,.slice (h 1).B (h 1).m (h 1).d,.bool (h 2).s,.slice (h 2).A (h 2).n (h 2).c,.bool (h 2).t,.slice (h 2).B (h 2).m (h 2).d,.bool (h 3).s,.slice (h 3).A (h 3).n (h 3).c,.bool (h 3).t,.slice (h 3).B (h 3).m (h 3).d,.bool (h 4).s,.slice (h 4).A (h 4).n (h 4).c,.bool (h 4).t,.slice (h 4).B (h 4).m (h 4).d,.bool (h 5).s,.slice (h 5).A (h 5).n (h 5).c,.bool (h 5).t,.slice (h 5).B (h 5).m (h 5).d,.bool (h 6).s,.slice (h 6).A (h 6).n (h 6).c,.bool (h 6).t,.slice (h 6).B (h 6).m (h 6).d,.bool (h 7).s,.slice (h 7).A (h 7).n (h 7).c,.bool (h 7).t,.slice (h 7).B (h 7).m (h 7).d,.bool (h 8).s,.slice (h 8).A (h 8).n (h 8).c,.bool (h 8).t,.slice (h 8).B (h 8).m (h 8).d,.bool (h 9).s,.slice (h 9).A (h 9).n (h 9).c,.bool (h 9).t,.slice (h 9).B (h 9).m (h 9).d,.bool (h 10).s,.slice (h 10).A (h 10).n (h 10).c,.bool (h 10).t,.slice (h 10).B (h 10).m (h 10).d] V) (by kernel_rfl) (hE.h2) (fun hHeld=> ?_)
 generalize Pf.drew=wd at*
 refine tk 0 ?_
 refine tk 1 ?_ (hy:=by
  intro w aG;have acn:=(aG).cell 28;have aco:=(aG).cell 29;have acp:=(aG).cell 30;have ah1:=(aG).cell 31;clear aG
  first|(go_simp;done)|(go_simp;with_reducible rfl))
 try simp only[PL]
 refine tk 2 ?_
 refine tk 3 ?_ (hy:=by
  intro w aG;have ah2:=(aG).cell 32;have ah3:=(aG).cell 33;have ah4:=(aG).cell 34;have ah5:=(aG).cell 35;clear aG
  first|(go_simp;done)|(go_simp;with_reducible rfl))
 try simp only[PL]
 refine tk 5 ?_
 refine tk 6 ?_ (hy:=by
  intro w aG;have ah6:=(aG).cell 36;have ah7:=(aG).cell 37;have ah8:=(aG).cell 38;have ah9:=(aG).cell 39;clear aG
  first|(go_simp;done)|(go_simp;with_reducible rfl))
 try simp only[PL]
 refine cC (rs:=[4,8]) (by kernel_rfl) (by simp) (bq rfl (fun K hK=> ?_) (bq rfl (fun K hK=> ?_) (cD)))
 ·
  go_simp;refine hE.fr (mC (ca:=(h 7).c) (da:=(h 7).d) (cb:=(h 8).c) (db:=(h 8).d) (⟨_,_,hE.g0,rfl⟩:jx g16 _) (hE.h5) (hE.h4) la lb l1) ?_;clear hE;intro sx Ax nx cx tx Bx mx dx Gc hE;go_wp2_with fail
  refine hK.out _ _ (hE.h3) (fun hHeld=> ?_);clear hK K;try simp only[PL]
  refine cC (rs:=[7,8]) (by kernel_rfl) (by simp) (bq rfl (fun K hK=> ?_) (bq rfl (fun K hK=> ?_) (cD)))
  ·
   go_simp;refine(lA (ca:=cx) (da:=dx) (cb:=(h 9).c) (db:=(h 9).d) hE.g1 (hE.g0) (hE.h4) l1 lc l2).mono ?_
   rintro e w9 ⟨rfl,u2,JE,hb⟩
   subst JE
   have tQ:w.heap.size<=g16:=by omega
   replace hE:=((((((((Env.again (hE.ax.setCell (p:=⟨g16,0,none⟩) tQ (.int .i64 3))).fv ((hE.h6).sep (i:=0) (hE.g1) rfl (.int .i64 3))).fv ((hE.h5).sep (i:=0) (hE.g1) rfl (.int .i64 3))).fv ((hE.h4).sep (i:=0) (hE.g1) rfl (.int .i64 3))).ag ((hE.h3).far (p:=⟨g16,0,none⟩) (by first|omega|(simp;omega)) (.int .i64 3))).ag ((hE.h2).far (p:=⟨g16,0,none⟩) (by first|omega|(simp;omega)) (.int .i64 3))).ag (show au 120 g16 #[.int .i64 3] _ by simpa using(hE.g1).dZ 0 (.int .i64 3))).fv ((hE.g0).sep (i:=0) (hE.g1) rfl (.int .i64 3)));generalize Gc.setCell ⟨g16,0,none⟩ (.int .i64 3)=asG at hE hb;replace hE:=hE.step hb;clear hb tQ;go_wp2_with fail
   refine hK.out _ _ (hE.h3) (fun hHeld=> ?_);clear hK K;try simp only[PL]
   refine r1 8 (fun K hK=> ?_);go_simp
   obtain⟨g19,mQ⟩:∃g19,g19=w9.heap.size:=⟨_,rfl⟩
   have adn:w.heap.size<g19:=by rw[mQ];exact(hE.h3).lt
   have ado:w.heap.size+1<g19:=by rw[mQ];exact(hE.h2).lt
   have adp:g16<g19:=by rw[mQ];exact(hE.g1).lt
   replace hE:=hE.blk 29 aW (g:=g19) mQ.symm;generalize w9.alloc (.cells aW 29)=ZE at hE⊢;rw[<-mQ];clear mQ;refine hK.out _ _ (hE.h4) (fun hHeld=> ?_);clear hK K;try simp only[PL]
   refine r1 9 (fun K hK=> ?_)
   have oq:w.heap.size<=g19:=by omega
   obtain⟨vC,vD,DG,DH⟩:=(hE.g0).c4;obtain⟨vE,vF,DI,DJ⟩:=hE.g0.f4;replace hE:=(((((((((Env.again (bW hE.ax oq (.bool false) (.slice none 0 0) (.bool false) (.slice none 0 0))).fv ((hE.h7).ak hE.g0 rfl _ _ _ _ rfl rfl rfl)).fv ((hE.h6).ak hE.g0 rfl _ _ _ _ rfl rfl rfl)).fv ((hE.h5).ak hE.g0 rfl _ _ _ _ rfl rfl rfl)).ag ((hE.h4).aj (by omega) _ _ _ _)).ag ((hE.h3).aj (by omega) _ _ _ _)).ag ((hE.h2).aj (by omega) _ _ _ _)).fv ((hE.g1).ak hE.g0 rfl _ _ _ _ rfl rfl rfl)).ag ((hE.g0).s4 _ _ _ _));go_simp;clear vC vD DG DH vE vF DI DJ oq;generalize ((((ZE.setCell ⟨g19,0,none⟩ (.bool false)).setCell ⟨g19,1,none⟩ (.slice none 0 0)).setCell ⟨g19,2,none⟩ (.bool false)).setCell ⟨g19,3,none⟩ (.slice none 0 0))=W20 at hE⊢;refine hK.out _ _ (hE.h4) (fun hHeld=> ?_);clear hK K;try simp only[PL]
   refine aX (by kernel_rfl) ?_ _;have lV:=(hE.h2).cell 0
   go_upto_region 6 with(fail)
   clear lV;replace hE:=hE.drew;refine bH (S:=fun V=>au 120 (g16) #[.int .i64 3] V) (by kernel_rfl) (hE.h2) (fun hHeld=> ?_)
   generalize W20.drew=wd at*
   refine tk 0 ?_;refine tk 1 ?_
   refine tk 2 ?_ (hy:=by
    intro w aG;have nR:=(aG).cell 0;clear aG
    first|(go_simp;done)|(go_simp;with_reducible rfl))
   try simp only[PL]
   refine r1 3 (fun K hK=> ?_)
   have DV:w.heap.size<=w.heap.size+1:=by omega
   obtain⟨Qp,Qq,Qr,Qs⟩:=(hE.h3).c4;obtain⟨Qt,Qu,Qv,Qw⟩:=hE.h3.f4;replace hE:=(((((((((Env.again (bW hE.ax DV (.bool false) (.slice none 0 0) (.bool false) (.slice none 0 0))).fv ((hE.h7).ak hE.h3 rfl _ _ _ _ rfl rfl rfl)).fv ((hE.h6).ak hE.h3 rfl _ _ _ _ rfl rfl rfl)).fv ((hE.h5).ak hE.h3 rfl _ _ _ _ rfl rfl rfl)).ag ((hE.h4).aj (R:=w.heap.size+1) (by omega) _ _ _ _)).ag ((hE.h3).s4 _ _ _ _)).ag ((hE.h2).aj (R:=w.heap.size+1) (by omega) _ _ _ _)).fv ((hE.g1).ak hE.h3 rfl _ _ _ _ rfl rfl rfl)).ag ((hE.g0).aj (R:=w.heap.size+1) (by omega) _ _ _ _));go_simp;clear Qp Qq Qr Qs Qt Qu Qv Qw DV;generalize ((((wd.setCell ⟨w.heap.size+1,0,none⟩ (.bool false)).setCell ⟨w.heap.size+1,1,none⟩ (.slice none 0 0)).setCell ⟨w.heap.size+1,2,none⟩ (.bool false)).setCell ⟨w.heap.size+1,3,none⟩ (.slice none 0 0))=W22 at hE⊢;refine hK.out _ _ (hE.h2) (fun hHeld=> ?_);clear hK K;try simp only[PL]
   refine tk 4 ?_;refine aX (by kernel_rfl) ?_ _;obtain⟨y0,y1,y2,y3⟩:=(hE.h3).c4;go_wp2_with fail
   refine aK (v:= .tuple #[.agg aW,.int .i64 3]) (by simp[results,Tryz.results37,go_sem,y0,y1,y2,y3]) rfl ?_;exact⟨rfl,hE.ax⟩
  ·
   go_simp
   obtain⟨g23,kN⟩:∃g23,g23=Gc.heap.size:=⟨_,rfl⟩
   have PW:w.heap.size<g23:=by rw[kN];exact(hE.h3).lt
   have adq:w.heap.size+1<g23:=by rw[kN];exact(hE.h2).lt
   have adr:g16<g23:=by rw[kN];exact(hE.g1).lt
   replace hE:=hE.blk 29 aW (g:=g23) kN.symm;generalize Gc.alloc (.cells aW 29)=Gl at hE⊢;rw[<-kN];clear kN;refine hK.out _ _ (hE.h4) (fun hHeld=> ?_);clear hK K;try simp only[PL]
   refine r1 7 (fun K hK=> ?_);go_simp;refine(lA (ca:=cx) (da:=dx) (cb:=(h 9).c) (db:=(h 9).d) hE.h2 (hE.g1) (hE.h5) l1 lc l2).mono ?_
   rintro e w9 ⟨rfl,u2,JE,hb⟩
   subst JE
   have tR:w.heap.size<=g16:=by omega
   replace hE:=(((((((((Env.again (hE.ax.setCell (p:=⟨g16,0,none⟩) tR (.int .i64 3))).fv ((hE.h7).sep (i:=0) (hE.h2) rfl (.int .i64 3))).fv ((hE.h6).sep (i:=0) (hE.h2) rfl (.int .i64 3))).fv ((hE.h5).sep (i:=0) (hE.h2) rfl (.int .i64 3))).ag ((hE.h4).far (p:=⟨g16,0,none⟩) (by first|omega|(simp;omega)) (.int .i64 3))).ag ((hE.h3).far (p:=⟨g16,0,none⟩) (by first|omega|(simp;omega)) (.int .i64 3))).ag (show au 120 g16 #[.int .i64 3] _ by simpa using(hE.h2).dZ 0 (.int .i64 3))).fv ((hE.g1).sep (i:=0) (hE.h2) rfl (.int .i64 3))).ag ((hE.g0).far (p:=⟨g16,0,none⟩) (by first|omega|(simp;omega)) (.int .i64 3)));generalize Gl.setCell ⟨g16,0,none⟩ (.int .i64 3)=asH at hE hb;replace hE:=hE.step hb;clear hb tR;go_wp2_with fail
   refine hK.out _ _ (hE.h4) (fun hHeld=> ?_);clear hK K;try simp only[PL]
   refine r1 9 (fun K hK=> ?_)
   have DW:w.heap.size<=g23:=by omega
   obtain⟨Qx,Qy,Qz,QA⟩:=(hE.g0).c4;obtain⟨QB,QC,QD,QE⟩:=hE.g0.f4;replace hE:=(((((((((Env.again (bW hE.ax DW (.bool false) (.slice none 0 0) (.bool false) (.slice none 0 0))).fv ((hE.h7).ak hE.g0 rfl _ _ _ _ rfl rfl rfl)).fv ((hE.h6).ak hE.g0 rfl _ _ _ _ rfl rfl rfl)).fv ((hE.h5).ak hE.g0 rfl _ _ _ _ rfl rfl rfl)).ag ((hE.h4).aj (by omega) _ _ _ _)).ag ((hE.h3).aj (by omega) _ _ _ _)).ag ((hE.h2).aj (by omega) _ _ _ _)).fv ((hE.g1).ak hE.g0 rfl _ _ _ _ rfl rfl rfl)).ag ((hE.g0).s4 _ _ _ _));go_simp;clear Qx Qy Qz QA QB QC QD QE DW;generalize ((((w9.setCell ⟨g23,0,none⟩ (.bool false)).setCell ⟨g23,1,none⟩ (.slice none 0 0)).setCell ⟨g23,2,none⟩ (.bool false)).setCell ⟨g23,3,none⟩ (.slice none 0 0))=W25 at hE⊢;refine hK.out _ _ (hE.h4) (fun hHeld=> ?_);clear hK K;try simp only[PL]
   refine aX (by kernel_rfl) ?_ _;have nQ:=(hE.h2).cell 0
   go_upto_region 6 with(fail)
   clear nQ;replace hE:=hE.drew;refine bH (S:=fun V=>au 120 (g16) #[.int .i64 3] V) (by kernel_rfl) (hE.h2) (fun hHeld=> ?_)
   generalize W25.drew=wd at*
   refine tk 0 ?_;refine tk 1 ?_
   refine tk 2 ?_ (hy:=by
    intro w aG;have nR:=(aG).cell 0;clear aG
    first|(go_simp;done)|(go_simp;with_reducible rfl))
   try simp only[PL]
   refine r1 3 (fun K hK=> ?_)
   have DX:w.heap.size<=w.heap.size+1:=by omega
   obtain⟨QF,QG,QH,QI⟩:=(hE.h3).c4;obtain⟨QJ,QK,QL,QM⟩:=hE.h3.f4;replace hE:=(((((((((Env.again (bW hE.ax DX (.bool false) (.slice none 0 0) (.bool false) (.slice none 0 0))).fv ((hE.h7).ak hE.h3 rfl _ _ _ _ rfl rfl rfl)).fv ((hE.h6).ak hE.h3 rfl _ _ _ _ rfl rfl rfl)).fv ((hE.h5).ak hE.h3 rfl _ _ _ _ rfl rfl rfl)).ag ((hE.h4).aj (R:=w.heap.size+1) (by omega) _ _ _ _)).ag ((hE.h3).s4 _ _ _ _)).ag ((hE.h2).aj (R:=w.heap.size+1) (by omega) _ _ _ _)).fv ((hE.g1).ak hE.h3 rfl _ _ _ _ rfl rfl rfl)).ag ((hE.g0).aj (R:=w.heap.size+1) (by omega) _ _ _ _));go_simp;clear QF QG QH QI QJ QK QL QM DX;generalize ((((wd.setCell ⟨w.heap.size+1,0,none⟩ (.bool false)).setCell ⟨w.heap.size+1,1,none⟩ (.slice none 0 0)).setCell ⟨w.heap.size+1,2,none⟩ (.bool false)).setCell ⟨w.heap.size+1,3,none⟩ (.slice none 0 0))=W27 at hE⊢;refine hK.out _ _ (hE.h2) (fun hHeld=> ?_);clear hK K;try simp only[PL]
   refine tk 4 ?_;refine aX (by kernel_rfl) ?_ _;obtain⟨y0,y1,y2,y3⟩:=(hE.h3).c4;go_wp2_with fail
   refine aK (v:= .tuple #[.agg aW,.int .i64 3]) (by simp[results,Tryz.results37,go_sem,y0,y1,y2,y3]) rfl ?_;exact⟨rfl,hE.ax⟩
 ·
  go_simp
  obtain⟨nT,sD⟩:∃nT,nT=wd.heap.size:=⟨_,rfl⟩
  have ads:w.heap.size<nT:=by rw[sD];exact(hE.h2).lt
  have adt:w.heap.size+1<nT:=by rw[sD];exact(hE.g1).lt
  have adu:g16<nT:=by rw[sD];exact(hE.g0).lt
  replace hE:=hE.blk 29 aW (g:=nT) sD.symm;generalize wd.alloc (.cells aW 29)=W28 at hE⊢;rw[<-sD];clear sD;refine hK.out _ _ (hE.h3) (fun hHeld=> ?_);clear hK K;try simp only[PL]
  refine r1 4 (fun K hK=> ?_);go_simp;refine hE.fr (mC (ca:=(h 7).c) (da:=(h 7).d) (cb:=(h 8).c) (db:=(h 8).d) (⟨_,_,hE.g1,rfl⟩:jx g16 _) (hE.h6) (hE.h5) la lb l1) ?_;clear hE;intro sx Ax nx cx tx Bx mx dx MD hE;go_wp2_with fail
  refine hK.out _ _ (hE.h4) (fun hHeld=> ?_);clear hK K;try simp only[PL]
  refine r1 7 (fun K hK=> ?_);go_simp;refine(lA (ca:=cx) (da:=dx) (cb:=(h 9).c) (db:=(h 9).d) hE.h2 (hE.g0) (hE.h5) l1 lc l2).mono ?_
  rintro e w9 ⟨rfl,u2,JE,hb⟩
  subst JE
  have ZR:w.heap.size<=g16:=by omega
  replace hE:=(((((((((Env.again (hE.ax.setCell (p:=⟨g16,0,none⟩) ZR (.int .i64 3))).fv ((hE.h7).sep (i:=0) (hE.h2) rfl (.int .i64 3))).fv ((hE.h6).sep (i:=0) (hE.h2) rfl (.int .i64 3))).fv ((hE.h5).sep (i:=0) (hE.h2) rfl (.int .i64 3))).ag ((hE.h4).far (p:=⟨g16,0,none⟩) (by first|omega|(simp;omega)) (.int .i64 3))).ag ((hE.h3).far (p:=⟨g16,0,none⟩) (by first|omega|(simp;omega)) (.int .i64 3))).ag (show au 120 g16 #[.int .i64 3] _ by simpa using(hE.h2).dZ 0 (.int .i64 3))).ag ((hE.g1).far (p:=⟨g16,0,none⟩) (by first|omega|(simp;omega)) (.int .i64 3))).fv ((hE.g0).sep (i:=0) (hE.h2) rfl (.int .i64 3)));generalize MD.setCell ⟨g16,0,none⟩ (.int .i64 3)=asI at hE hb;replace hE:=hE.step hb;clear hb ZR;go_wp2_with fail
  refine hK.out _ _ (hE.h4) (fun hHeld=> ?_);clear hK K;try simp only[PL]
  refine r1 9 (fun K hK=> ?_)
  have DY:w.heap.size<=nT:=by omega
  obtain⟨QN,QO,QS,QT⟩:=(hE.g1).c4;obtain⟨QU,QV,QW,QX⟩:=hE.g1.f4;replace hE:=(((((((((Env.again (bW hE.ax DY (.bool false) (.slice none 0 0) (.bool false) (.slice none 0 0))).fv ((hE.h7).ak hE.g1 rfl _ _ _ _ rfl rfl rfl)).fv ((hE.h6).ak hE.g1 rfl _ _ _ _ rfl rfl rfl)).fv ((hE.h5).ak hE.g1 rfl _ _ _ _ rfl rfl rfl)).ag ((hE.h4).aj (by omega) _ _ _ _)).ag ((hE.h3).aj (by omega) _ _ _ _)).ag ((hE.h2).aj (by omega) _ _ _ _)).ag ((hE.g1).s4 _ _ _ _)).fv ((hE.g0).ak hE.g1 rfl _ _ _ _ rfl rfl rfl));go_simp;clear QN QO QS QT QU QV QW QX DY;generalize ((((w9.setCell ⟨nT,0,none⟩ (.bool false)).setCell ⟨nT,1,none⟩ (.slice none 0 0)).setCell ⟨nT,2,none⟩ (.bool false)).setCell ⟨nT,3,none⟩ (.slice none 0 0))=W31 at hE⊢;refine hK.out _ _ (hE.h4) (fun hHeld=> ?_);clear hK K;try simp only[PL]
  refine aX (by kernel_rfl) ?_ _;have tC:=(hE.h2).cell 0
  go_upto_region 6 with(fail)
  clear tC;replace hE:=hE.drew;refine bH (S:=fun V=>au 120 (g16) #[.int .i64 3] V) (by kernel_rfl) (hE.h2) (fun hHeld=> ?_)
  generalize W31.drew=wd at*
  refine tk 0 ?_;refine tk 1 ?_
  refine tk 2 ?_ (hy:=by
   intro w aG;have nR:=(aG).cell 0;clear aG
   first|(go_simp;done)|(go_simp;with_reducible rfl))
  try simp only[PL]
  refine r1 3 (fun K hK=> ?_)
  have DZ:w.heap.size<=w.heap.size+1:=by omega
  obtain⟨QY,QZ,Ra,Rb⟩:=(hE.h3).c4;obtain⟨Rc,Re,Rf,Rg⟩:=hE.h3.f4;replace hE:=(((((((((Env.again (bW hE.ax DZ (.bool false) (.slice none 0 0) (.bool false) (.slice none 0 0))).fv ((hE.h7).ak hE.h3 rfl _ _ _ _ rfl rfl rfl)).fv ((hE.h6).ak hE.h3 rfl _ _ _ _ rfl rfl rfl)).fv ((hE.h5).ak hE.h3 rfl _ _ _ _ rfl rfl rfl)).ag ((hE.h4).aj (R:=w.heap.size+1) (by omega) _ _ _ _)).ag ((hE.h3).s4 _ _ _ _)).ag ((hE.h2).aj (R:=w.heap.size+1) (by omega) _ _ _ _)).ag ((hE.g1).aj (R:=w.heap.size+1) (by omega) _ _ _ _)).fv ((hE.g0).ak hE.h3 rfl _ _ _ _ rfl rfl rfl));go_simp;clear QY QZ Ra Rb Rc Re Rf Rg DZ;generalize ((((wd.setCell ⟨w.heap.size+1,0,none⟩ (.bool false)).setCell ⟨w.heap.size+1,1,none⟩ (.slice none 0 0)).setCell ⟨w.heap.size+1,2,none⟩ (.bool false)).setCell ⟨w.heap.size+1,3,none⟩ (.slice none 0 0))=W33 at hE⊢;refine hK.out _ _ (hE.h2) (fun hHeld=> ?_);clear hK K;try simp only[PL]
  refine tk 4 ?_;refine aX (by kernel_rfl) ?_ _;obtain⟨y0,y1,y2,y3⟩:=(hE.h3).c4;go_wp2_with fail
  refine aK (v:= .tuple #[.agg aW,.int .i64 3]) (by simp[results,Tryz.results37,go_sem,y0,y1,y2,y3]) rfl ?_;exact⟨rfl,hE.ax⟩
end Go.Proofs.YtclbiihcbfnjmaaGreat
