/-
  Parts.
-/
import Derived.Test.YtclbiihcbfnjmaaGreatK2
import Derived.Test.YtclbiihcbfnjmaaGreatK8
import Derived.Test.YtclbiihcbfnjmaaGreatE6A
set_option linter.unusedSimpArgs false
set_option maxRecDepth 100000
set_option maxHeartbeats 16000000
namespace Go.Proofs.YtclbiihcbfnjmaaGreat
open Go.RowKit

def RepI (it:Nat->Nat->Rat)(n:Nat)(w:World)(e:Ending)(w':World):Prop:=∃h:Nat->FH,e= .returned (.tuple #[.agg (repC h).toArray,.int .i64 0])/\RepF (fun k=>if k=10 then spl (rep it n) else rep it n k) 11 h w'/\Below w.heap.size w w'
theorem results_cell_tmp {P:Program}{fn:Func}{tmps:Array Value}{w:World}{a b:Tmp}{t:TypeId}{p:Addr}{v x:Value}(hf:fn.results=#[.cell a t,.tmp b])(ha:tmps.getD a undef= .pointer (some p))(hb:tmps.getD b undef=x)(hl:(loadVar t p).run P w= .ok v w):(results fn tmps).run P w= .ok (.tuple #[v,x]) w:=by
 unfold results;rw[hf]
 have ha2:tmps[a]?.getD undef= .pointer (some p):=by simpa using ha
 have hb2:tmps[b]?.getD undef=x:=by simpa using hb
 simp[ha2,hb2,asAddr,hl]
theorem repC_one (h:Nat->FH):∀v∈repC h,v.oneCell'=true:=fun v hv=>by
 simp only[repC,List.mem_append] at hv
 rcases hv with h1|h1|h1|h1|h1|h1|h1|h1|h1|h1|h1<;>exact qC_one _ v h1
def RwK (g K:Nat)(h:Nat->FH)(V:World):Prop:=g<V.heap.size/\∀i,i<K->∀q,q<4->V.cell? ⟨g,i*4+q,none⟩=(qC (h i))[q]?
theorem RwK.stable (g K:Nat)(h:Nat->FH):Stable (RwK g K h):=fun _ _ hb hk=>⟨Nat.lt_of_lt_of_le hk.1 hb.size,fun i hi q hq=>(hb.cell (p:=⟨g,_,none⟩) hk.1).trans (hk.2 i hi q hq)⟩
theorem Env.rwk {w W:World}{P:World->Prop}{g K:Nat}{h:Nat->FH}(hE:Env w P W)(hk:RwK g K h W):Env w (fun V=>P V/\RwK g K h V) W:=hE.and (RwK.stable _ _ _) hk
theorem RwK.of {T:TypeId}{g n cap K:Nat}{h:Nat->FH}{W:World}(hR:Rw T 4 g n cap (fun i=>qC (h i)) W)(hK:K<=n):RwK g K h W:=⟨hR.lt,fun i hi q hq=>by
 have e:(qC (h i))[q]?=some ((qC (h i))[q]'hq):=List.getElem?_eq_getElem hq;rw[e]
 exact hR.cellF (show i<n by omega) hq rfl e⟩
theorem RwK.upd {T:TypeId}{g n cap K j:Nat}{h:Nat->FH}{x:FH}{W:World}(hR:Rw T 4 g n cap (fun i=>qC (updF h j x i)) W)(hK:K<=n)(hj:K<=j):RwK g K h W:=by
 have h1:=RwK.of (h:=updF h j x) hR hK;refine⟨h1.1,fun i hi q hq=> ?_⟩;have h2:=h1.2 i hi q hq;unfold updF at h2
 rwa [if_neg (by omega)] at h2
theorem ix_cell {gf gr m:Nat}{W:World}(h:Blk 123 gf #[.pointer (some ⟨gr,0,none⟩),.pointer (some ⟨gr,4,none⟩),.pointer (some ⟨gr,8,none⟩),.pointer (some ⟨gr,12,none⟩),.pointer (some ⟨gr,16,none⟩),.pointer (some ⟨gr,20,none⟩),.pointer (some ⟨gr,24,none⟩),.pointer (some ⟨gr,28,none⟩),.pointer (some ⟨gr,32,none⟩),.pointer (some ⟨gr,36,none⟩)] W)(hm:m<10):W.cell? ⟨gf,m,none⟩=some (.pointer (some ⟨gr,m*4,none⟩)):=by
 rw[h.cell m]
 rcases(show m=0\/m=1\/m=2\/m=3\/m=4\/m=5\/m=6\/m=7\/m=8\/m=9 by omega) with rfl|rfl|rfl|rfl|rfl|rfl|rfl|rfl|rfl|rfl<;>rfl
theorem RepF.grownB {q:Nat->Rat}{K g:Nat}{h:Nat->FH}{t:TypeId}{cs:Array Value}{W W':World}(hf:RepF q K h W)(hB:Blk t g cs W)(hn:cs.toList.all noLimb=true)(hg:W.grownBy W' (some g)):RepF q K h W':=fun j hj=>FV.grownB (hf j hj) hB hn hg
theorem RepF.grownR {q:Nat->Rat}{K g n cap:Nat}{h:Nat->FH}{e:Nat->List Value}{T:TypeId}{m:Nat}{W W':World}(hf:RepF q K h W)(hR:Rw T m g n cap e W)(hg:W.grownBy W' (some g)):RepF q K h W':=fun j hj=>hR.fv (hf j hj) hg
theorem eanalyse1_v {yb yd:Bh}{yj:FH}{yA:Option Addr}{yn yc:Nat}{yr:Nat->Gr}{it:Nat->Nat->Rat}{w:World}(hitq:(Yh.mk yb yd yj yA yn yc yr).it=it)(hY:(Yh.mk yb yd yj yA yn yc yr).rd w)(hbd:(Yh.mk yb yd yj yA yn yc yr).bd)(hi:(Yh.mk yb yd yj yA yn yc yr).i)(hS:YS (Yh.mk yb yd yj yA yn yc yr)):
  Calls Tryz.prog 40 #[.agg #[.int .i64 yb.F,.int .i64 yb.S,.slice yb.A yb.n yb.c,.bool yb.i.s,.slice yb.i.A yb.i.n yb.i.c,.bool yb.i.t,.slice yb.i.B yb.i.m yb.i.d,.int .i64 yd.F,.int .i64 yd.S,.slice yd.A yd.n yd.c,.bool yd.i.s,.slice yd.i.A yd.i.n yd.i.c,.bool yd.i.t,.slice yd.i.B yd.i.m yd.i.d,.bool yj.s,.slice yj.A yj.n yj.c,.bool yj.t,.slice yj.B yj.m yj.d,.slice yA yn yc]] w (RepI it yn w):=by
 have hn6:yn<=6:=hS.n6;have hrep:=hS.rep hY;rw[hitq] at hrep;have HhY:=Lib.hid hY;clear hY;have Hhbd:=Lib.hid hbd;clear hbd;have Hhi:=Lib.hid hi;clear hi;have HhS:=Lib.hid hS;clear hS;have Hhrep:=Lib.hid hrep;clear hrep;have Hhitq:=Lib.hid hitq;clear hitq;have hE:=((Env.start w).blk 67 #[.int .i64 yb.F,.int .i64 yb.S,.slice yb.A yb.n yb.c,.bool yb.i.s,.slice yb.i.A yb.i.n yb.i.c,.bool yb.i.t,.slice yb.i.B yb.i.m yb.i.d,.int .i64 yd.F,.int .i64 yd.S,.slice yd.A yd.n yd.c,.bool yd.i.s,.slice yd.i.A yd.i.n yd.i.c,.bool yd.i.t,.slice yd.i.B yd.i.m yd.i.d,.bool yj.s,.slice yj.A yj.n yj.c,.bool yj.t,.slice yj.B yj.m yj.d,.slice yA yn yc] (g:=w.heap.size) rfl).blk 61 #[.bool false,.slice none 0 0,.bool false,.slice none 0 0,.bool false,.slice none 0 0,.bool false,.slice none 0 0,.bool false,.slice none 0 0,.bool false,.slice none 0 0,.bool false,.slice none 0 0,.bool false,.slice none 0 0,.bool false,.slice none 0 0,.bool false,.slice none 0 0,.bool false,.slice none 0 0,.bool false,.slice none 0 0,.bool false,.slice none 0 0,.bool false,.slice none 0 0,.bool false,.slice none 0 0,.bool false,.slice none 0 0,.bool false,.slice none 0 0,.bool false,.slice none 0 0,.bool false,.slice none 0 0,.bool false,.slice none 0 0,.bool false,.slice none 0 0,.bool false,.slice none 0 0] (g:=w.heap.size+1) (by simp)
 obtain⟨W0,hW0⟩:∃W0,W0=(w.alloc (.cells #[.int .i64 yb.F,.int .i64 yb.S,.slice yb.A yb.n yb.c,.bool yb.i.s,.slice yb.i.A yb.i.n yb.i.c,.bool yb.i.t,.slice yb.i.B yb.i.m yb.i.d,.int .i64 yd.F,.int .i64 yd.S,.slice yd.A yd.n yd.c,.bool yd.i.s,.slice yd.i.A yd.i.n yd.i.c,.bool yd.i.t,.slice yd.i.B yd.i.m yd.i.d,.bool yj.s,.slice yj.A yj.n yj.c,.bool yj.t,.slice yj.B yj.m yj.d,.slice yA yn yc] 67)).alloc (.cells #[.bool false,.slice none 0 0,.bool false,.slice none 0 0,.bool false,.slice none 0 0,.bool false,.slice none 0 0,.bool false,.slice none 0 0,.bool false,.slice none 0 0,.bool false,.slice none 0 0,.bool false,.slice none 0 0,.bool false,.slice none 0 0,.bool false,.slice none 0 0,.bool false,.slice none 0 0,.bool false,.slice none 0 0,.bool false,.slice none 0 0,.bool false,.slice none 0 0,.bool false,.slice none 0 0,.bool false,.slice none 0 0,.bool false,.slice none 0 0,.bool false,.slice none 0 0,.bool false,.slice none 0 0,.bool false,.slice none 0 0,.bool false,.slice none 0 0,.bool false,.slice none 0 0] 61):=⟨_,rfl⟩
 rw[<-hW0] at hE;have HW0:=Lib.hid hW0;clear hW0
 go_enter Tryz.func40,Tryz.ntmps40
 go_upto_region 1 with(fail)
 rw[<-HW0.out];have hld:(Instr.loadAt 67 (.pointer (some ⟨w.heap.size,0,none⟩))).run Tryz.prog W0= .ok (.agg #[.int .i64 yb.F,.int .i64 yb.S,.slice yb.A yb.n yb.c,.bool yb.i.s,.slice yb.i.A yb.i.n yb.i.c,.bool yb.i.t,.slice yb.i.B yb.i.m yb.i.d,.int .i64 yd.F,.int .i64 yd.S,.slice yd.A yd.n yd.c,.bool yd.i.s,.slice yd.i.A yd.i.n yd.i.c,.bool yd.i.t,.slice yd.i.B yd.i.m yd.i.d,.bool yj.s,.slice yj.A yj.n yj.c,.bool yj.t,.slice yj.B yj.m yj.d,.slice yA yn yc]) W0:=run_loadAt_mid _ w.heap.size 0 _ [.int .i64 yb.F,.int .i64 yb.S,.slice yb.A yb.n yb.c,.bool yb.i.s,.slice yb.i.A yb.i.n yb.i.c,.bool yb.i.t,.slice yb.i.B yb.i.m yb.i.d,.int .i64 yd.F,.int .i64 yd.S,.slice yd.A yd.n yd.c,.bool yd.i.s,.slice yd.i.A yd.i.n yd.i.c,.bool yd.i.t,.slice yd.i.B yd.i.m yd.i.d,.bool yj.s,.slice yj.A yj.n yj.c,.bool yj.t,.slice yj.B yj.m yj.d,.slice yA yn yc] _ (fun j v hv=>by rw[Nat.zero_add,(hE.here.1.2).cell j,List.getElem?_toArray];exact hv) Tryz.underlying67 rfl (by kernel_rfl);go_wp2_with (first|refine wpList_ldP hld rfl rfl rfl ?_)
 clear hld;refine hE.br (evalid_t (y:=Yh.mk yb yd yj yA yn yc yr) (Yh.rd_below HhY.out hE.bel) Hhbd.out Hhi.out HhS.out.ok) ?_;clear hE;intro w1 hE
 go_upto_region 4 with(fail)
 obtain⟨gr,hgr1⟩:∃gr,gr=w1.heap.size:=⟨_,rfl⟩
 have hl2_0:w.heap.size<gr:=by rw[hgr1];exact(hE.here.1.2).lt
 have hl2_1:w.heap.size+1<gr:=by rw[hgr1];exact(hE.here.2).lt
 replace hE:=hE.blk 61 #[.bool false,.slice none 0 0,.bool false,.slice none 0 0,.bool false,.slice none 0 0,.bool false,.slice none 0 0,.bool false,.slice none 0 0,.bool false,.slice none 0 0,.bool false,.slice none 0 0,.bool false,.slice none 0 0,.bool false,.slice none 0 0,.bool false,.slice none 0 0,.bool false,.slice none 0 0,.bool false,.slice none 0 0,.bool false,.slice none 0 0,.bool false,.slice none 0 0,.bool false,.slice none 0 0,.bool false,.slice none 0 0,.bool false,.slice none 0 0,.bool false,.slice none 0 0,.bool false,.slice none 0 0,.bool false,.slice none 0 0,.bool false,.slice none 0 0,.bool false,.slice none 0 0] (g:=gr) hgr1.symm;generalize w1.alloc (.cells #[.bool false,.slice none 0 0,.bool false,.slice none 0 0,.bool false,.slice none 0 0,.bool false,.slice none 0 0,.bool false,.slice none 0 0,.bool false,.slice none 0 0,.bool false,.slice none 0 0,.bool false,.slice none 0 0,.bool false,.slice none 0 0,.bool false,.slice none 0 0,.bool false,.slice none 0 0,.bool false,.slice none 0 0,.bool false,.slice none 0 0,.bool false,.slice none 0 0,.bool false,.slice none 0 0,.bool false,.slice none 0 0,.bool false,.slice none 0 0,.bool false,.slice none 0 0,.bool false,.slice none 0 0,.bool false,.slice none 0 0,.bool false,.slice none 0 0,.bool false,.slice none 0 0] 61)=W2 at hE⊢;rw[<-hgr1];clear hgr1
 have hgl:w.heap.size<=gr:=by omega
 go_upto_region 5 with(fail)
 obtain⟨g3,hg3⟩:∃g3,g3=W2.heap.size:=⟨_,rfl⟩
 have hl3_0:w.heap.size<g3:=by rw[hg3];exact(hE.h2).lt
 have hl3_1:w.heap.size+1<g3:=by rw[hg3];exact(hE.here.1.2).lt
 have hl3_2:gr<g3:=by rw[hg3];exact(hE.here.2).lt
 replace hE:=hE.blk 123 #[.pointer (some ⟨gr,0,none⟩),.pointer (some ⟨gr,4,none⟩),.pointer (some ⟨gr,8,none⟩),.pointer (some ⟨gr,12,none⟩),.pointer (some ⟨gr,16,none⟩),.pointer (some ⟨gr,20,none⟩),.pointer (some ⟨gr,24,none⟩),.pointer (some ⟨gr,28,none⟩),.pointer (some ⟨gr,32,none⟩),.pointer (some ⟨gr,36,none⟩)] (g:=g3) hg3.symm;generalize W2.alloc (.cells #[.pointer (some ⟨gr,0,none⟩),.pointer (some ⟨gr,4,none⟩),.pointer (some ⟨gr,8,none⟩),.pointer (some ⟨gr,12,none⟩),.pointer (some ⟨gr,16,none⟩),.pointer (some ⟨gr,20,none⟩),.pointer (some ⟨gr,24,none⟩),.pointer (some ⟨gr,28,none⟩),.pointer (some ⟨gr,32,none⟩),.pointer (some ⟨gr,36,none⟩)] 123)=W3 at hE⊢;rw[<-hg3];clear hg3;have k4:=(hE.here.2).cell 0;have k5:=(hE.here.2).cell 1;have k6:=(hE.here.2).cell 2;have k7:=(hE.here.2).cell 3;have k8:=(hE.here.2).cell 4;have k9:=(hE.here.2).cell 5;have k10:=(hE.here.2).cell 6;have k11:=(hE.here.2).cell 7;have k12:=(hE.here.2).cell 8;have k13:=(hE.here.2).cell 9;have hRw0:=rep_rw (h:=fun _=>zFH) (hE.here.1.2);have hE0:=hE;go_wp2_with fail
 clear k4 k5 k6 k7 k8 k9 k10 k11 k12 k13;replace hE:=((((((Env.again hE.bel).blkI (hE.h3)).blkI (hE.h2)).blkI (hE.here.2))).rwr (rep_rw (h:=fun _=>zFH) (hE.here.1.2))).rpf (q:=fun _=>0) (K:=0) (h:=fun _=>zFH) (fun j hj=>absurd hj (Nat.not_lt_zero j));clear hE0 hRw0
 go_loopw [30] (fun p wr=>∃(k:Nat) (hh:Nat->FH),k<=10/\p= .int .i64 (k:Int)/\Env w (fun V=>(((((True/\Blk 67 (w.heap.size) #[.int .i64 yb.F,.int .i64 yb.S,.slice yb.A yb.n yb.c,.bool yb.i.s,.slice yb.i.A yb.i.n yb.i.c,.bool yb.i.t,.slice yb.i.B yb.i.m yb.i.d,.int .i64 yd.F,.int .i64 yd.S,.slice yd.A yd.n yd.c,.bool yd.i.s,.slice yd.i.A yd.i.n yd.i.c,.bool yd.i.t,.slice yd.i.B yd.i.m yd.i.d,.bool yj.s,.slice yj.A yj.n yj.c,.bool yj.t,.slice yj.B yj.m yj.d,.slice yA yn yc] V)/\Blk 61 (w.heap.size+1) #[.bool false,.slice none 0 0,.bool false,.slice none 0 0,.bool false,.slice none 0 0,.bool false,.slice none 0 0,.bool false,.slice none 0 0,.bool false,.slice none 0 0,.bool false,.slice none 0 0,.bool false,.slice none 0 0,.bool false,.slice none 0 0,.bool false,.slice none 0 0,.bool false,.slice none 0 0,.bool false,.slice none 0 0,.bool false,.slice none 0 0,.bool false,.slice none 0 0,.bool false,.slice none 0 0,.bool false,.slice none 0 0,.bool false,.slice none 0 0,.bool false,.slice none 0 0,.bool false,.slice none 0 0,.bool false,.slice none 0 0,.bool false,.slice none 0 0,.bool false,.slice none 0 0] V)/\Blk 123 (g3) #[.pointer (some ⟨gr,0,none⟩),.pointer (some ⟨gr,4,none⟩),.pointer (some ⟨gr,8,none⟩),.pointer (some ⟨gr,12,none⟩),.pointer (some ⟨gr,16,none⟩),.pointer (some ⟨gr,20,none⟩),.pointer (some ⟨gr,24,none⟩),.pointer (some ⟨gr,28,none⟩),.pointer (some ⟨gr,32,none⟩),.pointer (some ⟨gr,36,none⟩)] V)/\Rw 61 4 gr 11 11 (fun i=>qC (hh i)) V)/\RepF (fun _=>0) k hh V)) wr) (fun p _=>10-(intOf p).toNat)
 case atStart=>exact⟨0,fun _=>zFH,Nat.zero_le _,rfl,((((((Env.again hE.bel).blkI (hE.h4)).blkI (hE.h3)).blkI (hE.h2)).rwr (hE.here.1.2)).rpf (hE.here.2))⟩
 case round=>
  clear hE;obtain⟨k,hh,hk,rfl,hE⟩:=hrel
  by_cases hlt:k<10
  ·
   have t1:decide ((k:Int)<10)=true:=decide_eq_true (by omega)
   have t2:(k:Int)<10:=by omega
   have hix:=ix_ptr gr hlt;go_wp2_with fail
   clear t1 hix;refine hE.fr (ffromInt_v 0 _ (by decide) (by decide)) ?_;clear hE;intro sz Az nz cz tz Bz mz dz w14 hE;have hst:=Rw.storeF (hE.h2) (show k<11 by omega) (FHof ((0:Int):Rat) sz Az nz cz tz Bz mz dz);obtain⟨hR2,hgr⟩:=Rw.putF (hE.h2) (show k<11 by omega) (FHof ((0:Int):Rat) sz Az nz cz tz Bz mz dz);have hF2:=RepF.put (k:=k) (x:=(FHof ((0:Int):Rat) sz Az nz cz tz Bz mz dz)) (q':=(fun _=>0)) (K':=(k+1)) (hE.here.1.2) (hE.h2) hgr (show FV _ ((fun _=>(0:Rat)) k) _ _ _ _ _ _ from hE.here.2) (fun j hj hne=>⟨by omega,rfl⟩);have hE2:=((((((Env.again (Go.Proofs.YtclbiihcbfnjmaaGreat.Below.grownB hE.bel hgr hE.bel.size hgl)).blkI (Blk.grownB (hE.h5) hgr (by omega))).blkI (Blk.grownB (hE.h4) hgr (by omega))).blkI (Blk.grownB (hE.h3) hgr (by omega))).rwr hR2).rpf hF2)
   generalize hU:World.setCells w14 gr (k*4) (qC (FHof ((0:Int):Rat) sz Az nz cz tz Bz mz dz))=U at*
   have HE2:=Lib.hid hE2;clear hE2 hR2 hF2 hgr hU;go_wp2_with (first|refine wpList_stP hst rfl rfl rfl rfl ?_)
   replace hE:=HE2.out;clear HE2 hst
   go_roundw
   case rel=>exact⟨k+1,updF hh k (FHof ((0:Int):Rat) sz Az nz cz tz Bz mz dz),by omega,by go_num,((((((Env.again hE.bel).blkI (hE.h4)).blkI (hE.h3)).blkI (hE.h2)).rwr (hE.here.1.2)).rpf (hE.here.2))⟩
   case measure=>simp[intOf];omega
  obtain rfl:k=10:=by omega
  have t1:decide (((10:Nat):Int)<10)=false:=decide_eq_false (by decide);have t2:decide ((10:Int)<10)=false:=decide_eq_false (by decide);have hF0:RepF (rep it 0) 10 hh wr:=RepF.congr (hE.here.2) (fun j hj=>rfl);replace hE:=((((((Env.again hE.bel).blkI (hE.h4)).blkI (hE.h3)).blkI (hE.h2)).rwr (hE.here.1.2))).rpf hF0;clear hF0;have k15:=(hE.h4).cell 18;go_wp2_with fail
  clear k15;clear t1 t2
  go_loopw [40] (fun p wr=>∃(k:Nat) (hh:Nat->FH),k<=yn/\p= .int .i64 (k:Int)/\Env w (fun V=>(((((True/\Blk 67 (w.heap.size) #[.int .i64 yb.F,.int .i64 yb.S,.slice yb.A yb.n yb.c,.bool yb.i.s,.slice yb.i.A yb.i.n yb.i.c,.bool yb.i.t,.slice yb.i.B yb.i.m yb.i.d,.int .i64 yd.F,.int .i64 yd.S,.slice yd.A yd.n yd.c,.bool yd.i.s,.slice yd.i.A yd.i.n yd.i.c,.bool yd.i.t,.slice yd.i.B yd.i.m yd.i.d,.bool yj.s,.slice yj.A yj.n yj.c,.bool yj.t,.slice yj.B yj.m yj.d,.slice yA yn yc] V)/\Blk 61 (w.heap.size+1) #[.bool false,.slice none 0 0,.bool false,.slice none 0 0,.bool false,.slice none 0 0,.bool false,.slice none 0 0,.bool false,.slice none 0 0,.bool false,.slice none 0 0,.bool false,.slice none 0 0,.bool false,.slice none 0 0,.bool false,.slice none 0 0,.bool false,.slice none 0 0,.bool false,.slice none 0 0,.bool false,.slice none 0 0,.bool false,.slice none 0 0,.bool false,.slice none 0 0,.bool false,.slice none 0 0,.bool false,.slice none 0 0,.bool false,.slice none 0 0,.bool false,.slice none 0 0,.bool false,.slice none 0 0,.bool false,.slice none 0 0,.bool false,.slice none 0 0,.bool false,.slice none 0 0] V)/\Blk 123 (g3) #[.pointer (some ⟨gr,0,none⟩),.pointer (some ⟨gr,4,none⟩),.pointer (some ⟨gr,8,none⟩),.pointer (some ⟨gr,12,none⟩),.pointer (some ⟨gr,16,none⟩),.pointer (some ⟨gr,20,none⟩),.pointer (some ⟨gr,24,none⟩),.pointer (some ⟨gr,28,none⟩),.pointer (some ⟨gr,32,none⟩),.pointer (some ⟨gr,36,none⟩)] V)/\Rw 61 4 gr 11 11 (fun i=>qC (hh i)) V)/\RepF (rep it k) 10 hh V)) wr) (fun p _=>yn-(intOf p).toNat)
  case atStart=>exact⟨0,hh,Nat.zero_le _,rfl,((((((Env.again hE.bel).blkI (hE.h4)).blkI (hE.h3)).blkI (hE.h2)).rwr (hE.here.1.2)).rpf (hE.here.2))⟩
  case round=>
   clear hE;obtain⟨k,hh,hk,rfl,hE⟩:=hrel
   by_cases hlt:k<yn
   rotate_left
   ·
    have hkn:k=yn:=by omega
    have t1:decide ((k:Int)<(yn:Int))=false:=decide_eq_false (by omega)
    have t2:¬(k:Int)<(yn:Int):=by omega
    rw[hkn] at hE;clear hkn hk hlt;have hsp:=(Hhrep.out yn (Nat.le_refl _)).spl;have hsl:=(Hhrep.out yn (Nat.le_refl _)).l;have Hhsp:=Lib.hid hsp;clear hsp;have Hhsl:=Lib.hid hsl;clear hsl
    go_upto_region 23 with(fail)
    obtain⟨g16,hg16⟩:∃g16,g16=wr.heap.size:=⟨_,rfl⟩
    have hl16_0:w.heap.size<g16:=by rw[hg16];exact(hE.h4).lt
    have hl16_1:w.heap.size+1<g16:=by rw[hg16];exact(hE.h3).lt
    have hl16_2:g3<g16:=by rw[hg16];exact(hE.h2).lt
    have hl16_3:gr<g16:=by rw[hg16];exact(hE.here.1.2).lt
    replace hE:=hE.blk 120 #[.int .i64 0] (g:=g16) hg16.symm;generalize wr.alloc (.cells #[.int .i64 0] 120)=W16 at hE⊢;rw[<-hg16];clear hg16;replace hE:=hE.rwk (RwK.of (K:=6) (h:=hh) (hE.h2) (by decide));replace hE:=hE.drew;refine wp_region_held_drew (S:=fun V=>RwK gr 6 hh V) (by kernel_rfl) (hE.here.2) (fun hHeld=> ?_)
    generalize W16.drew=wd at*
    refine tk 0 ?_
    refine tk 1 ?_ (hy:=by
     intro w hSw;have kc0:World.cell? w ⟨gr,0,none⟩=some (.bool (hh 0).s):=(hSw).2 0 (by decide) 0 (by decide);have kc1:World.cell? w ⟨gr,1,none⟩=some (.slice (hh 0).A (hh 0).n (hh 0).c):=(hSw).2 0 (by decide) 1 (by decide);have kc2:World.cell? w ⟨gr,2,none⟩=some (.bool (hh 0).t):=(hSw).2 0 (by decide) 2 (by decide);have kc3:World.cell? w ⟨gr,3,none⟩=some (.slice (hh 0).B (hh 0).m (hh 0).d):=(hSw).2 0 (by decide) 3 (by decide);clear hSw
     first|(go_simp;done)|(go_simp;with_reducible rfl))
    try simp only[PL]
    refine tk 2 ?_
    refine tk 3 ?_ (hy:=by
     intro w hSw;have kc0:World.cell? w ⟨gr,4,none⟩=some (.bool (hh 1).s):=(hSw).2 1 (by decide) 0 (by decide);have kc1:World.cell? w ⟨gr,5,none⟩=some (.slice (hh 1).A (hh 1).n (hh 1).c):=(hSw).2 1 (by decide) 1 (by decide);have kc2:World.cell? w ⟨gr,6,none⟩=some (.bool (hh 1).t):=(hSw).2 1 (by decide) 2 (by decide);have kc3:World.cell? w ⟨gr,7,none⟩=some (.slice (hh 1).B (hh 1).m (hh 1).d):=(hSw).2 1 (by decide) 3 (by decide);clear hSw
     first|(go_simp;done)|(go_simp;with_reducible rfl))
    try simp only[PL]
    refine tk 5 ?_
    refine tk 6 ?_ (hy:=by
     intro w hSw;have kc0:World.cell? w ⟨gr,8,none⟩=some (.bool (hh 2).s):=(hSw).2 2 (by decide) 0 (by decide);have kc1:World.cell? w ⟨gr,9,none⟩=some (.slice (hh 2).A (hh 2).n (hh 2).c):=(hSw).2 2 (by decide) 1 (by decide);have kc2:World.cell? w ⟨gr,10,none⟩=some (.bool (hh 2).t):=(hSw).2 2 (by decide) 2 (by decide);have kc3:World.cell? w ⟨gr,11,none⟩=some (.slice (hh 2).B (hh 2).m (hh 2).d):=(hSw).2 2 (by decide) 3 (by decide);clear hSw
     first|(go_simp;done)|(go_simp;with_reducible rfl))
    try simp only[PL]
    refine tk 8 ?_
    refine tk 9 ?_ (hy:=by
     intro w hSw;have kc0:World.cell? w ⟨gr,12,none⟩=some (.bool (hh 3).s):=(hSw).2 3 (by decide) 0 (by decide);have kc1:World.cell? w ⟨gr,13,none⟩=some (.slice (hh 3).A (hh 3).n (hh 3).c):=(hSw).2 3 (by decide) 1 (by decide);have kc2:World.cell? w ⟨gr,14,none⟩=some (.bool (hh 3).t):=(hSw).2 3 (by decide) 2 (by decide);have kc3:World.cell? w ⟨gr,15,none⟩=some (.slice (hh 3).B (hh 3).m (hh 3).d):=(hSw).2 3 (by decide) 3 (by decide);clear hSw
     first|(go_simp;done)|(go_simp;with_reducible rfl))
    try simp only[PL]
    refine tk 11 ?_
    refine tk 12 ?_ (hy:=by
     intro w hSw;have kc0:World.cell? w ⟨gr,16,none⟩=some (.bool (hh 4).s):=(hSw).2 4 (by decide) 0 (by decide);have kc1:World.cell? w ⟨gr,17,none⟩=some (.slice (hh 4).A (hh 4).n (hh 4).c):=(hSw).2 4 (by decide) 1 (by decide);have kc2:World.cell? w ⟨gr,18,none⟩=some (.bool (hh 4).t):=(hSw).2 4 (by decide) 2 (by decide);have kc3:World.cell? w ⟨gr,19,none⟩=some (.slice (hh 4).B (hh 4).m (hh 4).d):=(hSw).2 4 (by decide) 3 (by decide);clear hSw
     first|(go_simp;done)|(go_simp;with_reducible rfl))
    try simp only[PL]
    refine tk 14 ?_
    refine tk 15 ?_ (hy:=by
     intro w hSw;have kc0:World.cell? w ⟨gr,20,none⟩=some (.bool (hh 5).s):=(hSw).2 5 (by decide) 0 (by decide);have kc1:World.cell? w ⟨gr,21,none⟩=some (.slice (hh 5).A (hh 5).n (hh 5).c):=(hSw).2 5 (by decide) 1 (by decide);have kc2:World.cell? w ⟨gr,22,none⟩=some (.bool (hh 5).t):=(hSw).2 5 (by decide) 2 (by decide);have kc3:World.cell? w ⟨gr,23,none⟩=some (.slice (hh 5).B (hh 5).m (hh 5).d):=(hSw).2 5 (by decide) 3 (by decide);clear hSw
     first|(go_simp;done)|(go_simp;with_reducible rfl))
    try simp only[PL]
    refine r1 4 (fun K hK=> ?_);go_simp;refine hE.fr (eadd_v (ca:=(hh 0).c) (da:=(hh 0).d) (cb:=(hh 1).c) (db:=(hh 1).d) (⟨_,_,hE.here.1.2,rfl⟩:SumC g16 _) (hE.h2 0 (by decide)) (hE.h2 1 (by decide)) (Hhsl.out 0) (Hhsl.out 1) (Hhsp.out.1)) ?_;clear hE;intro sa Aa na ca ta Ba ma da w17 hE;go_wp2_with fail
    refine hK.out _ _ (hE.here.1.2) (fun hHeld=> ?_);clear hK K;try simp only[PL]
    refine r1 7 (fun K hK=> ?_);go_simp;refine hE.fr (esub_v (ca:=ca) (da:=da) (cb:=(hh 2).c) (db:=(hh 2).d) (⟨_,_,hE.h2,rfl⟩:SumC g16 _) (hE.here.2) (hE.h3 2 (by decide)) (Hhsp.out.1) (Hhsl.out 2) (Hhsp.out.2.1)) ?_;clear hE;intro sb Ab nb cb tb Bb mb db w18 hE;go_wp2_with fail
    refine hK.out _ _ (hE.h2) (fun hHeld=> ?_);clear hK K;try simp only[PL]
    refine r1 10 (fun K hK=> ?_);go_simp;refine hE.fr (eadd_v (ca:=cb) (da:=db) (cb:=(hh 3).c) (db:=(hh 3).d) (⟨_,_,hE.h3,rfl⟩:SumC g16 _) (hE.here.2) (hE.h4 3 (by decide)) (Hhsp.out.2.1) (Hhsl.out 3) (Hhsp.out.2.2.1)) ?_;clear hE;intro sc Ac nc cc tc Bc mc dc w19 hE;go_wp2_with fail
    refine hK.out _ _ (hE.h3) (fun hHeld=> ?_);clear hK K;try simp only[PL]
    refine r1 13 (fun K hK=> ?_);go_simp;refine hE.fr (esub_v (ca:=cc) (da:=dc) (cb:=(hh 4).c) (db:=(hh 4).d) (⟨_,_,hE.h4,rfl⟩:SumC g16 _) (hE.here.2) (hE.h5 4 (by decide)) (Hhsp.out.2.2.1) (Hhsl.out 4) (Hhsp.out.2.2.2.1)) ?_;clear hE;intro sd Ad nd cd td Bd md dd w20 hE;go_wp2_with fail
    refine hK.out _ _ (hE.h4) (fun hHeld=> ?_);clear hK K;try simp only[PL]
    refine r1 16 (fun K hK=> ?_);go_simp;refine hE.fr (esub_v (ca:=cd) (da:=dd) (cb:=(hh 5).c) (db:=(hh 5).d) (⟨_,_,hE.h5,rfl⟩:SumC g16 _) (hE.here.2) (hE.h6 5 (by decide)) (Hhsp.out.2.2.2.1) (Hhsl.out 5) (Hhsp.out.2.2.2.2)) ?_;clear hE;intro se Ae ne ce te Be me de w21 hE;go_wp2_with fail
    refine hK.out _ _ (hE.h5) (fun hHeld=> ?_);clear hK K;try simp only[PL]
    refine tk 17 ?_;refine r1 18 (fun K hK=> ?_);have hst:=Rw.storeF (hE.h8) (show 10<11 by omega) (FHof (spl (rep it yn)) se Ae ne ce te Be me de);obtain⟨hR2,hgr⟩:=Rw.putF (hE.h8) (show 10<11 by omega) (FHof (spl (rep it yn)) se Ae ne ce te Be me de);have hF2:=RepF.put (k:=10) (x:=(FHof (spl (rep it yn)) se Ae ne ce te Be me de)) (q':=(fun k=>if k=10 then spl (rep it yn) else rep it yn k)) (K':=11) (hE.h7) (hE.h8) hgr (show FV _ (if 10=10 then spl (rep it yn) else rep it yn 10) _ _ _ _ _ _ from by rw[if_pos rfl];exact hE.here.2) (fun j hj hne=>⟨by omega,if_neg hne⟩);have hE2:=(((((((Env.again (Go.Proofs.YtclbiihcbfnjmaaGreat.Below.grownB hE.bel hgr hE.bel.size hgl)).blkI (Blk.grownB (hE.h11) hgr (by omega))).blkI (Blk.grownB (hE.h10) hgr (by omega))).blkI (Blk.grownB (hE.h9) hgr (by omega))).blkI (Blk.grownB (hE.h6) hgr (by omega))).rwr hR2).rpf hF2)
    generalize hU:World.setCells w21 gr (10*4) (qC (FHof (spl (rep it yn)) se Ae ne ce te Be me de))=U at*
    have HE2:=Lib.hid hE2;clear hE2 hR2 hF2 hgr hU;refine Eq.mpr (if_pos (by rfl)) ?_;refine st_step hst rfl rfl rfl ?_;replace hE:=HE2.out;clear HE2 hst;replace hE:=hE.rwk (RwK.upd (K:=6) (h:=hh) (x:=(FHof (spl (rep it yn)) se Ae ne ce te Be me de)) hE.here.1.2 (by decide) (by decide));refine hK.out _ _ (hE.here.2) (fun hHeld=> ?_);clear hK K;try simp only[PL]
    refine wpAnyH_done (by kernel_rfl) ?_ _;have k22:=(hE.h3).cell 0
    obtain⟨H,hH⟩:∃H:Nat->FH,H=updF hh 10 (FHof (spl (rep it yn)) se Ae ne ce te Be me de):=⟨_,rfl⟩
    rw[<-hH] at hE;clear hH
    go_upto_region 26 with(fail)
    clear k22;have hld:(Instr.loadAt 61 (.pointer (some ⟨gr,0,none⟩))).run Tryz.prog U= .ok (.agg (repC H).toArray) U:=run_loadAt_mid _ gr 0 _ (repC H) _ (rw_range (hE.h2)) Tryz.underlying61 rfl (by kernel_rfl);have hst:=store_all 61 (hE.h5) (repC H) rfl (by kernel_rfl) (repC_one H);obtain⟨hgr,hBk⟩:=sets_all (hE.h5) (repC H) rfl;have hBel:=Go.Proofs.YtclbiihcbfnjmaaGreat.Below.grownB hE.bel hgr hE.bel.size (show w.heap.size<=w.heap.size+1 by omega);have hRF:=RepF.grownB (hE.here.1.2) (hE.h5) rfl hgr
    generalize hU:World.setCells _ (w.heap.size+1) 0 (repC H)=U2 at*
    have HQ:=Lib.hid (And.intro hBel (And.intro hRF hBk));clear hgr hBel hRF hBk hU;go_wp2_with (first|refine wpList_ldP hld rfl rfl rfl ?_|refine wpList_stP hst rfl rfl rfl rfl ?_)
    obtain⟨hBel,hRF,hBk⟩:=HQ.out;refine bodyPost_ret (v:= .tuple #[.agg (repC H).toArray,.int .i64 0]) (results_cell_tmp Tryz.results40 rfl rfl (run_loadVar_mid _ _ 0 _ (repC H) _ (fun j v hv=>by rw[Nat.zero_add,hBk.cell j,List.getElem?_toArray];exact hv) Tryz.underlying61 rfl (by kernel_rfl))) rfl ?_;exact⟨H,rfl,hRF,hBel⟩
   have hgm:GrM yA yn yr wr:=((Yh.rd_below HhY.out hE.bel)).2.2.2;obtain⟨b,o,rfl,hbl,hc⟩:=hgm (by omega);clear hgm;obtain⟨hra,hrx⟩:=hc k hlt;clear hc;have hgs:GrS yb yd (yr k):=HhS.out.gr hlt
   obtain⟨⟨x,tz,a,d⟩,hg⟩:∃g,g=yr k:=⟨_,rfl⟩
   rw[<-hg] at hra hrx hgs;have h0t:0<=tz:=hgs.ok.2.1.1
   obtain⟨t,rfl⟩:∃t:Nat,tz=(t:Int):=⟨tz.toNat,by omega⟩
   clear h0t
   have hxd:x.bd:=by have h9:(yr k).x.bd:=Hhbd.out.2.2.2 k hlt;rw[<-hg] at h9;exact h9
   have hit:it k=grI yb yd yj.q ⟨x,(t:Int),a,d⟩:=by rw[<-Hhitq.out];show grI yb yd yj.q (yr k)=_;rw[<-hg]
   have hil:=(grI_l hgs (Yh.rd_below HhY.out hE.bel).1 (Yh.rd_below HhY.out hE.bel).2.1 hrx HhS.out.ok.2.2.2.1 (Yh.rd_below HhY.out hE.bel).2.2.1).it
   have hrl:=fun i=>(Hhrep.out k (by omega)).l i
   have hrl2:=fun i=>(Hhrep.out (k+1) (by omega)).l i
   have t1:decide ((k:Int)<(yn:Int))=true:=decide_eq_true (by omega)
   have t2:(k:Int)<(yn:Int):=by omega
   have d0:wr.cell? ⟨b,o+k*12,none⟩=some (.int .i64 x.E):=hra 0 _ rfl;have d1:wr.cell? ⟨b,o+k*12+1,none⟩=some (.int .i64 x.Y):=hra 1 _ rfl;have d2:wr.cell? ⟨b,o+k*12+2,none⟩=some (.int .i64 x.T):=hra 2 _ rfl;have d3:wr.cell? ⟨b,o+k*12+3,none⟩=some (.bool x.p.s):=hra 3 _ rfl;have d4:wr.cell? ⟨b,o+k*12+4,none⟩=some (.slice x.p.A x.p.n x.p.c):=hra 4 _ rfl;have d5:wr.cell? ⟨b,o+k*12+5,none⟩=some (.bool x.p.t):=hra 5 _ rfl;have d6:wr.cell? ⟨b,o+k*12+6,none⟩=some (.slice x.p.B x.p.m x.p.d):=hra 6 _ rfl;have d7:wr.cell? ⟨b,o+k*12+7,none⟩=some (.slice x.A x.n x.c):=hra 7 _ rfl;have d8:wr.cell? ⟨b,o+k*12+8,none⟩=some (.slice x.B x.m x.d):=hra 8 _ rfl;have d9:wr.cell? ⟨b,o+k*12+9,none⟩=some (.int .i64 (t:Int)):=hra 9 _ rfl;have d10:wr.cell? ⟨b,o+k*12+10,none⟩=some (.int .i64 a):=hra 10 _ rfl;have d11:wr.cell? ⟨b,o+k*12+11,none⟩=some (.int .i64 d):=hra 11 _ rfl;have Hhg:=Lib.hid hg;clear hg;have Hhrx:=Lib.hid hrx;clear hrx;have Hhgs:=Lib.hid hgs;clear hgs;have Hhxd:=Lib.hid hxd;clear hxd;have Hhit:=Lib.hid hit;clear hit;have Hhil:=Lib.hid hil;clear hil;have Hhrl:=Lib.hid hrl;clear hrl;have Hhrl2:=Lib.hid hrl2;clear hrl2;clear hra
   go_upto_region 13 with(fail)
   clear d0 d1 d2 d3 d4 d5 d6 d7 d8 d9 d10 d11 t1
   obtain⟨g23,hg23⟩:∃g23,g23=wr.heap.size:=⟨_,rfl⟩
   have hl23_0:w.heap.size<g23:=by rw[hg23];exact(hE.h4).lt
   have hl23_1:w.heap.size+1<g23:=by rw[hg23];exact(hE.h3).lt
   have hl23_2:g3<g23:=by rw[hg23];exact(hE.h2).lt
   have hl23_3:gr<g23:=by rw[hg23];exact(hE.here.1.2).lt
   replace hE:=hE.blk 72 #[.int .i64 x.E,.int .i64 x.Y,.int .i64 x.T,.bool x.p.s,.slice x.p.A x.p.n x.p.c,.bool x.p.t,.slice x.p.B x.p.m x.p.d,.slice x.A x.n x.c,.slice x.B x.m x.d,.int .i64 (t:Int),.int .i64 a,.int .i64 d] (g:=g23) hg23.symm;generalize wr.alloc (.cells #[.int .i64 x.E,.int .i64 x.Y,.int .i64 x.T,.bool x.p.s,.slice x.p.A x.p.n x.p.c,.bool x.p.t,.slice x.p.B x.p.m x.p.d,.slice x.A x.n x.c,.slice x.B x.m x.d,.int .i64 (t:Int),.int .i64 a,.int .i64 d] 72)=W23 at hE⊢;rw[<-hg23];clear hg23;have hl1:(Instr.loadAt 72 (.pointer (some ⟨g23,0,none⟩))).run Tryz.prog W23= .ok (.agg #[.int .i64 x.E,.int .i64 x.Y,.int .i64 x.T,.bool x.p.s,.slice x.p.A x.p.n x.p.c,.bool x.p.t,.slice x.p.B x.p.m x.p.d,.slice x.A x.n x.c,.slice x.B x.m x.d,.int .i64 (t:Int),.int .i64 a,.int .i64 d]) W23:=run_loadAt_mid _ _ _ _ [.int .i64 x.E,.int .i64 x.Y,.int .i64 x.T,.bool x.p.s,.slice x.p.A x.p.n x.p.c,.bool x.p.t,.slice x.p.B x.p.m x.p.d,.slice x.A x.n x.c,.slice x.B x.m x.d,.int .i64 (t:Int),.int .i64 a,.int .i64 d] _ (Blk.mid (hE.here.2) 0 rfl) Tryz.underlying72 rfl (by kernel_rfl);have hl2:(Instr.loadAt 31 (.pointer (some ⟨w.heap.size,0,none⟩))).run Tryz.prog W23= .ok (.agg #[.int .i64 yb.F,.int .i64 yb.S,.slice yb.A yb.n yb.c,.bool yb.i.s,.slice yb.i.A yb.i.n yb.i.c,.bool yb.i.t,.slice yb.i.B yb.i.m yb.i.d]) W23:=run_loadAt_mid _ _ _ _ [.int .i64 yb.F,.int .i64 yb.S,.slice yb.A yb.n yb.c,.bool yb.i.s,.slice yb.i.A yb.i.n yb.i.c,.bool yb.i.t,.slice yb.i.B yb.i.m yb.i.d] _ (Blk.mid (hE.h5) 0 rfl) Tryz.underlying31 rfl (by kernel_rfl);have hl3:(Instr.loadAt 31 (.pointer (some ⟨w.heap.size,7,none⟩))).run Tryz.prog W23= .ok (.agg #[.int .i64 yd.F,.int .i64 yd.S,.slice yd.A yd.n yd.c,.bool yd.i.s,.slice yd.i.A yd.i.n yd.i.c,.bool yd.i.t,.slice yd.i.B yd.i.m yd.i.d]) W23:=run_loadAt_mid _ _ _ _ [.int .i64 yd.F,.int .i64 yd.S,.slice yd.A yd.n yd.c,.bool yd.i.s,.slice yd.i.A yd.i.n yd.i.c,.bool yd.i.t,.slice yd.i.B yd.i.m yd.i.d] _ (Blk.mid (hE.h5) 7 rfl) Tryz.underlying31 rfl (by kernel_rfl);have hl4:(Instr.loadAt 29 (.pointer (some ⟨w.heap.size,14,none⟩))).run Tryz.prog W23= .ok (.agg (qf4 yj.s yj.A yj.n yj.c yj.t yj.B yj.m yj.d)) W23:=run_loadAt_mid _ _ _ _ [.bool yj.s,.slice yj.A yj.n yj.c,.bool yj.t,.slice yj.B yj.m yj.d] _ (Blk.mid (hE.h5) 14 rfl) Tryz.underlying29 rfl (by kernel_rfl)
   obtain⟨V0,hst,hbV,hBk⟩:=new_store W23 125 (z:=#[.int .i64 0,.int .i64 0,.int .i64 0,.int .i64 0,.bool false,.slice none 0 0,.bool false,.slice none 0 0,.slice none 0 0,.slice none 0 0,.int .i64 0,.int .i64 0,.int .i64 0,.int .i64 0,.int .i64 0,.slice none 0 0,.bool false,.slice none 0 0,.bool false,.slice none 0 0,.int .i64 0,.int .i64 0,.slice none 0 0,.bool false,.slice none 0 0,.bool false,.slice none 0 0,.bool false,.slice none 0 0,.bool false,.slice none 0 0]) [.int .i64 0,.int .i64 x.E,.int .i64 x.Y,.int .i64 x.T,.bool x.p.s,.slice x.p.A x.p.n x.p.c,.bool x.p.t,.slice x.p.B x.p.m x.p.d,.slice x.A x.n x.c,.slice x.B x.m x.d,.int .i64 (t:Int),.int .i64 a,.int .i64 d,.int .i64 yb.F,.int .i64 yb.S,.slice yb.A yb.n yb.c,.bool yb.i.s,.slice yb.i.A yb.i.n yb.i.c,.bool yb.i.t,.slice yb.i.B yb.i.m yb.i.d,.int .i64 yd.F,.int .i64 yd.S,.slice yd.A yd.n yd.c,.bool yd.i.s,.slice yd.i.A yd.i.n yd.i.c,.bool yd.i.t,.slice yd.i.B yd.i.m yd.i.d,.bool yj.s,.slice yj.A yj.n yj.c,.bool yj.t,.slice yj.B yj.m yj.d] rfl (by kernel_rfl) rfl;have hQ:=Lib.hid (And.intro hbV hBk);clear hbV hBk
   go_upto_region 14 with(first|refine wpList_ldP hl1 rfl rfl rfl ?_|refine wpList_ldP hl2 rfl rfl rfl ?_|refine wpList_ldP hl3 rfl rfl rfl ?_|refine wpList_ldP hl4 rfl rfl rfl ?_|refine wpList_stP hst rfl rfl rfl rfl ?_)
   clear hl1 hl2 hl3 hl4 hst
   obtain⟨gw,hgw⟩:∃g,g=W23.heap.size:=⟨_,rfl⟩
   have hlw_0:w.heap.size<gw:=by rw[hgw];exact(hE.h5).lt
   have hlw_1:w.heap.size+1<gw:=by rw[hgw];exact(hE.h4).lt
   have hlw_2:g3<gw:=by rw[hgw];exact(hE.h3).lt
   have hlw_3:gr<gw:=by rw[hgw];exact(hE.h2).lt
   have hlw_5:g23<gw:=by rw[hgw];exact(hE.here.2).lt
   rw[<-hgw] at hQ⊢;have hbV:=hQ.out.1;rw[hgw] at hbV;replace hE:=(hE.step hbV).blkI hQ.out.2;clear hbV hgw hQ;go_wp2_with fail
   refine(esum_v (t:=t) (Yh.rd_below HhY.out hE.bel).1 (Yh.rd_below HhY.out hE.bel).2.1 (by have h9:(yr k).x.rd _:=GrM.rd (Yh.rd_below HhY.out hE.bel).2.2.2 hlt;rw[<-Hhg.out] at h9;exact h9) (Yh.rd_below HhY.out hE.bel).2.2.1 Hhbd.out.1 Hhbd.out.2.1 Hhxd.out Hhgs.out HhS.out.ok.2.2.2.1 (show Blk 125 gw (wkC x (t:Int) a d yb yd yj) _ from hE.here.2)).mono ?_
   rintro e w8 ⟨hs,rfl,hsf,hb⟩
   replace hE:=hE.step hb;clear hb;rw[<-Hhit.out] at hsf;replace hE:=hE.and (Q:=fun V=>RepF (it k) 10 hs V) (RepF.stable _ _ _) hsf;clear hsf;go_wp2_with fail
   have hF1:RepF (fun j=>if j<0 then rep it (k+1) j else rep it k j) 10 hh w8:=RepF.congr (hE.h3) (fun j hj=>rfl)
   go_loopw [53] (fun p wr=>∃(m:Nat) (hm:Nat->FH),m<=10/\p= .int .i64 (m:Int)/\Env w (fun V=>(((((((True/\Blk 67 (w.heap.size) #[.int .i64 yb.F,.int .i64 yb.S,.slice yb.A yb.n yb.c,.bool yb.i.s,.slice yb.i.A yb.i.n yb.i.c,.bool yb.i.t,.slice yb.i.B yb.i.m yb.i.d,.int .i64 yd.F,.int .i64 yd.S,.slice yd.A yd.n yd.c,.bool yd.i.s,.slice yd.i.A yd.i.n yd.i.c,.bool yd.i.t,.slice yd.i.B yd.i.m yd.i.d,.bool yj.s,.slice yj.A yj.n yj.c,.bool yj.t,.slice yj.B yj.m yj.d,.slice (some ⟨b,o,none⟩) yn yc] V)/\Blk 61 (w.heap.size+1) #[.bool false,.slice none 0 0,.bool false,.slice none 0 0,.bool false,.slice none 0 0,.bool false,.slice none 0 0,.bool false,.slice none 0 0,.bool false,.slice none 0 0,.bool false,.slice none 0 0,.bool false,.slice none 0 0,.bool false,.slice none 0 0,.bool false,.slice none 0 0,.bool false,.slice none 0 0,.bool false,.slice none 0 0,.bool false,.slice none 0 0,.bool false,.slice none 0 0,.bool false,.slice none 0 0,.bool false,.slice none 0 0,.bool false,.slice none 0 0,.bool false,.slice none 0 0,.bool false,.slice none 0 0,.bool false,.slice none 0 0,.bool false,.slice none 0 0,.bool false,.slice none 0 0] V)/\Blk 123 (g3) #[.pointer (some ⟨gr,0,none⟩),.pointer (some ⟨gr,4,none⟩),.pointer (some ⟨gr,8,none⟩),.pointer (some ⟨gr,12,none⟩),.pointer (some ⟨gr,16,none⟩),.pointer (some ⟨gr,20,none⟩),.pointer (some ⟨gr,24,none⟩),.pointer (some ⟨gr,28,none⟩),.pointer (some ⟨gr,32,none⟩),.pointer (some ⟨gr,36,none⟩)] V)/\Blk 125 (gw) #[.int .i64 0,.int .i64 x.E,.int .i64 x.Y,.int .i64 x.T,.bool x.p.s,.slice x.p.A x.p.n x.p.c,.bool x.p.t,.slice x.p.B x.p.m x.p.d,.slice x.A x.n x.c,.slice x.B x.m x.d,.int .i64 (t:Int),.int .i64 a,.int .i64 d,.int .i64 yb.F,.int .i64 yb.S,.slice yb.A yb.n yb.c,.bool yb.i.s,.slice yb.i.A yb.i.n yb.i.c,.bool yb.i.t,.slice yb.i.B yb.i.m yb.i.d,.int .i64 yd.F,.int .i64 yd.S,.slice yd.A yd.n yd.c,.bool yd.i.s,.slice yd.i.A yd.i.n yd.i.c,.bool yd.i.t,.slice yd.i.B yd.i.m yd.i.d,.bool yj.s,.slice yj.A yj.n yj.c,.bool yj.t,.slice yj.B yj.m yj.d] V)/\RepF (it k) 10 hs V)/\Rw 61 4 gr 11 11 (fun i=>qC (hm i)) V)/\RepF (fun j=>if j<m then rep it (k+1) j else rep it k j) 10 hm V)) wr) (fun p _=>10-(intOf p).toNat)
   case atStart=>exact⟨0,hh,Nat.zero_le _,rfl,((((((((Env.again hE.bel).blkI (hE.h7)).blkI (hE.h6)).blkI (hE.h5)).blkI (hE.here.1.2)).rpf (hE.here.2)).rwr (hE.h4)).rpf (hF1))⟩
   case round=>
    clear hE;obtain⟨m,hm,hm10,rfl,hE⟩:=hrel
    by_cases hlm:m<10
    ·
     have t1:decide ((m:Int)<10)=true:=decide_eq_true (by omega)
     have t2:(m:Int)<10:=by omega
     have hix:=ix_sum hs hlm;have hix2:=ix_sum2 hs hlm
     go_upto_region 17 with(fail)
     clear t1 hix hix2
     obtain⟨g24,hg24⟩:∃g24,g24=wr.heap.size:=⟨_,rfl⟩
     have hl24_0:w.heap.size<g24:=by rw[hg24];exact(hE.h6).lt
     have hl24_1:w.heap.size+1<g24:=by rw[hg24];exact(hE.h5).lt
     have hl24_2:g3<g24:=by rw[hg24];exact(hE.h4).lt
     have hl24_3:gw<g24:=by rw[hg24];exact(hE.h3).lt
     have hl24_5:gr<g24:=by rw[hg24];exact(hE.here.1.2).lt
     replace hE:=hE.blk 29 #[.bool (hs m).s,.slice (hs m).A (hs m).n (hs m).c,.bool (hs m).t,.slice (hs m).B (hs m).m (hs m).d] (g:=g24) hg24.symm;generalize wr.alloc (.cells #[.bool (hs m).s,.slice (hs m).A (hs m).n (hs m).c,.bool (hs m).t,.slice (hs m).B (hs m).m (hs m).d] 29)=W24 at hE⊢;rw[<-hg24];clear hg24;have hqm:rep it k m+it k m=rep it (k+1) m:=rfl;replace hE:=hE.drew;refine wp_region_held_drew (S:=fun V=>Blk 123 (g3) #[.pointer (some ⟨gr,0,none⟩),.pointer (some ⟨gr,4,none⟩),.pointer (some ⟨gr,8,none⟩),.pointer (some ⟨gr,12,none⟩),.pointer (some ⟨gr,16,none⟩),.pointer (some ⟨gr,20,none⟩),.pointer (some ⟨gr,24,none⟩),.pointer (some ⟨gr,28,none⟩),.pointer (some ⟨gr,32,none⟩),.pointer (some ⟨gr,36,none⟩)] V/\Blk 29 (g24) #[.bool (hs m).s,.slice (hs m).A (hs m).n (hs m).c,.bool (hs m).t,.slice (hs m).B (hs m).m (hs m).d] V) (by kernel_rfl) (⟨hE.h5,hE.here.2⟩) (fun hHeld=> ?_)
     generalize W24.drew=wd at*
     refine tk 0 ?_;refine tk 1 ?_
     refine tk 2 ?_ (hy:=by
      intro w hSw;have kc0:=ix_cell (hSw.1) hlm;clear hSw
      first|(go_simp;done)|(go_simp;with_reducible rfl))
     try simp only[PL]
     refine tk 3 ?_;refine tk 4 ?_;refine tk 5 ?_
     refine tk 6 ?_ (hy:=by
      intro w hSw;have kc0:=ix_cell (hSw.1) hlm;clear hSw
      first|(go_simp;done)|(go_simp;with_reducible rfl))
     try simp only[PL]
     refine tk 7 ?_
     refine tk 9 ?_ (hy:=by
      intro w hSw;have kc0:=(hSw.2).cell 0;have kc1:=(hSw.2).cell 1;have kc2:=(hSw.2).cell 2;have kc3:=(hSw.2).cell 3;clear hSw
      first|(go_simp;done)|(go_simp;with_reducible rfl))
     try simp only[PL]
     refine r1 8 (fun K hK=> ?_);have kc0:=Rw.cellF (hE.h2) (show m<11 by omega) (show 0<4 by decide) (show m*4=m*4+0 by rfl) rfl;have kc1:=Rw.cellF (hE.h2) (show m<11 by omega) (show 1<4 by decide) (show m*4+1=m*4+1 by rfl) rfl;have kc2:=Rw.cellF (hE.h2) (show m<11 by omega) (show 2<4 by decide) (show m*4+2=m*4+2 by rfl) rfl;have kc3:=Rw.cellF (hE.h2) (show m<11 by omega) (show 3<4 by decide) (show m*4+3=m*4+3 by rfl) rfl;go_simp;clear kc0 kc1 kc2 kc3;refine hK.out _ _ (⟨hE.h5,hE.here.2⟩) (fun hHeld=> ?_);clear hK K;try simp only[PL]
     refine r1 10 (fun K hK=> ?_);go_simp;refine hE.fr (calls_fr hqm (eadd_v (ca:=(hm m).c) (da:=(hm m).d) (cb:=(hs m).c) (db:=(hs m).d) (wkC_sum (show Blk 125 gw (wkC x (t:Int) a d yb yd yj) _ from hE.h4)) (show FV _ (rep it k m) _ _ _ _ _ _ from by have h9:=hE.here.1.2 m hlm;dsimp only at h9;rw[if_neg (Nat.lt_irrefl m)] at h9;exact h9) (hE.h3 m hlm) (Hhrl.out m) (by rw[Hhit.out];exact Hhil.out m) (by rw[hqm];exact Hhrl2.out m))) ?_;clear hE;intro sr Ar nr cr tr Br mr dr w25 hE;go_wp2_with fail
     refine hK.out _ _ (⟨hE.h6,hE.here.1.2⟩) (fun hHeld=> ?_);clear hK K;try simp only[PL]
     refine tk 11 ?_;refine r1 12 (fun K hK=> ?_)
     have hS2:=fun(V:World) (hgr:World.grownBy _ V (some gr))=>RepF.grownR (hE.h4) (hE.h3) hgr
     have hst:=Rw.storeF (hE.h3) (show m<11 by omega) (FHof (rep it (k+1) m) sr Ar nr cr tr Br mr dr);obtain⟨hR2,hgr⟩:=Rw.putF (hE.h3) (show m<11 by omega) (FHof (rep it (k+1) m) sr Ar nr cr tr Br mr dr);have hF2:=RepF.put (k:=m) (x:=(FHof (rep it (k+1) m) sr Ar nr cr tr Br mr dr)) (q':=(fun j=>if j<m+1 then rep it (k+1) j else rep it k j)) (K':=10) (hE.h2) (hE.h3) hgr (show FV _ (if m<m+1 then rep it (k+1) m else rep it k m) _ _ _ _ _ _ from by rw[if_pos (Nat.lt_succ_self m)];exact hE.here.2) (fun j hj hne=>⟨hj,by by_cases h9:j<m<;>simp only[h9,if_true,if_false]<;>first|rw[if_pos (by omega)]|rw[if_neg (by omega)]⟩);have hS3:=hS2 _ hgr;have hE2:=(((((((((Env.again (Go.Proofs.YtclbiihcbfnjmaaGreat.Below.grownB hE.bel hgr hE.bel.size hgl)).blkI (Blk.grownB (hE.h8) hgr (by omega))).blkI (Blk.grownB (hE.h7) hgr (by omega))).blkI (Blk.grownB (hE.h6) hgr (by omega))).blkI (Blk.grownB (hE.h5) hgr (by omega))).and (Q:=fun V=>RepF (it k) 10 hs V) (RepF.stable _ _ _) hS3).rwr hR2).rpf hF2).blkI (Blk.grownB (hE.here.1.2) hgr (by omega)))
     generalize hU:World.setCells w25 gr (m*4) (qC (FHof (rep it (k+1) m) sr Ar nr cr tr Br mr dr))=U at*
     have HE2:=Lib.hid hE2;clear hE2 hR2 hF2 hgr hU hS2 hS3;refine Eq.mpr (if_pos (by rfl)) ?_;refine st_step hst rfl rfl rfl ?_;replace hE:=HE2.out;clear HE2 hst;refine hK.out _ _ (⟨hE.h5,hE.here.2⟩) (fun hHeld=> ?_);clear hK K;try simp only[PL]
     refine wpAnyH_done (by kernel_rfl) ?_ _;go_wp2_with fail
     go_roundw
     case rel=>exact⟨m+1,updF hm m (FHof (rep it (k+1) m) sr Ar nr cr tr Br mr dr),by omega,by go_num,((((((((Env.again hE.bel).blkI (hE.h7)).blkI (hE.h6)).blkI (hE.h5)).blkI (hE.h4)).rpf (hE.h3)).rwr (hE.h2)).rpf (hE.here.1.2))⟩
     case measure=>simp[intOf];omega
    obtain rfl:m=10:=by omega
    have t3:decide (((10:Nat):Int)<10)=false:=decide_eq_false (by decide);have t4:decide ((10:Int)<10)=false:=decide_eq_false (by decide);have k26:=(hE.h3).cell 0;go_wp2_with fail
    clear k26;have hF9:RepF (rep it (k+1)) 10 hm wr:=RepF.congr (hE.here.2) (fun j hj=>if_pos hj)
    go_roundw
    case rel=>exact⟨k+1,hm,by omega,by go_num,((((((Env.again hE.bel).blkI (hE.h6)).blkI (hE.h5)).blkI (hE.h4)).rwr (hE.here.1.2)).rpf (hF9))⟩
    case measure=>simp[intOf];omega
theorem eanalyse_v {y:Yh}{w:World}(hY:y.rd w)(hbd:y.bd)(hi:y.i)(hS:YS y):Calls Tryz.prog 40 #[.agg #[.int .i64 y.b.F,.int .i64 y.b.S,.slice y.b.A y.b.n y.b.c,.bool y.b.i.s,.slice y.b.i.A y.b.i.n y.b.i.c,.bool y.b.i.t,.slice y.b.i.B y.b.i.m y.b.i.d,.int .i64 y.d.F,.int .i64 y.d.S,.slice y.d.A y.d.n y.d.c,.bool y.d.i.s,.slice y.d.i.A y.d.i.n y.d.i.c,.bool y.d.i.t,.slice y.d.i.B y.d.i.m y.d.i.d,.bool y.j.s,.slice y.j.A y.j.n y.j.c,.bool y.j.t,.slice y.j.B y.j.m y.j.d,.slice y.A y.n y.c]] w (RepI y.it y.n w):=eanalyse1_v rfl hY hbd hi hS
end Go.Proofs.YtclbiihcbfnjmaaGreat
