/-
  Parts.
-/
import Derived.Test.YtclbiihcbfnjmaaGreatE6A
set_option linter.unusedSimpArgs false
set_option maxRecDepth 100000
set_option maxHeartbeats 16000000
namespace Go.Proofs.YtclbiihcbfnjmaaGreat
open Go.RowKit

def ahJ (it:Nat->Nat->Rat)(n:Nat)(w:World)(e:Ending)(w':World):Prop:=∃h:Nat->FH,e= .returned (.tuple #[.agg (nM h).toArray,.int .i64 0])/\fH (fun k=>if k=10 then KL (rep it n) else rep it n k) 11 h w'/\Below w.heap.size w w'
theorem results_cell_tmp {P:Program}{fn:Func}{tmps:Array Value}{w:World}{a b:Tmp}{t:TypeId}{p:Addr}{v x:Value}(hf:fn.results=#[.cell a t,.tmp b])(ha:tmps.getD a undef= .pointer (some p))(hb:tmps.getD b undef=x)(hl:(loadVar t p).run P w= .ok v w):(results fn tmps).run P w= .ok (.tuple #[v,x]) w:=by
 unfold results;rw[hf]
 have vq:tmps[a]?.getD undef= .pointer (some p):=by simpa using ha
 have eS:tmps[b]?.getD undef=x:=by simpa using hb
 simp[vq,eS,asAddr,hl]
theorem PO (h:Nat->FH):∀v∈nM h,v.oneCell'=true:=fun v hv=>by
 simp only[nM,List.mem_append] at hv
 rcases hv with h1|h1|h1|h1|h1|h1|h1|h1|h1|h1|h1<;>exact PR _ v h1
def Lf (g K:Nat)(h:Nat->FH)(V:World):Prop:=g<V.heap.size/\∀i,i<K->∀q,q<4->V.cell? ⟨g,i*4+q,none⟩=(qC (h i))[q]?
theorem Lf.stable (g K:Nat)(h:Nat->FH):ck (Lf g K h):=fun _ _ hb hk=>⟨bY hk.1 hb.size,fun i hi q hq=>(hb.cell (p:=⟨g,_,none⟩) hk.1).trans (hk.2 i hi q hq)⟩
theorem Env.rwk {w W:World}{P:World->Prop}{g K:Nat}{h:Nat->FH}(hE:Env w P W)(hk:Lf g K h W):Env w (fun V=>P V/\Lf g K h V) W:=hE.and (Lf.stable _ _ _) hk
theorem Lf.of {T:TypeId}{g n cap K:Nat}{h:Nat->FH}{W:World}(hR:Rw T 4 g n cap (fun i=>qC (h i)) W)(hK:K<=n):Lf g K h W:=⟨hR.lt,fun i hi q hq=>by
 have e:(qC (h i))[q]?=some ((qC (h i))[q]'hq):=List.getElem?_eq_getElem hq;rw[e]
 exact hR.yx (show i<n by omega) hq rfl e⟩
theorem Lf.Zg {T:TypeId}{g n cap K j:Nat}{h:Nat->FH}{x:FH}{W:World}(hR:Rw T 4 g n cap (fun i=>qC (xu h j x i)) W)(hK:K<=n)(hj:K<=j):Lf g K h W:=by
 have h1:=Lf.of (h:=xu h j x) hR hK;refine⟨h1.1,fun i hi q hq=> ?_⟩;have h2:=h1.2 i hi q hq;unfold xu at h2
 rwa [if_neg (by omega)] at h2
theorem Jd {gf gr m:Nat}{W:World}(h:au 123 gf #[.pointer (some ⟨gr,0,none⟩),.pointer (some ⟨gr,4,none⟩),.pointer (some ⟨gr,8,none⟩),.pointer (some ⟨gr,12,none⟩),.pointer (some ⟨gr,16,none⟩),.pointer (some ⟨gr,20,none⟩),.pointer (some ⟨gr,24,none⟩),.pointer (some ⟨gr,28,none⟩),.pointer (some ⟨gr,32,none⟩),.pointer (some ⟨gr,36,none⟩)] W)(hm:m<10):W.cell? ⟨gf,m,none⟩=some (.pointer (some ⟨gr,m*4,none⟩)):=by
 rw[h.cell m]
 rcases(show m=0\/m=1\/m=2\/m=3\/m=4\/m=5\/m=6\/m=7\/m=8\/m=9 by omega) with rfl|rfl|rfl|rfl|rfl|rfl|rfl|rfl|rfl|rfl<;>rfl
theorem fH.aD {q:Nat->Rat}{K g:Nat}{h:Nat->FH}{t:TypeId}{cs:Array Value}{W W':World}(hf:fH q K h W)(hB:au t g cs W)(hn:cs.toList.all aP=true)(hg:W.grownBy W' (some g)):fH q K h W':=fun j hj=>FV.aD (hf j hj) hB hn hg
theorem fH.ac5 {q:Nat->Rat}{K g n cap:Nat}{h:Nat->FH}{e:Nat->List Value}{T:TypeId}{m:Nat}{W W':World}(hf:fH q K h W)(hR:Rw T m g n cap e W)(hg:W.grownBy W' (some g)):fH q K h W':=fun j hj=>hR.fv (hf j hj) hg
theorem DP {yb yd:Bh}{yj:FH}{yA:Option Addr}{yn yc:Nat}{yr:Nat->Gr}{it:Nat->Nat->Rat}{w:World}(ac6:(Yh.mk yb yd yj yA yn yc yr).it=it)(hY:(Yh.mk yb yd yj yA yn yc yr).rd w)(hbd:(Yh.mk yb yd yj yA yn yc yr).bd)(hi:(Yh.mk yb yd yj yA yn yc yr).i)(hS:YS (Yh.mk yb yd yj yA yn yc yr)):
  Calls Tryz.prog 40 #[.agg #[.int .i64 yb.F,.int .i64 yb.S,.slice yb.A yb.n yb.c,.bool yb.i.s,.slice yb.i.A yb.i.n yb.i.c,.bool yb.i.t,.slice yb.i.B yb.i.m yb.i.d,.int .i64 yd.F,.int .i64 yd.S,.slice yd.A yd.n yd.c,.bool yd.i.s,.slice yd.i.A yd.i.n yd.i.c,.bool yd.i.t,.slice yd.i.B yd.i.m yd.i.d,.bool yj.s,.slice yj.A yj.n yj.c,.bool yj.t,.slice yj.B yj.m yj.d,.slice yA yn yc]] w (ahJ it yn w):=by
 have hn6:yn<=6:=hS.n6;have ac7:=hS.rep hY;rw[ac6] at ac7;have AH:=af hY;clear hY;have nN:=af hbd;clear hbd;have YX:=af hi;clear hi;have HhS:=af hS;clear hS;have Je:=af ac7;clear ac7;have ahK:=af ac6;clear ac6;have hE:=((Env.start w).blk 67 #[.int .i64 yb.F,.int .i64 yb.S,.slice yb.A yb.n yb.c,.bool yb.i.s,.slice yb.i.A yb.i.n yb.i.c,.bool yb.i.t,.slice yb.i.B yb.i.m yb.i.d,.int .i64 yd.F,.int .i64 yd.S,.slice yd.A yd.n yd.c,.bool yd.i.s,.slice yd.i.A yd.i.n yd.i.c,.bool yd.i.t,.slice yd.i.B yd.i.m yd.i.d,.bool yj.s,.slice yj.A yj.n yj.c,.bool yj.t,.slice yj.B yj.m yj.d,.slice yA yn yc] (g:=w.heap.size) rfl).blk 61 #[.bool false,.slice none 0 0,.bool false,.slice none 0 0,.bool false,.slice none 0 0,.bool false,.slice none 0 0,.bool false,.slice none 0 0,.bool false,.slice none 0 0,.bool false,.slice none 0 0,.bool false,.slice none 0 0,.bool false,.slice none 0 0,.bool false,.slice none 0 0,.bool false,.slice none 0 0,.bool false,.slice none 0 0,.bool false,.slice none 0 0,.bool false,.slice none 0 0,.bool false,.slice none 0 0,.bool false,.slice none 0 0,.bool false,.slice none 0 0,.bool false,.slice none 0 0,.bool false,.slice none 0 0,.bool false,.slice none 0 0,.bool false,.slice none 0 0,.bool false,.slice none 0 0] (g:=w.heap.size+1) (by simp)
 obtain⟨W0,aC⟩:∃W0,W0=(w.alloc (.cells #[.int .i64 yb.F,.int .i64 yb.S,.slice yb.A yb.n yb.c,.bool yb.i.s,.slice yb.i.A yb.i.n yb.i.c,.bool yb.i.t,.slice yb.i.B yb.i.m yb.i.d,.int .i64 yd.F,.int .i64 yd.S,.slice yd.A yd.n yd.c,.bool yd.i.s,.slice yd.i.A yd.i.n yd.i.c,.bool yd.i.t,.slice yd.i.B yd.i.m yd.i.d,.bool yj.s,.slice yj.A yj.n yj.c,.bool yj.t,.slice yj.B yj.m yj.d,.slice yA yn yc] 67)).alloc (.cells #[.bool false,.slice none 0 0,.bool false,.slice none 0 0,.bool false,.slice none 0 0,.bool false,.slice none 0 0,.bool false,.slice none 0 0,.bool false,.slice none 0 0,.bool false,.slice none 0 0,.bool false,.slice none 0 0,.bool false,.slice none 0 0,.bool false,.slice none 0 0,.bool false,.slice none 0 0,.bool false,.slice none 0 0,.bool false,.slice none 0 0,.bool false,.slice none 0 0,.bool false,.slice none 0 0,.bool false,.slice none 0 0,.bool false,.slice none 0 0,.bool false,.slice none 0 0,.bool false,.slice none 0 0,.bool false,.slice none 0 0,.bool false,.slice none 0 0,.bool false,.slice none 0 0] 61):=⟨_,rfl⟩
 rw[<-aC] at hE;have aZ:=af aC;clear aC
 go_enter Tryz.func40,Tryz.ntmps40
 go_upto_region 1 with(fail)
 rw[<-aZ.out];have Zh:(Instr.loadAt 67 (.pointer (some ⟨w.heap.size,0,none⟩))).run Tryz.prog W0= .ok (.agg #[.int .i64 yb.F,.int .i64 yb.S,.slice yb.A yb.n yb.c,.bool yb.i.s,.slice yb.i.A yb.i.n yb.i.c,.bool yb.i.t,.slice yb.i.B yb.i.m yb.i.d,.int .i64 yd.F,.int .i64 yd.S,.slice yd.A yd.n yd.c,.bool yd.i.s,.slice yd.i.A yd.i.n yd.i.c,.bool yd.i.t,.slice yd.i.B yd.i.m yd.i.d,.bool yj.s,.slice yj.A yj.n yj.c,.bool yj.t,.slice yj.B yj.m yj.d,.slice yA yn yc]) W0:=mF _ w.heap.size 0 _ [.int .i64 yb.F,.int .i64 yb.S,.slice yb.A yb.n yb.c,.bool yb.i.s,.slice yb.i.A yb.i.n yb.i.c,.bool yb.i.t,.slice yb.i.B yb.i.m yb.i.d,.int .i64 yd.F,.int .i64 yd.S,.slice yd.A yd.n yd.c,.bool yd.i.s,.slice yd.i.A yd.i.n yd.i.c,.bool yd.i.t,.slice yd.i.B yd.i.m yd.i.d,.bool yj.s,.slice yj.A yj.n yj.c,.bool yj.t,.slice yj.B yj.m yj.d,.slice yA yn yc] _ (fun j v hv=>by rw[fk,(hE.g1).cell j,mI];exact hv) Tryz.underlying67 rfl (by kernel_rfl);go_wp2_with (first|refine gQ Zh rfl rfl rfl ?_)
 clear Zh;refine hE.br (PM (y:=Yh.mk yb yd yj yA yn yc yr) (Yh.aN AH.out hE.ax) nN.out YX.out HhS.out.ok) ?_;clear hE;intro w1 hE
 go_upto_region 4 with(fail)
 obtain⟨gr,PS⟩:∃gr,gr=w1.heap.size:=⟨_,rfl⟩
 have OI:w.heap.size<gr:=by rw[PS];exact(hE.g1).lt
 have ZJ:w.heap.size+1<gr:=by rw[PS];exact(hE.g0).lt
 replace hE:=hE.blk 61 #[.bool false,.slice none 0 0,.bool false,.slice none 0 0,.bool false,.slice none 0 0,.bool false,.slice none 0 0,.bool false,.slice none 0 0,.bool false,.slice none 0 0,.bool false,.slice none 0 0,.bool false,.slice none 0 0,.bool false,.slice none 0 0,.bool false,.slice none 0 0,.bool false,.slice none 0 0,.bool false,.slice none 0 0,.bool false,.slice none 0 0,.bool false,.slice none 0 0,.bool false,.slice none 0 0,.bool false,.slice none 0 0,.bool false,.slice none 0 0,.bool false,.slice none 0 0,.bool false,.slice none 0 0,.bool false,.slice none 0 0,.bool false,.slice none 0 0,.bool false,.slice none 0 0] (g:=gr) PS.symm;generalize w1.alloc (.cells #[.bool false,.slice none 0 0,.bool false,.slice none 0 0,.bool false,.slice none 0 0,.bool false,.slice none 0 0,.bool false,.slice none 0 0,.bool false,.slice none 0 0,.bool false,.slice none 0 0,.bool false,.slice none 0 0,.bool false,.slice none 0 0,.bool false,.slice none 0 0,.bool false,.slice none 0 0,.bool false,.slice none 0 0,.bool false,.slice none 0 0,.bool false,.slice none 0 0,.bool false,.slice none 0 0,.bool false,.slice none 0 0,.bool false,.slice none 0 0,.bool false,.slice none 0 0,.bool false,.slice none 0 0,.bool false,.slice none 0 0,.bool false,.slice none 0 0,.bool false,.slice none 0 0] 61)=W2 at hE⊢;rw[<-PS];clear PS
 have MG:w.heap.size<=gr:=by omega
 go_upto_region 5 with(fail)
 obtain⟨g3,lX⟩:∃g3,g3=W2.heap.size:=⟨_,rfl⟩
 have CE:w.heap.size<g3:=by rw[lX];exact(hE.h2).lt
 have Zl:w.heap.size+1<g3:=by rw[lX];exact(hE.g1).lt
 have Zm:gr<g3:=by rw[lX];exact(hE.g0).lt
 replace hE:=hE.blk 123 #[.pointer (some ⟨gr,0,none⟩),.pointer (some ⟨gr,4,none⟩),.pointer (some ⟨gr,8,none⟩),.pointer (some ⟨gr,12,none⟩),.pointer (some ⟨gr,16,none⟩),.pointer (some ⟨gr,20,none⟩),.pointer (some ⟨gr,24,none⟩),.pointer (some ⟨gr,28,none⟩),.pointer (some ⟨gr,32,none⟩),.pointer (some ⟨gr,36,none⟩)] (g:=g3) lX.symm;generalize W2.alloc (.cells #[.pointer (some ⟨gr,0,none⟩),.pointer (some ⟨gr,4,none⟩),.pointer (some ⟨gr,8,none⟩),.pointer (some ⟨gr,12,none⟩),.pointer (some ⟨gr,16,none⟩),.pointer (some ⟨gr,20,none⟩),.pointer (some ⟨gr,24,none⟩),.pointer (some ⟨gr,28,none⟩),.pointer (some ⟨gr,32,none⟩),.pointer (some ⟨gr,36,none⟩)] 123)=W3 at hE⊢;rw[<-lX];clear lX;have k4:=(hE.g0).cell 0;have k5:=(hE.g0).cell 1;have k6:=(hE.g0).cell 2;have k7:=(hE.g0).cell 3;have k8:=(hE.g0).cell 4;have k9:=(hE.g0).cell 5;have fU:=(hE.g0).cell 6;have dX:=(hE.g0).cell 7;have dY:=(hE.g0).cell 8;have eu:=(hE.g0).cell 9;have anY:=PT (h:=fun _=>zFH) (hE.g1);have hE0:=hE;go_wp2_with fail
 clear k4 k5 k6 k7 k8 k9 fU dX dY eu;replace hE:=((((((Env.again hE.ax).ag (hE.h3)).ag (hE.h2)).ag (hE.g0))).PU (PT (h:=fun _=>zFH) (hE.g1))).Lg (q:=fun _=>0) (K:=0) (h:=fun _=>zFH) (fun j hj=>absurd hj (nY j));clear hE0 anY
 go_loopw [30] (fun p wr=>∃(k:Nat) (hh:Nat->FH),k<=10/\p= .int .i64 (k:Int)/\Env w (fun V=>(((((True/\au 67 (w.heap.size) #[.int .i64 yb.F,.int .i64 yb.S,.slice yb.A yb.n yb.c,.bool yb.i.s,.slice yb.i.A yb.i.n yb.i.c,.bool yb.i.t,.slice yb.i.B yb.i.m yb.i.d,.int .i64 yd.F,.int .i64 yd.S,.slice yd.A yd.n yd.c,.bool yd.i.s,.slice yd.i.A yd.i.n yd.i.c,.bool yd.i.t,.slice yd.i.B yd.i.m yd.i.d,.bool yj.s,.slice yj.A yj.n yj.c,.bool yj.t,.slice yj.B yj.m yj.d,.slice yA yn yc] V)/\au 61 (w.heap.size+1) #[.bool false,.slice none 0 0,.bool false,.slice none 0 0,.bool false,.slice none 0 0,.bool false,.slice none 0 0,.bool false,.slice none 0 0,.bool false,.slice none 0 0,.bool false,.slice none 0 0,.bool false,.slice none 0 0,.bool false,.slice none 0 0,.bool false,.slice none 0 0,.bool false,.slice none 0 0,.bool false,.slice none 0 0,.bool false,.slice none 0 0,.bool false,.slice none 0 0,.bool false,.slice none 0 0,.bool false,.slice none 0 0,.bool false,.slice none 0 0,.bool false,.slice none 0 0,.bool false,.slice none 0 0,.bool false,.slice none 0 0,.bool false,.slice none 0 0,.bool false,.slice none 0 0] V)/\au 123 (g3) #[.pointer (some ⟨gr,0,none⟩),.pointer (some ⟨gr,4,none⟩),.pointer (some ⟨gr,8,none⟩),.pointer (some ⟨gr,12,none⟩),.pointer (some ⟨gr,16,none⟩),.pointer (some ⟨gr,20,none⟩),.pointer (some ⟨gr,24,none⟩),.pointer (some ⟨gr,28,none⟩),.pointer (some ⟨gr,32,none⟩),.pointer (some ⟨gr,36,none⟩)] V)/\Rw 61 4 gr 11 11 (fun i=>qC (hh i)) V)/\fH (fun _=>0) k hh V)) wr) (fun p _=>10-(intOf p).toNat)
 case atStart=>exact⟨0,fun _=>zFH,bF _,rfl,((((((Env.again hE.ax).ag (hE.h4)).ag (hE.h3)).ag (hE.h2)).PU (hE.g1)).Lg (hE.g0))⟩
 case round=>
  clear hE;obtain⟨k,hh,hk,rfl,hE⟩:=hrel
  by_cases hlt:k<10
  ·
   have t1:decide ((k:Int)<10)=true:=aL (by omega)
   have t2:(k:Int)<10:=by omega
   have hix:=ac8 gr hlt;go_wp2_with fail
   clear t1 hix;refine hE.fr (bg 0 _ (by decide) (by decide)) ?_;clear hE;intro sz Az nz cz tz Bz mz dz FC hE;have hst:=Rw.Gi (hE.h2) (show k<11 by omega) (bU ((0:Int):Rat) sz Az nz cz tz Bz mz dz);obtain⟨kV,eE⟩:=Rw.ac9 (hE.h2) (show k<11 by omega) (bU ((0:Int):Rat) sz Az nz cz tz Bz mz dz);have ZK:=fH.put (k:=k) (x:=(bU ((0:Int):Rat) sz Az nz cz tz Bz mz dz)) (q':=(fun _=>0)) (K':=(k+1)) (hE.g1) (hE.h2) eE (show FV _ ((fun _=>(0:Rat)) k) _ _ _ _ _ _ from hE.g0) (fun j hj hne=>⟨by omega,rfl⟩);have dD:=((((((Env.again (Go.Proofs.YtclbiihcbfnjmaaGreat.Below.aD hE.ax eE hE.ax.size MG)).ag (au.aD (hE.h5) eE (by omega))).ag (au.aD (hE.h4) eE (by omega))).ag (au.aD (hE.h3) eE (by omega))).PU kV).Lg ZK)
   generalize hU:World.setCells FC gr (k*4) (qC (bU ((0:Int):Rat) sz Az nz cz tz Bz mz dz))=U at*
   have Gj:=af dD;clear dD kV ZK eE hU;go_wp2_with (first|refine mE hst rfl rfl rfl rfl ?_)
   replace hE:=Gj.out;clear Gj hst
   go_roundw
   case rel=>exact⟨k+1,xu hh k (bU ((0:Int):Rat) sz Az nz cz tz Bz mz dz),by omega,by go_num,((((((Env.again hE.ax).ag (hE.h4)).ag (hE.h3)).ag (hE.h2)).PU (hE.g1)).Lg (hE.g0))⟩
   case measure=>simp[intOf];omega
  obtain rfl:k=10:=by omega
  have t1:decide (((10:Nat):Int)<10)=false:=aH (by decide);have t2:decide ((10:Int)<10)=false:=aH (by decide);have hF0:fH (rep it 0) 10 hh wr:=fH.congr (hE.g0) (fun j hj=>rfl);replace hE:=((((((Env.again hE.ax).ag (hE.h4)).ag (hE.h3)).ag (hE.h2)).PU (hE.g1))).Lg hF0;clear hF0;have iA:=(hE.h4).cell 18;go_wp2_with fail
  clear iA;clear t1 t2
  go_loopw [40] (fun p wr=>∃(k:Nat) (hh:Nat->FH),k<=yn/\p= .int .i64 (k:Int)/\Env w (fun V=>(((((True/\au 67 (w.heap.size) #[.int .i64 yb.F,.int .i64 yb.S,.slice yb.A yb.n yb.c,.bool yb.i.s,.slice yb.i.A yb.i.n yb.i.c,.bool yb.i.t,.slice yb.i.B yb.i.m yb.i.d,.int .i64 yd.F,.int .i64 yd.S,.slice yd.A yd.n yd.c,.bool yd.i.s,.slice yd.i.A yd.i.n yd.i.c,.bool yd.i.t,.slice yd.i.B yd.i.m yd.i.d,.bool yj.s,.slice yj.A yj.n yj.c,.bool yj.t,.slice yj.B yj.m yj.d,.slice yA yn yc] V)/\au 61 (w.heap.size+1) #[.bool false,.slice none 0 0,.bool false,.slice none 0 0,.bool false,.slice none 0 0,.bool false,.slice none 0 0,.bool false,.slice none 0 0,.bool false,.slice none 0 0,.bool false,.slice none 0 0,.bool false,.slice none 0 0,.bool false,.slice none 0 0,.bool false,.slice none 0 0,.bool false,.slice none 0 0,.bool false,.slice none 0 0,.bool false,.slice none 0 0,.bool false,.slice none 0 0,.bool false,.slice none 0 0,.bool false,.slice none 0 0,.bool false,.slice none 0 0,.bool false,.slice none 0 0,.bool false,.slice none 0 0,.bool false,.slice none 0 0,.bool false,.slice none 0 0,.bool false,.slice none 0 0] V)/\au 123 (g3) #[.pointer (some ⟨gr,0,none⟩),.pointer (some ⟨gr,4,none⟩),.pointer (some ⟨gr,8,none⟩),.pointer (some ⟨gr,12,none⟩),.pointer (some ⟨gr,16,none⟩),.pointer (some ⟨gr,20,none⟩),.pointer (some ⟨gr,24,none⟩),.pointer (some ⟨gr,28,none⟩),.pointer (some ⟨gr,32,none⟩),.pointer (some ⟨gr,36,none⟩)] V)/\Rw 61 4 gr 11 11 (fun i=>qC (hh i)) V)/\fH (rep it k) 10 hh V)) wr) (fun p _=>yn-(intOf p).toNat)
  case atStart=>exact⟨0,hh,bF _,rfl,((((((Env.again hE.ax).ag (hE.h4)).ag (hE.h3)).ag (hE.h2)).PU (hE.g1)).Lg (hE.g0))⟩
  case round=>
   clear hE;obtain⟨k,hh,hk,rfl,hE⟩:=hrel
   by_cases hlt:k<yn
   rotate_left
   ·
    have hkn:k=yn:=by omega
    have t1:decide ((k:Int)<(yn:Int))=false:=aH (by omega)
    have t2:¬(k:Int)<(yn:Int):=by omega
    rw[hkn] at hE;clear hkn hk hlt;have hsp:=(Je.out yn (aq _)).KL;have hsl:=(Je.out yn (aq _)).l;have AJ:=af hsp;clear hsp;have Lh:=af hsl;clear hsl
    go_upto_region 23 with(fail)
    obtain⟨g16,jG⟩:∃g16,g16=wr.heap.size:=⟨_,rfl⟩
    have anZ:w.heap.size<g16:=by rw[jG];exact(hE.h4).lt
    have an0:w.heap.size+1<g16:=by rw[jG];exact(hE.h3).lt
    have an1:g3<g16:=by rw[jG];exact(hE.h2).lt
    have Gk:gr<g16:=by rw[jG];exact(hE.g1).lt
    replace hE:=hE.blk 120 #[.int .i64 0] (g:=g16) jG.symm;generalize wr.alloc (.cells #[.int .i64 0] 120)=Pf at hE⊢;rw[<-jG];clear jG;replace hE:=hE.rwk (Lf.of (K:=6) (h:=hh) (hE.h2) (by decide));replace hE:=hE.drew;refine bH (S:=fun V=>Lf gr 6 hh V) (by kernel_rfl) (hE.g0) (fun hHeld=> ?_)
    generalize Pf.drew=wd at*
    refine tk 0 ?_
    refine tk 1 ?_ (hy:=by
     intro w aG;have nR:World.cell? w ⟨gr,0,none⟩=some (.bool (hh 0).s):=(aG).2 0 (by decide) 0 (by decide);have qL:World.cell? w ⟨gr,1,none⟩=some (.slice (hh 0).A (hh 0).n (hh 0).c):=(aG).2 0 (by decide) 1 (by decide);have rS:World.cell? w ⟨gr,2,none⟩=some (.bool (hh 0).t):=(aG).2 0 (by decide) 2 (by decide);have qR:World.cell? w ⟨gr,3,none⟩=some (.slice (hh 0).B (hh 0).m (hh 0).d):=(aG).2 0 (by decide) 3 (by decide);clear aG
     first|(go_simp;done)|(go_simp;with_reducible rfl))
    try simp only[PL]
    refine tk 2 ?_
    refine tk 3 ?_ (hy:=by
     intro w aG;have nR:World.cell? w ⟨gr,4,none⟩=some (.bool (hh 1).s):=(aG).2 1 (by decide) 0 (by decide);have qL:World.cell? w ⟨gr,5,none⟩=some (.slice (hh 1).A (hh 1).n (hh 1).c):=(aG).2 1 (by decide) 1 (by decide);have rS:World.cell? w ⟨gr,6,none⟩=some (.bool (hh 1).t):=(aG).2 1 (by decide) 2 (by decide);have qR:World.cell? w ⟨gr,7,none⟩=some (.slice (hh 1).B (hh 1).m (hh 1).d):=(aG).2 1 (by decide) 3 (by decide);clear aG
     first|(go_simp;done)|(go_simp;with_reducible rfl))
    try simp only[PL]
    refine tk 5 ?_
    refine tk 6 ?_ (hy:=by
     intro w aG;have nR:World.cell? w ⟨gr,8,none⟩=some (.bool (hh 2).s):=(aG).2 2 (by decide) 0 (by decide);have qL:World.cell? w ⟨gr,9,none⟩=some (.slice (hh 2).A (hh 2).n (hh 2).c):=(aG).2 2 (by decide) 1 (by decide);have rS:World.cell? w ⟨gr,10,none⟩=some (.bool (hh 2).t):=(aG).2 2 (by decide) 2 (by decide);have qR:World.cell? w ⟨gr,11,none⟩=some (.slice (hh 2).B (hh 2).m (hh 2).d):=(aG).2 2 (by decide) 3 (by decide);clear aG
     first|(go_simp;done)|(go_simp;with_reducible rfl))
    try simp only[PL]
    refine tk 8 ?_
    refine tk 9 ?_ (hy:=by
     intro w aG;have nR:World.cell? w ⟨gr,12,none⟩=some (.bool (hh 3).s):=(aG).2 3 (by decide) 0 (by decide);have qL:World.cell? w ⟨gr,13,none⟩=some (.slice (hh 3).A (hh 3).n (hh 3).c):=(aG).2 3 (by decide) 1 (by decide);have rS:World.cell? w ⟨gr,14,none⟩=some (.bool (hh 3).t):=(aG).2 3 (by decide) 2 (by decide);have qR:World.cell? w ⟨gr,15,none⟩=some (.slice (hh 3).B (hh 3).m (hh 3).d):=(aG).2 3 (by decide) 3 (by decide);clear aG
     first|(go_simp;done)|(go_simp;with_reducible rfl))
    try simp only[PL]
    refine tk 11 ?_
    refine tk 12 ?_ (hy:=by
     intro w aG;have nR:World.cell? w ⟨gr,16,none⟩=some (.bool (hh 4).s):=(aG).2 4 (by decide) 0 (by decide);have qL:World.cell? w ⟨gr,17,none⟩=some (.slice (hh 4).A (hh 4).n (hh 4).c):=(aG).2 4 (by decide) 1 (by decide);have rS:World.cell? w ⟨gr,18,none⟩=some (.bool (hh 4).t):=(aG).2 4 (by decide) 2 (by decide);have qR:World.cell? w ⟨gr,19,none⟩=some (.slice (hh 4).B (hh 4).m (hh 4).d):=(aG).2 4 (by decide) 3 (by decide);clear aG
     first|(go_simp;done)|(go_simp;with_reducible rfl))
    try simp only[PL]
    refine tk 14 ?_
    refine tk 15 ?_ (hy:=by
     intro w aG;have nR:World.cell? w ⟨gr,20,none⟩=some (.bool (hh 5).s):=(aG).2 5 (by decide) 0 (by decide);have qL:World.cell? w ⟨gr,21,none⟩=some (.slice (hh 5).A (hh 5).n (hh 5).c):=(aG).2 5 (by decide) 1 (by decide);have rS:World.cell? w ⟨gr,22,none⟩=some (.bool (hh 5).t):=(aG).2 5 (by decide) 2 (by decide);have qR:World.cell? w ⟨gr,23,none⟩=some (.slice (hh 5).B (hh 5).m (hh 5).d):=(aG).2 5 (by decide) 3 (by decide);clear aG
     first|(go_simp;done)|(go_simp;with_reducible rfl))
    try simp only[PL]
    refine r1 4 (fun K hK=> ?_);go_simp;refine hE.fr (mC (ca:=(hh 0).c) (da:=(hh 0).d) (cb:=(hh 1).c) (db:=(hh 1).d) (⟨_,_,hE.g1,rfl⟩:jx g16 _) (hE.h2 0 (by decide)) (hE.h2 1 (by decide)) (Lh.out 0) (Lh.out 1) (AJ.out.1)) ?_;clear hE;intro sa Aa na ca ta Ba ma da Gc hE;go_wp2_with fail
    refine hK.out _ _ (hE.g1) (fun hHeld=> ?_);clear hK K;try simp only[PL]
    refine r1 7 (fun K hK=> ?_);go_simp;refine hE.fr (mD (ca:=ca) (da:=da) (cb:=(hh 2).c) (db:=(hh 2).d) (⟨_,_,hE.h2,rfl⟩:jx g16 _) (hE.g0) (hE.h3 2 (by decide)) (AJ.out.1) (Lh.out 2) (AJ.out.2.1)) ?_;clear hE;intro sb Ab nb cb tb Bb mb db TL hE;go_wp2_with fail
    refine hK.out _ _ (hE.h2) (fun hHeld=> ?_);clear hK K;try simp only[PL]
    refine r1 10 (fun K hK=> ?_);go_simp;refine hE.fr (mC (ca:=cb) (da:=db) (cb:=(hh 3).c) (db:=(hh 3).d) (⟨_,_,hE.h3,rfl⟩:jx g16 _) (hE.g0) (hE.h4 3 (by decide)) (AJ.out.2.1) (Lh.out 3) (AJ.out.2.2.1)) ?_;clear hE;intro sc Ac nc cc tc Bc mc dc w19 hE;go_wp2_with fail
    refine hK.out _ _ (hE.h3) (fun hHeld=> ?_);clear hK K;try simp only[PL]
    refine r1 13 (fun K hK=> ?_);go_simp;refine hE.fr (mD (ca:=cc) (da:=dc) (cb:=(hh 4).c) (db:=(hh 4).d) (⟨_,_,hE.h4,rfl⟩:jx g16 _) (hE.g0) (hE.h5 4 (by decide)) (AJ.out.2.2.1) (Lh.out 4) (AJ.out.2.2.2.1)) ?_;clear hE;intro sd Ad nd cd td Bd md dd w20 hE;go_wp2_with fail
    refine hK.out _ _ (hE.h4) (fun hHeld=> ?_);clear hK K;try simp only[PL]
    refine r1 16 (fun K hK=> ?_);go_simp;refine hE.fr (mD (ca:=cd) (da:=dd) (cb:=(hh 5).c) (db:=(hh 5).d) (⟨_,_,hE.h5,rfl⟩:jx g16 _) (hE.g0) (hE.h6 5 (by decide)) (AJ.out.2.2.2.1) (Lh.out 5) (AJ.out.2.2.2.2)) ?_;clear hE;intro se Ae ne ce te Be me de MH hE;go_wp2_with fail
    refine hK.out _ _ (hE.h5) (fun hHeld=> ?_);clear hK K;try simp only[PL]
    refine tk 17 ?_;refine r1 18 (fun K hK=> ?_);have hst:=Rw.Gi (hE.h8) (show 10<11 by omega) (bU (KL (rep it yn)) se Ae ne ce te Be me de);obtain⟨kV,eE⟩:=Rw.ac9 (hE.h8) (show 10<11 by omega) (bU (KL (rep it yn)) se Ae ne ce te Be me de);have ZK:=fH.put (k:=10) (x:=(bU (KL (rep it yn)) se Ae ne ce te Be me de)) (q':=(fun k=>if k=10 then KL (rep it yn) else rep it yn k)) (K':=11) (hE.h7) (hE.h8) eE (show FV _ (if 10=10 then KL (rep it yn) else rep it yn 10) _ _ _ _ _ _ from by rw[if_pos rfl];exact hE.g0) (fun j hj hne=>⟨by omega,if_neg hne⟩);have dD:=(((((((Env.again (Go.Proofs.YtclbiihcbfnjmaaGreat.Below.aD hE.ax eE hE.ax.size MG)).ag (au.aD (hE.h11) eE (by omega))).ag (au.aD (hE.h10) eE (by omega))).ag (au.aD (hE.h9) eE (by omega))).ag (au.aD (hE.h6) eE (by omega))).PU kV).Lg ZK)
    generalize hU:World.setCells MH gr (10*4) (qC (bU (KL (rep it yn)) se Ae ne ce te Be me de))=U at*
    have Gj:=af dD;clear dD kV ZK eE hU;refine Eq.mpr (if_pos (by rfl)) ?_;refine AA hst rfl rfl rfl ?_;replace hE:=Gj.out;clear Gj hst;replace hE:=hE.rwk (Lf.Zg (K:=6) (h:=hh) (x:=(bU (KL (rep it yn)) se Ae ne ce te Be me de)) hE.g1 (by decide) (by decide));refine hK.out _ _ (hE.g0) (fun hHeld=> ?_);clear hK K;try simp only[PL]
    refine aX (by kernel_rfl) ?_ _;have lW:=(hE.h3).cell 0
    obtain⟨H,hH⟩:∃H:Nat->FH,H=xu hh 10 (bU (KL (rep it yn)) se Ae ne ce te Be me de):=⟨_,rfl⟩
    rw[<-hH] at hE;clear hH
    go_upto_region 26 with(fail)
    clear lW;have Zh:(Instr.loadAt 61 (.pointer (some ⟨gr,0,none⟩))).run Tryz.prog U= .ok (.agg (nM H).toArray) U:=mF _ gr 0 _ (nM H) _ (PV (hE.h2)) Tryz.underlying61 rfl (by kernel_rfl);have hst:=oK 61 (hE.h5) (nM H) rfl (by kernel_rfl) (PO H);obtain⟨eE,vk⟩:=oo (hE.h5) (nM H) rfl;have aM:=Go.Proofs.YtclbiihcbfnjmaaGreat.Below.aD hE.ax eE hE.ax.size (show w.heap.size<=w.heap.size+1 by omega);have hRF:=fH.aD (hE.g1) (hE.h5) rfl eE
    generalize hU:World.setCells _ (w.heap.size+1) 0 (nM H)=U2 at*
    have HQ:=af (And.intro aM (And.intro hRF vk));clear eE aM hRF vk hU;go_wp2_with (first|refine gQ Zh rfl rfl rfl ?_|refine mE hst rfl rfl rfl rfl ?_)
    obtain⟨aM,hRF,vk⟩:=HQ.out;refine aK (v:= .tuple #[.agg (nM H).toArray,.int .i64 0]) (results_cell_tmp Tryz.results40 rfl rfl (run_loadVar_mid _ _ 0 _ (nM H) _ (fun j v hv=>by rw[fk,vk.cell j,mI];exact hv) Tryz.underlying61 rfl (by kernel_rfl))) rfl ?_;exact⟨H,rfl,hRF,aM⟩
   have hgm:DN yA yn yr wr:=((Yh.aN AH.out hE.ax)).2.2.2;obtain⟨b,o,rfl,iZ,hc⟩:=hgm (by omega);clear hgm;obtain⟨qV,hrx⟩:=hc k hlt;clear hc;have hgs:KQ yb yd (yr k):=HhS.out.gr hlt
   obtain⟨⟨x,tz,a,d⟩,hg⟩:∃g,g=yr k:=⟨_,rfl⟩
   rw[<-hg] at qV hrx hgs;have h0t:0<=tz:=hgs.ok.2.1.1
   obtain⟨t,rfl⟩:∃t:Nat,tz=(t:Int):=⟨tz.toNat,by omega⟩
   clear h0t
   have hxd:x.bd:=by have h9:(yr k).x.bd:=nN.out.2.2.2 k hlt;rw[<-hg] at h9;exact h9
   have hit:it k=Wh yb yd yj.q ⟨x,(t:Int),a,d⟩:=by rw[<-ahK.out];show Wh yb yd yj.q (yr k)=_;rw[<-hg]
   have hil:=(ZI hgs (Yh.aN AH.out hE.ax).1 (Yh.aN AH.out hE.ax).2.1 hrx HhS.out.ok.2.2.2.1 (Yh.aN AH.out hE.ax).2.2.1).it
   have hrl:=fun i=>(Je.out k (by omega)).l i
   have ahL:=fun i=>(Je.out (k+1) (by omega)).l i
   have t1:decide ((k:Int)<(yn:Int))=true:=aL (by omega)
   have t2:(k:Int)<(yn:Int):=by omega
   have d0:wr.cell? ⟨b,o+k*12,none⟩=some (.int .i64 x.E):=qV 0 _ rfl;have d1:wr.cell? ⟨b,o+k*12+1,none⟩=some (.int .i64 x.Y):=qV 1 _ rfl;have d2:wr.cell? ⟨b,o+k*12+2,none⟩=some (.int .i64 x.T):=qV 2 _ rfl;have d3:wr.cell? ⟨b,o+k*12+3,none⟩=some (.bool x.p.s):=qV 3 _ rfl;have d4:wr.cell? ⟨b,o+k*12+4,none⟩=some (.slice x.p.A x.p.n x.p.c):=qV 4 _ rfl;have d5:wr.cell? ⟨b,o+k*12+5,none⟩=some (.bool x.p.t):=qV 5 _ rfl;have d6:wr.cell? ⟨b,o+k*12+6,none⟩=some (.slice x.p.B x.p.m x.p.d):=qV 6 _ rfl;have d7:wr.cell? ⟨b,o+k*12+7,none⟩=some (.slice x.A x.n x.c):=qV 7 _ rfl;have d8:wr.cell? ⟨b,o+k*12+8,none⟩=some (.slice x.B x.m x.d):=qV 8 _ rfl;have d9:wr.cell? ⟨b,o+k*12+9,none⟩=some (.int .i64 (t:Int)):=qV 9 _ rfl;have d10:wr.cell? ⟨b,o+k*12+10,none⟩=some (.int .i64 a):=qV 10 _ rfl;have d11:wr.cell? ⟨b,o+k*12+11,none⟩=some (.int .i64 d):=qV 11 _ rfl;have Le:=af hg;clear hg;have asC:=af hrx;clear hrx;have an2:=af hgs;clear hgs;have ac4:=af hxd;clear hxd;have ahM:=af hit;clear hit;have an3:=af hil;clear hil;have Ub:=af hrl;clear hrl;have ahN:=af ahL;clear ahL;clear qV
   go_upto_region 13 with(fail)
   clear d0 d1 d2 d3 d4 d5 d6 d7 d8 d9 d10 d11 t1
   obtain⟨g23,kN⟩:∃g23,g23=wr.heap.size:=⟨_,rfl⟩
   have an4:w.heap.size<g23:=by rw[kN];exact(hE.h4).lt
   have an5:w.heap.size+1<g23:=by rw[kN];exact(hE.h3).lt
   have an6:g3<g23:=by rw[kN];exact(hE.h2).lt
   have PW:gr<g23:=by rw[kN];exact(hE.g1).lt
   replace hE:=hE.blk 72 #[.int .i64 x.E,.int .i64 x.Y,.int .i64 x.T,.bool x.p.s,.slice x.p.A x.p.n x.p.c,.bool x.p.t,.slice x.p.B x.p.m x.p.d,.slice x.A x.n x.c,.slice x.B x.m x.d,.int .i64 (t:Int),.int .i64 a,.int .i64 d] (g:=g23) kN.symm;generalize wr.alloc (.cells #[.int .i64 x.E,.int .i64 x.Y,.int .i64 x.T,.bool x.p.s,.slice x.p.A x.p.n x.p.c,.bool x.p.t,.slice x.p.B x.p.m x.p.d,.slice x.A x.n x.c,.slice x.B x.m x.d,.int .i64 (t:Int),.int .i64 a,.int .i64 d] 72)=Gl at hE⊢;rw[<-kN];clear kN;have tE:(Instr.loadAt 72 (.pointer (some ⟨g23,0,none⟩))).run Tryz.prog Gl= .ok (.agg #[.int .i64 x.E,.int .i64 x.Y,.int .i64 x.T,.bool x.p.s,.slice x.p.A x.p.n x.p.c,.bool x.p.t,.slice x.p.B x.p.m x.p.d,.slice x.A x.n x.c,.slice x.B x.m x.d,.int .i64 (t:Int),.int .i64 a,.int .i64 d]) Gl:=mF _ _ _ _ [.int .i64 x.E,.int .i64 x.Y,.int .i64 x.T,.bool x.p.s,.slice x.p.A x.p.n x.p.c,.bool x.p.t,.slice x.p.B x.p.m x.p.d,.slice x.A x.n x.c,.slice x.B x.m x.d,.int .i64 (t:Int),.int .i64 a,.int .i64 d] _ (au.mid (hE.g0) 0 rfl) Tryz.underlying72 rfl (by kernel_rfl);have rQ:(Instr.loadAt 31 (.pointer (some ⟨w.heap.size,0,none⟩))).run Tryz.prog Gl= .ok (.agg #[.int .i64 yb.F,.int .i64 yb.S,.slice yb.A yb.n yb.c,.bool yb.i.s,.slice yb.i.A yb.i.n yb.i.c,.bool yb.i.t,.slice yb.i.B yb.i.m yb.i.d]) Gl:=mF _ _ _ _ [.int .i64 yb.F,.int .i64 yb.S,.slice yb.A yb.n yb.c,.bool yb.i.s,.slice yb.i.A yb.i.n yb.i.c,.bool yb.i.t,.slice yb.i.B yb.i.m yb.i.d] _ (au.mid (hE.h5) 0 rfl) Tryz.underlying31 rfl (by kernel_rfl);have hl3:(Instr.loadAt 31 (.pointer (some ⟨w.heap.size,7,none⟩))).run Tryz.prog Gl= .ok (.agg #[.int .i64 yd.F,.int .i64 yd.S,.slice yd.A yd.n yd.c,.bool yd.i.s,.slice yd.i.A yd.i.n yd.i.c,.bool yd.i.t,.slice yd.i.B yd.i.m yd.i.d]) Gl:=mF _ _ _ _ [.int .i64 yd.F,.int .i64 yd.S,.slice yd.A yd.n yd.c,.bool yd.i.s,.slice yd.i.A yd.i.n yd.i.c,.bool yd.i.t,.slice yd.i.B yd.i.m yd.i.d] _ (au.mid (hE.h5) 7 rfl) Tryz.underlying31 rfl (by kernel_rfl);have hl4:(Instr.loadAt 29 (.pointer (some ⟨w.heap.size,14,none⟩))).run Tryz.prog Gl= .ok (.agg (az yj.s yj.A yj.n yj.c yj.t yj.B yj.m yj.d)) Gl:=mF _ _ _ _ [.bool yj.s,.slice yj.A yj.n yj.c,.bool yj.t,.slice yj.B yj.m yj.d] _ (au.mid (hE.h5) 14 rfl) Tryz.underlying29 rfl (by kernel_rfl)
   obtain⟨V0,hst,KM,vk⟩:=xS Gl 125 (z:=#[.int .i64 0,.int .i64 0,.int .i64 0,.int .i64 0,.bool false,.slice none 0 0,.bool false,.slice none 0 0,.slice none 0 0,.slice none 0 0,.int .i64 0,.int .i64 0,.int .i64 0,.int .i64 0,.int .i64 0,.slice none 0 0,.bool false,.slice none 0 0,.bool false,.slice none 0 0,.int .i64 0,.int .i64 0,.slice none 0 0,.bool false,.slice none 0 0,.bool false,.slice none 0 0,.bool false,.slice none 0 0,.bool false,.slice none 0 0]) [.int .i64 0,.int .i64 x.E,.int .i64 x.Y,.int .i64 x.T,.bool x.p.s,.slice x.p.A x.p.n x.p.c,.bool x.p.t,.slice x.p.B x.p.m x.p.d,.slice x.A x.n x.c,.slice x.B x.m x.d,.int .i64 (t:Int),.int .i64 a,.int .i64 d,.int .i64 yb.F,.int .i64 yb.S,.slice yb.A yb.n yb.c,.bool yb.i.s,.slice yb.i.A yb.i.n yb.i.c,.bool yb.i.t,.slice yb.i.B yb.i.m yb.i.d,.int .i64 yd.F,.int .i64 yd.S,.slice yd.A yd.n yd.c,.bool yd.i.s,.slice yd.i.A yd.i.n yd.i.c,.bool yd.i.t,.slice yd.i.B yd.i.m yd.i.d,.bool yj.s,.slice yj.A yj.n yj.c,.bool yj.t,.slice yj.B yj.m yj.d] rfl (by kernel_rfl) rfl;have hQ:=af (And.intro KM vk);clear KM vk
   go_upto_region 14 with(first|refine gQ tE rfl rfl rfl ?_|refine gQ rQ rfl rfl rfl ?_|refine gQ hl3 rfl rfl rfl ?_|refine gQ hl4 rfl rfl rfl ?_|refine mE hst rfl rfl rfl rfl ?_)
   clear tE rQ hl3 hl4 hst
   obtain⟨gw,vg⟩:∃g,g=Gl.heap.size:=⟨_,rfl⟩
   have aqN:w.heap.size<gw:=by rw[vg];exact(hE.h5).lt
   have aqO:w.heap.size+1<gw:=by rw[vg];exact(hE.h4).lt
   have aqP:g3<gw:=by rw[vg];exact(hE.h3).lt
   have aqQ:gr<gw:=by rw[vg];exact(hE.h2).lt
   have aqR:g23<gw:=by rw[vg];exact(hE.g0).lt
   rw[<-vg] at hQ⊢;have KM:=hQ.out.1;rw[vg] at KM;replace hE:=(hE.step KM).ag hQ.out.2;clear KM vg hQ;go_wp2_with fail
   refine(acU (t:=t) (Yh.aN AH.out hE.ax).1 (Yh.aN AH.out hE.ax).2.1 (by have h9:(yr k).x.rd _:=DN.rd (Yh.aN AH.out hE.ax).2.2.2 hlt;rw[<-Le.out] at h9;exact h9) (Yh.aN AH.out hE.ax).2.2.1 nN.out.1 nN.out.2.1 ac4.out an2.out HhS.out.ok.2.2.2.1 (show au 125 gw (pG x (t:Int) a d yb yd yj) _ from hE.g0)).mono ?_
   rintro e w8 ⟨hs,rfl,hsf,hb⟩
   replace hE:=hE.step hb;clear hb;rw[<-ahM.out] at hsf;replace hE:=hE.and (Q:=fun V=>fH (it k) 10 hs V) (fH.stable _ _ _) hsf;clear hsf;go_wp2_with fail
   have hF1:fH (fun j=>if j<0 then rep it (k+1) j else rep it k j) 10 hh w8:=fH.congr (hE.h3) (fun j hj=>rfl)
   go_loopw [53] (fun p wr=>∃(m:Nat) (hm:Nat->FH),m<=10/\p= .int .i64 (m:Int)/\Env w (fun V=>(((((((True/\au 67 (w.heap.size) #[.int .i64 yb.F,.int .i64 yb.S,.slice yb.A yb.n yb.c,.bool yb.i.s,.slice yb.i.A yb.i.n yb.i.c,.bool yb.i.t,.slice yb.i.B yb.i.m yb.i.d,.int .i64 yd.F,.int .i64 yd.S,.slice yd.A yd.n yd.c,.bool yd.i.s,.slice yd.i.A yd.i.n yd.i.c,.bool yd.i.t,.slice yd.i.B yd.i.m yd.i.d,.bool yj.s,.slice yj.A yj.n yj.c,.bool yj.t,.slice yj.B yj.m yj.d,.slice (some ⟨b,o,none⟩) yn yc] V)/\au 61 (w.heap.size+1) #[.bool false,.slice none 0 0,.bool false,.slice none 0 0,.bool false,.slice none 0 0,.bool false,.slice none 0 0,.bool false,.slice none 0 0,.bool false,.slice none 0 0,.bool false,.slice none 0 0,.bool false,.slice none 0 0,.bool false,.slice none 0 0,.bool false,.slice none 0 0,.bool false,.slice none 0 0,.bool false,.slice none 0 0,.bool false,.slice none 0 0,.bool false,.slice none 0 0,.bool false,.slice none 0 0,.bool false,.slice none 0 0,.bool false,.slice none 0 0,.bool false,.slice none 0 0,.bool false,.slice none 0 0,.bool false,.slice none 0 0,.bool false,.slice none 0 0,.bool false,.slice none 0 0] V)/\au 123 (g3) #[.pointer (some ⟨gr,0,none⟩),.pointer (some ⟨gr,4,none⟩),.pointer (some ⟨gr,8,none⟩),.pointer (some ⟨gr,12,none⟩),.pointer (some ⟨gr,16,none⟩),.pointer (some ⟨gr,20,none⟩),.pointer (some ⟨gr,24,none⟩),.pointer (some ⟨gr,28,none⟩),.pointer (some ⟨gr,32,none⟩),.pointer (some ⟨gr,36,none⟩)] V)/\au 125 (gw) #[.int .i64 0,.int .i64 x.E,.int .i64 x.Y,.int .i64 x.T,.bool x.p.s,.slice x.p.A x.p.n x.p.c,.bool x.p.t,.slice x.p.B x.p.m x.p.d,.slice x.A x.n x.c,.slice x.B x.m x.d,.int .i64 (t:Int),.int .i64 a,.int .i64 d,.int .i64 yb.F,.int .i64 yb.S,.slice yb.A yb.n yb.c,.bool yb.i.s,.slice yb.i.A yb.i.n yb.i.c,.bool yb.i.t,.slice yb.i.B yb.i.m yb.i.d,.int .i64 yd.F,.int .i64 yd.S,.slice yd.A yd.n yd.c,.bool yd.i.s,.slice yd.i.A yd.i.n yd.i.c,.bool yd.i.t,.slice yd.i.B yd.i.m yd.i.d,.bool yj.s,.slice yj.A yj.n yj.c,.bool yj.t,.slice yj.B yj.m yj.d] V)/\fH (it k) 10 hs V)/\Rw 61 4 gr 11 11 (fun i=>qC (hm i)) V)/\fH (fun j=>if j<m then rep it (k+1) j else rep it k j) 10 hm V)) wr) (fun p _=>10-(intOf p).toNat)
   case atStart=>exact⟨0,hh,bF _,rfl,((((((((Env.again hE.ax).ag (hE.h7)).ag (hE.h6)).ag (hE.h5)).ag (hE.g1)).Lg (hE.g0)).PU (hE.h4)).Lg (hF1))⟩
   case round=>
    clear hE;obtain⟨m,hm,asD,rfl,hE⟩:=hrel
    by_cases hlm:m<10
    ·
     have t1:decide ((m:Int)<10)=true:=aL (by omega)
     have t2:(m:Int)<10:=by omega
     have hix:=PX hs hlm;have an7:=Wk hs hlm
     go_upto_region 17 with(fail)
     clear t1 hix an7
     obtain⟨g24,mK⟩:∃g24,g24=wr.heap.size:=⟨_,rfl⟩
     have PJ:w.heap.size<g24:=by rw[mK];exact(hE.h6).lt
     have ada:w.heap.size+1<g24:=by rw[mK];exact(hE.h5).lt
     have an8:g3<g24:=by rw[mK];exact(hE.h4).lt
     have an9:gw<g24:=by rw[mK];exact(hE.h3).lt
     have aoa:gr<g24:=by rw[mK];exact(hE.g1).lt
     replace hE:=hE.blk 29 #[.bool (hs m).s,.slice (hs m).A (hs m).n (hs m).c,.bool (hs m).t,.slice (hs m).B (hs m).m (hs m).d] (g:=g24) mK.symm;generalize wr.alloc (.cells #[.bool (hs m).s,.slice (hs m).A (hs m).n (hs m).c,.bool (hs m).t,.slice (hs m).B (hs m).m (hs m).d] 29)=W24 at hE⊢;rw[<-mK];clear mK;have hqm:rep it k m+it k m=rep it (k+1) m:=rfl;replace hE:=hE.drew;refine bH (S:=fun V=>au 123 (g3) #[.pointer (some ⟨gr,0,none⟩),.pointer (some ⟨gr,4,none⟩),.pointer (some ⟨gr,8,none⟩),.pointer (some ⟨gr,12,none⟩),.pointer (some ⟨gr,16,none⟩),.pointer (some ⟨gr,20,none⟩),.pointer (some ⟨gr,24,none⟩),.pointer (some ⟨gr,28,none⟩),.pointer (some ⟨gr,32,none⟩),.pointer (some ⟨gr,36,none⟩)] V/\au 29 (g24) #[.bool (hs m).s,.slice (hs m).A (hs m).n (hs m).c,.bool (hs m).t,.slice (hs m).B (hs m).m (hs m).d] V) (by kernel_rfl) (⟨hE.h5,hE.g0⟩) (fun hHeld=> ?_)
     generalize W24.drew=wd at*
     refine tk 0 ?_;refine tk 1 ?_
     refine tk 2 ?_ (hy:=by
      intro w aG;have nR:=Jd (aG.1) hlm;clear aG
      first|(go_simp;done)|(go_simp;with_reducible rfl))
     try simp only[PL]
     refine tk 3 ?_;refine tk 4 ?_;refine tk 5 ?_
     refine tk 6 ?_ (hy:=by
      intro w aG;have nR:=Jd (aG.1) hlm;clear aG
      first|(go_simp;done)|(go_simp;with_reducible rfl))
     try simp only[PL]
     refine tk 7 ?_
     refine tk 9 ?_ (hy:=by
      intro w aG;have nR:=(aG.2).cell 0;have qL:=(aG.2).cell 1;have rS:=(aG.2).cell 2;have qR:=(aG.2).cell 3;clear aG
      first|(go_simp;done)|(go_simp;with_reducible rfl))
     try simp only[PL]
     refine r1 8 (fun K hK=> ?_);have nR:=Rw.yx (hE.h2) (show m<11 by omega) (show 0<4 by decide) (show m*4=m*4+0 by rfl) rfl;have qL:=Rw.yx (hE.h2) (show m<11 by omega) (show 1<4 by decide) (show m*4+1=m*4+1 by rfl) rfl;have rS:=Rw.yx (hE.h2) (show m<11 by omega) (show 2<4 by decide) (show m*4+2=m*4+2 by rfl) rfl;have qR:=Rw.yx (hE.h2) (show m<11 by omega) (show 3<4 by decide) (show m*4+3=m*4+3 by rfl) rfl;go_simp;clear nR qL rS qR;refine hK.out _ _ (⟨hE.h5,hE.g0⟩) (fun hHeld=> ?_);clear hK K;try simp only[PL]
     refine r1 10 (fun K hK=> ?_);go_simp;refine hE.fr (gG hqm (mC (ca:=(hm m).c) (da:=(hm m).d) (cb:=(hs m).c) (db:=(hs m).d) (dI (show au 125 gw (pG x (t:Int) a d yb yd yj) _ from hE.h4)) (show FV _ (rep it k m) _ _ _ _ _ _ from by have h9:=hE.g1 m hlm;dsimp only at h9;rw[if_neg (Nat.lt_irrefl m)] at h9;exact h9) (hE.h3 m hlm) (Ub.out m) (by rw[ahM.out];exact an3.out m) (by rw[hqm];exact ahN.out m))) ?_;clear hE;intro sr Ar nr cr tr Br mr dr w25 hE;go_wp2_with fail
     refine hK.out _ _ (⟨hE.h6,hE.g1⟩) (fun hHeld=> ?_);clear hK K;try simp only[PL]
     refine tk 11 ?_;refine r1 12 (fun K hK=> ?_)
     have PY:=fun(V:World) (eE:World.grownBy _ V (some gr))=>fH.ac5 (hE.h4) (hE.h3) eE
     have hst:=Rw.Gi (hE.h3) (show m<11 by omega) (bU (rep it (k+1) m) sr Ar nr cr tr Br mr dr);obtain⟨kV,eE⟩:=Rw.ac9 (hE.h3) (show m<11 by omega) (bU (rep it (k+1) m) sr Ar nr cr tr Br mr dr);have ZK:=fH.put (k:=m) (x:=(bU (rep it (k+1) m) sr Ar nr cr tr Br mr dr)) (q':=(fun j=>if j<m+1 then rep it (k+1) j else rep it k j)) (K':=10) (hE.h2) (hE.h3) eE (show FV _ (if m<m+1 then rep it (k+1) m else rep it k m) _ _ _ _ _ _ from by rw[if_pos (mL m)];exact hE.g0) (fun j hj hne=>⟨hj,by by_cases h9:j<m<;>simp only[h9,if_true,if_false]<;>first|rw[if_pos (by omega)]|rw[if_neg (by omega)]⟩);have hS3:=PY _ eE;have dD:=(((((((((Env.again (Go.Proofs.YtclbiihcbfnjmaaGreat.Below.aD hE.ax eE hE.ax.size MG)).ag (au.aD (hE.h8) eE (by omega))).ag (au.aD (hE.h7) eE (by omega))).ag (au.aD (hE.h6) eE (by omega))).ag (au.aD (hE.h5) eE (by omega))).and (Q:=fun V=>fH (it k) 10 hs V) (fH.stable _ _ _) hS3).PU kV).Lg ZK).ag (au.aD (hE.g1) eE (by omega)))
     generalize hU:World.setCells w25 gr (m*4) (qC (bU (rep it (k+1) m) sr Ar nr cr tr Br mr dr))=U at*
     have Gj:=af dD;clear dD kV ZK eE hU PY hS3;refine Eq.mpr (if_pos (by rfl)) ?_;refine AA hst rfl rfl rfl ?_;replace hE:=Gj.out;clear Gj hst;refine hK.out _ _ (⟨hE.h5,hE.g0⟩) (fun hHeld=> ?_);clear hK K;try simp only[PL]
     refine aX (by kernel_rfl) ?_ _;go_wp2_with fail
     go_roundw
     case rel=>exact⟨m+1,xu hm m (bU (rep it (k+1) m) sr Ar nr cr tr Br mr dr),by omega,by go_num,((((((((Env.again hE.ax).ag (hE.h7)).ag (hE.h6)).ag (hE.h5)).ag (hE.h4)).Lg (hE.h3)).PU (hE.h2)).Lg (hE.g1))⟩
     case measure=>simp[intOf];omega
    obtain rfl:m=10:=by omega
    have t3:decide (((10:Nat):Int)<10)=false:=aH (by decide);have t4:decide ((10:Int)<10)=false:=aH (by decide);have nQ:=(hE.h3).cell 0;go_wp2_with fail
    clear nQ;have hF9:fH (rep it (k+1)) 10 hm wr:=fH.congr (hE.g0) (fun j hj=>if_pos hj)
    go_roundw
    case rel=>exact⟨k+1,hm,by omega,by go_num,((((((Env.again hE.ax).ag (hE.h6)).ag (hE.h5)).ag (hE.h4)).PU (hE.g1)).Lg (hF9))⟩
    case measure=>simp[intOf];omega
theorem Ga {y:Yh}{w:World}(hY:y.rd w)(hbd:y.bd)(hi:y.i)(hS:YS y):Calls Tryz.prog 40 #[.agg #[.int .i64 y.b.F,.int .i64 y.b.S,.slice y.b.A y.b.n y.b.c,.bool y.b.i.s,.slice y.b.i.A y.b.i.n y.b.i.c,.bool y.b.i.t,.slice y.b.i.B y.b.i.m y.b.i.d,.int .i64 y.d.F,.int .i64 y.d.S,.slice y.d.A y.d.n y.d.c,.bool y.d.i.s,.slice y.d.i.A y.d.i.n y.d.i.c,.bool y.d.i.t,.slice y.d.i.B y.d.i.m y.d.i.d,.bool y.j.s,.slice y.j.A y.j.n y.j.c,.bool y.j.t,.slice y.j.B y.j.m y.j.d,.slice y.A y.n y.c]] w (ahJ y.it y.n w):=DP rfl hY hbd hi hS
end Go.Proofs.YtclbiihcbfnjmaaGreat
