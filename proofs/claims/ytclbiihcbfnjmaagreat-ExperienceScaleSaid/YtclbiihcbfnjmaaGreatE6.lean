/-
  Parts.
-/
import Derived.Test.YtclbiihcbfnjmaaGreatE6A
set_option linter.unusedSimpArgs false
set_option maxRecDepth 100000
set_option maxHeartbeats 16000000
namespace Go.Proofs.YtclbiihcbfnjmaaGreat
open Go.RowKit

def afa (it:Nat->Nat->Rat)(n:Nat)(w:World)(e:Ending)(w':World):Prop:=∃h:Nat->FH,e= .returned (.tuple #[.agg (cP h).toArray,.int .i64 0])/\cY (fun k=>if k=10 then fI (rep it n) else rep it n k) 11 h w'/\Below w.heap.size w w'
theorem results_cell_tmp {P:Program}{fn:Func}{tmps:Array Value}{w:World}{a b:Tmp}{t:TypeId}{p:Addr}{v x:Value}(hf:fn.results=#[.cell a t,.tmp b])(ha:tmps.getD a undef= .pointer (some p))(hb:tmps.getD b undef=x)(hl:(loadVar t p).run P w= .ok v w):(results fn tmps).run P w= .ok (.tuple #[v,x]) w:=by
 unfold results;rw[hf]
 have Ep:tmps[a]?.getD undef= .pointer (some p):=by simpa using ha
 have dL:tmps[b]?.getD undef=x:=by simpa using hb
 simp[Ep,dL,asAddr,hl]
theorem Nq (h:Nat->FH):∀v∈cP h,v.oneCell'=true:=fun v hv=>by
 simp only[cP,List.mem_append] at hv
 rcases hv with h1|h1|h1|h1|h1|h1|h1|h1|h1|h1|h1<;>exact Nr _ v h1
def Jc (g K:Nat)(h:Nat->FH)(V:World):Prop:=g<V.heap.size/\∀i,i<K->∀q,q<4->V.cell? ⟨g,i*4+q,none⟩=(qC (h i))[q]?
theorem Jc.stable (g K:Nat)(h:Nat->FH):bq (Jc g K h):=fun _ _ hb hk=>⟨Nat.lt_of_lt_of_le hk.1 hb.size,fun i hi q hq=>(hb.cell (p:=⟨g,_,none⟩) hk.1).trans (hk.2 i hi q hq)⟩
theorem Env.rwk {w W:World}{P:World->Prop}{g K:Nat}{h:Nat->FH}(hE:Env w P W)(hk:Jc g K h W):Env w (fun V=>P V/\Jc g K h V) W:=hE.and (Jc.stable _ _ _) hk
theorem Jc.of {T:TypeId}{g n cap K:Nat}{h:Nat->FH}{W:World}(hR:Rw T 4 g n cap (fun i=>qC (h i)) W)(hK:K<=n):Jc g K h W:=⟨hR.lt,fun i hi q hq=>by
 have e:(qC (h i))[q]?=some ((qC (h i))[q]'hq):=List.getElem?_eq_getElem hq;rw[e]
 exact hR.cH (show i<n by omega) hq rfl e⟩
theorem Jc.VY {T:TypeId}{g n cap K j:Nat}{h:Nat->FH}{x:FH}{W:World}(hR:Rw T 4 g n cap (fun i=>qC (YtclbiihcbfnjmaaGreat.u9 h j x i)) W)(hK:K<=n)(hj:K<=j):Jc g K h W:=by
 have h1:=Jc.of (h:=YtclbiihcbfnjmaaGreat.u9 h j x) hR hK;refine⟨h1.1,fun i hi q hq=> ?_⟩;have h2:=h1.2 i hi q hq;unfold YtclbiihcbfnjmaaGreat.u9 at h2
 rwa [if_neg (by omega)] at h2
theorem Gl {gf gr m:Nat}{W:World}(h:ak 123 gf #[.pointer (some ⟨gr,0,none⟩),.pointer (some ⟨gr,4,none⟩),.pointer (some ⟨gr,8,none⟩),.pointer (some ⟨gr,12,none⟩),.pointer (some ⟨gr,16,none⟩),.pointer (some ⟨gr,20,none⟩),.pointer (some ⟨gr,24,none⟩),.pointer (some ⟨gr,28,none⟩),.pointer (some ⟨gr,32,none⟩),.pointer (some ⟨gr,36,none⟩)] W)(hm:m<10):W.cell? ⟨gf,m,none⟩=some (.pointer (some ⟨gr,m*4,none⟩)):=by
 rw[h.cell m]
 rcases(show m=0\/m=1\/m=2\/m=3\/m=4\/m=5\/m=6\/m=7\/m=8\/m=9 by omega) with rfl|rfl|rfl|rfl|rfl|rfl|rfl|rfl|rfl|rfl<;>rfl
theorem cY.ax {q:Nat->Rat}{K g:Nat}{h:Nat->FH}{t:TypeId}{cs:Array Value}{W W':World}(hf:cY q K h W)(hB:ak t g cs W)(hn:cs.toList.all aJ=true)(hg:W.grownBy W' (some g)):cY q K h W':=fun j hj=>FV.ax (hf j hj) hB hn hg
theorem cY.aad {q:Nat->Rat}{K g n cap:Nat}{h:Nat->FH}{e:Nat->List Value}{T:TypeId}{m:Nat}{W W':World}(hf:cY q K h W)(hR:Rw T m g n cap e W)(hg:W.grownBy W' (some g)):cY q K h W':=fun j hj=>hR.fv (hf j hj) hg
theorem Ch {yb yd:Bh}{yj:FH}{yA:Option Addr}{yn yc:Nat}{yr:Nat->Gr}{it:Nat->Nat->Rat}{w:World}(aae:(Yh.mk yb yd yj yA yn yc yr).it=it)(hY:(Yh.mk yb yd yj yA yn yc yr).rd w)(hbd:(Yh.mk yb yd yj yA yn yc yr).bd)(hi:(Yh.mk yb yd yj yA yn yc yr).i)(hS:YS (Yh.mk yb yd yj yA yn yc yr)):
  Calls Tryz.prog 40 #[.agg #[.int .i64 yb.F,.int .i64 yb.S,.slice yb.A yb.n yb.c,.bool yb.i.s,.slice yb.i.A yb.i.n yb.i.c,.bool yb.i.t,.slice yb.i.B yb.i.m yb.i.d,.int .i64 yd.F,.int .i64 yd.S,.slice yd.A yd.n yd.c,.bool yd.i.s,.slice yd.i.A yd.i.n yd.i.c,.bool yd.i.t,.slice yd.i.B yd.i.m yd.i.d,.bool yj.s,.slice yj.A yj.n yj.c,.bool yj.t,.slice yj.B yj.m yj.d,.slice yA yn yc]] w (afa it yn w):=by
 have hn6:yn<=6:=hS.n6;have aaf:=hS.rep hY;rw[aae] at aaf;have eU:=Lib.hid hY;clear hY;have jX:=Lib.hid hbd;clear hbd;have mP:=Lib.hid hi;clear hi;have HhS:=Lib.hid hS;clear hS;have Gm:=Lib.hid aaf;clear aaf;have afb:=Lib.hid aae;clear aae;have hE:=((Env.start w).blk 67 #[.int .i64 yb.F,.int .i64 yb.S,.slice yb.A yb.n yb.c,.bool yb.i.s,.slice yb.i.A yb.i.n yb.i.c,.bool yb.i.t,.slice yb.i.B yb.i.m yb.i.d,.int .i64 yd.F,.int .i64 yd.S,.slice yd.A yd.n yd.c,.bool yd.i.s,.slice yd.i.A yd.i.n yd.i.c,.bool yd.i.t,.slice yd.i.B yd.i.m yd.i.d,.bool yj.s,.slice yj.A yj.n yj.c,.bool yj.t,.slice yj.B yj.m yj.d,.slice yA yn yc] (g:=w.heap.size) rfl).blk 61 #[.bool false,.slice none 0 0,.bool false,.slice none 0 0,.bool false,.slice none 0 0,.bool false,.slice none 0 0,.bool false,.slice none 0 0,.bool false,.slice none 0 0,.bool false,.slice none 0 0,.bool false,.slice none 0 0,.bool false,.slice none 0 0,.bool false,.slice none 0 0,.bool false,.slice none 0 0,.bool false,.slice none 0 0,.bool false,.slice none 0 0,.bool false,.slice none 0 0,.bool false,.slice none 0 0,.bool false,.slice none 0 0,.bool false,.slice none 0 0,.bool false,.slice none 0 0,.bool false,.slice none 0 0,.bool false,.slice none 0 0,.bool false,.slice none 0 0,.bool false,.slice none 0 0] (g:=w.heap.size+1) (by simp)
 obtain⟨W0,aC⟩:∃W0,W0=(w.alloc (.cells #[.int .i64 yb.F,.int .i64 yb.S,.slice yb.A yb.n yb.c,.bool yb.i.s,.slice yb.i.A yb.i.n yb.i.c,.bool yb.i.t,.slice yb.i.B yb.i.m yb.i.d,.int .i64 yd.F,.int .i64 yd.S,.slice yd.A yd.n yd.c,.bool yd.i.s,.slice yd.i.A yd.i.n yd.i.c,.bool yd.i.t,.slice yd.i.B yd.i.m yd.i.d,.bool yj.s,.slice yj.A yj.n yj.c,.bool yj.t,.slice yj.B yj.m yj.d,.slice yA yn yc] 67)).alloc (.cells #[.bool false,.slice none 0 0,.bool false,.slice none 0 0,.bool false,.slice none 0 0,.bool false,.slice none 0 0,.bool false,.slice none 0 0,.bool false,.slice none 0 0,.bool false,.slice none 0 0,.bool false,.slice none 0 0,.bool false,.slice none 0 0,.bool false,.slice none 0 0,.bool false,.slice none 0 0,.bool false,.slice none 0 0,.bool false,.slice none 0 0,.bool false,.slice none 0 0,.bool false,.slice none 0 0,.bool false,.slice none 0 0,.bool false,.slice none 0 0,.bool false,.slice none 0 0,.bool false,.slice none 0 0,.bool false,.slice none 0 0,.bool false,.slice none 0 0,.bool false,.slice none 0 0] 61):=⟨_,rfl⟩
 rw[<-aC] at hE;have aU:=Lib.hid aC;clear aC
 go_enter Tryz.func40,Tryz.ntmps40
 go_upto_region 1 with(fail)
 rw[<-aU.out];have dH:(Instr.loadAt 67 (.pointer (some ⟨w.heap.size,0,none⟩))).run Tryz.prog W0= .ok (.agg #[.int .i64 yb.F,.int .i64 yb.S,.slice yb.A yb.n yb.c,.bool yb.i.s,.slice yb.i.A yb.i.n yb.i.c,.bool yb.i.t,.slice yb.i.B yb.i.m yb.i.d,.int .i64 yd.F,.int .i64 yd.S,.slice yd.A yd.n yd.c,.bool yd.i.s,.slice yd.i.A yd.i.n yd.i.c,.bool yd.i.t,.slice yd.i.B yd.i.m yd.i.d,.bool yj.s,.slice yj.A yj.n yj.c,.bool yj.t,.slice yj.B yj.m yj.d,.slice yA yn yc]) W0:=run_loadAt_mid _ w.heap.size 0 _ [.int .i64 yb.F,.int .i64 yb.S,.slice yb.A yb.n yb.c,.bool yb.i.s,.slice yb.i.A yb.i.n yb.i.c,.bool yb.i.t,.slice yb.i.B yb.i.m yb.i.d,.int .i64 yd.F,.int .i64 yd.S,.slice yd.A yd.n yd.c,.bool yd.i.s,.slice yd.i.A yd.i.n yd.i.c,.bool yd.i.t,.slice yd.i.B yd.i.m yd.i.d,.bool yj.s,.slice yj.A yj.n yj.c,.bool yj.t,.slice yj.B yj.m yj.d,.slice yA yn yc] _ (fun j v hv=>by rw[Nat.zero_add,(hE.here.1.2).cell j,List.getElem?_toArray];exact hv) Tryz.underlying67 rfl (by kernel_rfl);go_wp2_with (first|refine aK dH rfl rfl rfl ?_)
 clear dH;refine hE.br (Np (y:=Yh.mk yb yd yj yA yn yc yr) (Yh.aA eU.out hE.av) jX.out mP.out HhS.out.ok) ?_;clear hE;intro w1 hE
 go_upto_region 4 with(fail)
 obtain⟨gr,Ns⟩:∃gr,gr=w1.heap.size:=⟨_,rfl⟩
 have MA:w.heap.size<gr:=by rw[Ns];exact(hE.here.1.2).lt
 have Wx:w.heap.size+1<gr:=by rw[Ns];exact(hE.here.2).lt
 replace hE:=hE.blk 61 #[.bool false,.slice none 0 0,.bool false,.slice none 0 0,.bool false,.slice none 0 0,.bool false,.slice none 0 0,.bool false,.slice none 0 0,.bool false,.slice none 0 0,.bool false,.slice none 0 0,.bool false,.slice none 0 0,.bool false,.slice none 0 0,.bool false,.slice none 0 0,.bool false,.slice none 0 0,.bool false,.slice none 0 0,.bool false,.slice none 0 0,.bool false,.slice none 0 0,.bool false,.slice none 0 0,.bool false,.slice none 0 0,.bool false,.slice none 0 0,.bool false,.slice none 0 0,.bool false,.slice none 0 0,.bool false,.slice none 0 0,.bool false,.slice none 0 0,.bool false,.slice none 0 0] (g:=gr) Ns.symm;generalize w1.alloc (.cells #[.bool false,.slice none 0 0,.bool false,.slice none 0 0,.bool false,.slice none 0 0,.bool false,.slice none 0 0,.bool false,.slice none 0 0,.bool false,.slice none 0 0,.bool false,.slice none 0 0,.bool false,.slice none 0 0,.bool false,.slice none 0 0,.bool false,.slice none 0 0,.bool false,.slice none 0 0,.bool false,.slice none 0 0,.bool false,.slice none 0 0,.bool false,.slice none 0 0,.bool false,.slice none 0 0,.bool false,.slice none 0 0,.bool false,.slice none 0 0,.bool false,.slice none 0 0,.bool false,.slice none 0 0,.bool false,.slice none 0 0,.bool false,.slice none 0 0,.bool false,.slice none 0 0] 61)=W2 at hE⊢;rw[<-Ns];clear Ns
 have QL:w.heap.size<=gr:=by omega
 go_upto_region 5 with(fail)
 obtain⟨g3,kK⟩:∃g3,g3=W2.heap.size:=⟨_,rfl⟩
 have Ak:w.heap.size<g3:=by rw[kK];exact(hE.h2).lt
 have V3:w.heap.size+1<g3:=by rw[kK];exact(hE.here.1.2).lt
 have Wa:gr<g3:=by rw[kK];exact(hE.here.2).lt
 replace hE:=hE.blk 123 #[.pointer (some ⟨gr,0,none⟩),.pointer (some ⟨gr,4,none⟩),.pointer (some ⟨gr,8,none⟩),.pointer (some ⟨gr,12,none⟩),.pointer (some ⟨gr,16,none⟩),.pointer (some ⟨gr,20,none⟩),.pointer (some ⟨gr,24,none⟩),.pointer (some ⟨gr,28,none⟩),.pointer (some ⟨gr,32,none⟩),.pointer (some ⟨gr,36,none⟩)] (g:=g3) kK.symm;generalize W2.alloc (.cells #[.pointer (some ⟨gr,0,none⟩),.pointer (some ⟨gr,4,none⟩),.pointer (some ⟨gr,8,none⟩),.pointer (some ⟨gr,12,none⟩),.pointer (some ⟨gr,16,none⟩),.pointer (some ⟨gr,20,none⟩),.pointer (some ⟨gr,24,none⟩),.pointer (some ⟨gr,28,none⟩),.pointer (some ⟨gr,32,none⟩),.pointer (some ⟨gr,36,none⟩)] 123)=W3 at hE⊢;rw[<-kK];clear kK;have k4:=(hE.here.2).cell 0;have k5:=(hE.here.2).cell 1;have k6:=(hE.here.2).cell 2;have k7:=(hE.here.2).cell 3;have k8:=(hE.here.2).cell 4;have k9:=(hE.here.2).cell 5;have eG:=(hE.here.2).cell 6;have cS:=(hE.here.2).cell 7;have cZ:=(hE.here.2).cell 8;have dG:=(hE.here.2).cell 9;have alO:=Nt (h:=fun _=>zFH) (hE.here.1.2);have hE0:=hE;go_wp2_with fail
 clear k4 k5 k6 k7 k8 k9 eG cS cZ dG;replace hE:=((((((Env.again hE.av).af (hE.h3)).af (hE.h2)).af (hE.here.2))).Ci (Nt (h:=fun _=>zFH) (hE.here.1.2))).lP (q:=fun _=>0) (K:=0) (h:=fun _=>zFH) (fun j hj=>absurd hj (Nat.not_lt_zero j));clear hE0 alO
 go_loopw [30] (fun p wr=>∃(k:Nat) (hh:Nat->FH),k<=10/\p= .int .i64 (k:Int)/\Env w (fun V=>(((((True/\ak 67 (w.heap.size) #[.int .i64 yb.F,.int .i64 yb.S,.slice yb.A yb.n yb.c,.bool yb.i.s,.slice yb.i.A yb.i.n yb.i.c,.bool yb.i.t,.slice yb.i.B yb.i.m yb.i.d,.int .i64 yd.F,.int .i64 yd.S,.slice yd.A yd.n yd.c,.bool yd.i.s,.slice yd.i.A yd.i.n yd.i.c,.bool yd.i.t,.slice yd.i.B yd.i.m yd.i.d,.bool yj.s,.slice yj.A yj.n yj.c,.bool yj.t,.slice yj.B yj.m yj.d,.slice yA yn yc] V)/\ak 61 (w.heap.size+1) #[.bool false,.slice none 0 0,.bool false,.slice none 0 0,.bool false,.slice none 0 0,.bool false,.slice none 0 0,.bool false,.slice none 0 0,.bool false,.slice none 0 0,.bool false,.slice none 0 0,.bool false,.slice none 0 0,.bool false,.slice none 0 0,.bool false,.slice none 0 0,.bool false,.slice none 0 0,.bool false,.slice none 0 0,.bool false,.slice none 0 0,.bool false,.slice none 0 0,.bool false,.slice none 0 0,.bool false,.slice none 0 0,.bool false,.slice none 0 0,.bool false,.slice none 0 0,.bool false,.slice none 0 0,.bool false,.slice none 0 0,.bool false,.slice none 0 0,.bool false,.slice none 0 0] V)/\ak 123 (g3) #[.pointer (some ⟨gr,0,none⟩),.pointer (some ⟨gr,4,none⟩),.pointer (some ⟨gr,8,none⟩),.pointer (some ⟨gr,12,none⟩),.pointer (some ⟨gr,16,none⟩),.pointer (some ⟨gr,20,none⟩),.pointer (some ⟨gr,24,none⟩),.pointer (some ⟨gr,28,none⟩),.pointer (some ⟨gr,32,none⟩),.pointer (some ⟨gr,36,none⟩)] V)/\Rw 61 4 gr 11 11 (fun i=>qC (hh i)) V)/\cY (fun _=>0) k hh V)) wr) (fun p _=>10-(intOf p).toNat)
 case atStart=>exact⟨0,fun _=>zFH,Nat.zero_le _,rfl,((((((Env.again hE.av).af (hE.h4)).af (hE.h3)).af (hE.h2)).Ci (hE.here.1.2)).lP (hE.here.2))⟩
 case round=>
  clear hE;obtain⟨k,hh,hk,rfl,hE⟩:=hrel
  by_cases hlt:k<10
  ·
   have t1:decide ((k:Int)<10)=true:=decide_eq_true (by omega)
   have t2:(k:Int)<10:=by omega
   have hix:=aag gr hlt;go_wp2_with fail
   clear t1 hix;refine hE.fr (aR 0 _ (by decide) (by decide)) ?_;clear hE;intro sz Az nz cz tz Bz mz dz zQ hE;have hst:=Rw.Ew (hE.h2) (show k<11 by omega) (bD ((0:Int):Rat) sz Az nz cz tz Bz mz dz);obtain⟨jT,cX⟩:=Rw.aah (hE.h2) (show k<11 by omega) (bD ((0:Int):Rat) sz Az nz cz tz Bz mz dz);have eE:=cY.put (k:=k) (x:=(bD ((0:Int):Rat) sz Az nz cz tz Bz mz dz)) (q':=(fun _=>0)) (K':=(k+1)) (hE.here.1.2) (hE.h2) cX (show FV _ ((fun _=>(0:Rat)) k) _ _ _ _ _ _ from hE.here.2) (fun j hj hne=>⟨by omega,rfl⟩);have bG:=((((((Env.again (Go.Proofs.YtclbiihcbfnjmaaGreat.Below.ax hE.av cX hE.av.size QL)).af (ak.ax (hE.h5) cX (by omega))).af (ak.ax (hE.h4) cX (by omega))).af (ak.ax (hE.h3) cX (by omega))).Ci jT).lP eE)
   generalize hU:World.setCells zQ gr (k*4) (qC (bD ((0:Int):Rat) sz Az nz cz tz Bz mz dz))=U at*
   have Ex:=Lib.hid bG;clear bG jT eE cX hU;go_wp2_with (first|refine cC hst rfl rfl rfl rfl ?_)
   replace hE:=Ex.out;clear Ex hst
   go_roundw
   case rel=>exact⟨k+1,YtclbiihcbfnjmaaGreat.u9 hh k (bD ((0:Int):Rat) sz Az nz cz tz Bz mz dz),by omega,by go_num,((((((Env.again hE.av).af (hE.h4)).af (hE.h3)).af (hE.h2)).Ci (hE.here.1.2)).lP (hE.here.2))⟩
   case measure=>simp[intOf];omega
  obtain rfl:k=10:=by omega
  have t1:decide (((10:Nat):Int)<10)=false:=decide_eq_false (by decide);have t2:decide ((10:Int)<10)=false:=decide_eq_false (by decide);have eI:cY (rep it 0) 10 hh wr:=cY.congr (hE.here.2) (fun j hj=>rfl);replace hE:=((((((Env.again hE.av).af (hE.h4)).af (hE.h3)).af (hE.h2)).Ci (hE.here.1.2))).lP eI;clear eI;have fP:=(hE.h4).cell 18;go_wp2_with fail
  clear fP;clear t1 t2
  go_loopw [40] (fun p wr=>∃(k:Nat) (hh:Nat->FH),k<=yn/\p= .int .i64 (k:Int)/\Env w (fun V=>(((((True/\ak 67 (w.heap.size) #[.int .i64 yb.F,.int .i64 yb.S,.slice yb.A yb.n yb.c,.bool yb.i.s,.slice yb.i.A yb.i.n yb.i.c,.bool yb.i.t,.slice yb.i.B yb.i.m yb.i.d,.int .i64 yd.F,.int .i64 yd.S,.slice yd.A yd.n yd.c,.bool yd.i.s,.slice yd.i.A yd.i.n yd.i.c,.bool yd.i.t,.slice yd.i.B yd.i.m yd.i.d,.bool yj.s,.slice yj.A yj.n yj.c,.bool yj.t,.slice yj.B yj.m yj.d,.slice yA yn yc] V)/\ak 61 (w.heap.size+1) #[.bool false,.slice none 0 0,.bool false,.slice none 0 0,.bool false,.slice none 0 0,.bool false,.slice none 0 0,.bool false,.slice none 0 0,.bool false,.slice none 0 0,.bool false,.slice none 0 0,.bool false,.slice none 0 0,.bool false,.slice none 0 0,.bool false,.slice none 0 0,.bool false,.slice none 0 0,.bool false,.slice none 0 0,.bool false,.slice none 0 0,.bool false,.slice none 0 0,.bool false,.slice none 0 0,.bool false,.slice none 0 0,.bool false,.slice none 0 0,.bool false,.slice none 0 0,.bool false,.slice none 0 0,.bool false,.slice none 0 0,.bool false,.slice none 0 0,.bool false,.slice none 0 0] V)/\ak 123 (g3) #[.pointer (some ⟨gr,0,none⟩),.pointer (some ⟨gr,4,none⟩),.pointer (some ⟨gr,8,none⟩),.pointer (some ⟨gr,12,none⟩),.pointer (some ⟨gr,16,none⟩),.pointer (some ⟨gr,20,none⟩),.pointer (some ⟨gr,24,none⟩),.pointer (some ⟨gr,28,none⟩),.pointer (some ⟨gr,32,none⟩),.pointer (some ⟨gr,36,none⟩)] V)/\Rw 61 4 gr 11 11 (fun i=>qC (hh i)) V)/\cY (rep it k) 10 hh V)) wr) (fun p _=>yn-(intOf p).toNat)
  case atStart=>exact⟨0,hh,Nat.zero_le _,rfl,((((((Env.again hE.av).af (hE.h4)).af (hE.h3)).af (hE.h2)).Ci (hE.here.1.2)).lP (hE.here.2))⟩
  case round=>
   clear hE;obtain⟨k,hh,hk,rfl,hE⟩:=hrel
   by_cases hlt:k<yn
   rotate_left
   ·
    have hkn:k=yn:=by omega
    have t1:decide ((k:Int)<(yn:Int))=false:=decide_eq_false (by omega)
    have t2:¬(k:Int)<(yn:Int):=by omega
    rw[hkn] at hE;clear hkn hk hlt;have hsp:=(Gm.out yn (Nat.le_refl _)).fI;have hsl:=(Gm.out yn (Nat.le_refl _)).l;have tX:=Lib.hid hsp;clear hsp;have Jd:=Lib.hid hsl;clear hsl
    go_upto_region 23 with(fail)
    obtain⟨g16,qw⟩:∃g16,g16=wr.heap.size:=⟨_,rfl⟩
    have alP:w.heap.size<g16:=by rw[qw];exact(hE.h4).lt
    have alQ:w.heap.size+1<g16:=by rw[qw];exact(hE.h3).lt
    have alR:g3<g16:=by rw[qw];exact(hE.h2).lt
    have aai:gr<g16:=by rw[qw];exact(hE.here.1.2).lt
    replace hE:=hE.blk 120 #[.int .i64 0] (g:=g16) qw.symm;generalize wr.alloc (.cells #[.int .i64 0] 120)=W16 at hE⊢;rw[<-qw];clear qw;replace hE:=hE.rwk (Jc.of (K:=6) (h:=hh) (hE.h2) (by decide));replace hE:=hE.drew;refine wp_region_held_drew (S:=fun V=>Jc gr 6 hh V) (by kernel_rfl) (hE.here.2) (fun hHeld=> ?_)
    generalize W16.drew=wd at*
    refine tk 0 ?_
    refine tk 1 ?_ (hy:=by
     intro w ay;have iM:World.cell? w ⟨gr,0,none⟩=some (.bool (hh 0).s):=(ay).2 0 (by decide) 0 (by decide);have iP:World.cell? w ⟨gr,1,none⟩=some (.slice (hh 0).A (hh 0).n (hh 0).c):=(ay).2 0 (by decide) 1 (by decide);have jb:World.cell? w ⟨gr,2,none⟩=some (.bool (hh 0).t):=(ay).2 0 (by decide) 2 (by decide);have jc:World.cell? w ⟨gr,3,none⟩=some (.slice (hh 0).B (hh 0).m (hh 0).d):=(ay).2 0 (by decide) 3 (by decide);clear ay
     first|(go_simp;done)|(go_simp;with_reducible rfl))
    try simp only[PL]
    refine tk 2 ?_
    refine tk 3 ?_ (hy:=by
     intro w ay;have iM:World.cell? w ⟨gr,4,none⟩=some (.bool (hh 1).s):=(ay).2 1 (by decide) 0 (by decide);have iP:World.cell? w ⟨gr,5,none⟩=some (.slice (hh 1).A (hh 1).n (hh 1).c):=(ay).2 1 (by decide) 1 (by decide);have jb:World.cell? w ⟨gr,6,none⟩=some (.bool (hh 1).t):=(ay).2 1 (by decide) 2 (by decide);have jc:World.cell? w ⟨gr,7,none⟩=some (.slice (hh 1).B (hh 1).m (hh 1).d):=(ay).2 1 (by decide) 3 (by decide);clear ay
     first|(go_simp;done)|(go_simp;with_reducible rfl))
    try simp only[PL]
    refine tk 5 ?_
    refine tk 6 ?_ (hy:=by
     intro w ay;have iM:World.cell? w ⟨gr,8,none⟩=some (.bool (hh 2).s):=(ay).2 2 (by decide) 0 (by decide);have iP:World.cell? w ⟨gr,9,none⟩=some (.slice (hh 2).A (hh 2).n (hh 2).c):=(ay).2 2 (by decide) 1 (by decide);have jb:World.cell? w ⟨gr,10,none⟩=some (.bool (hh 2).t):=(ay).2 2 (by decide) 2 (by decide);have jc:World.cell? w ⟨gr,11,none⟩=some (.slice (hh 2).B (hh 2).m (hh 2).d):=(ay).2 2 (by decide) 3 (by decide);clear ay
     first|(go_simp;done)|(go_simp;with_reducible rfl))
    try simp only[PL]
    refine tk 8 ?_
    refine tk 9 ?_ (hy:=by
     intro w ay;have iM:World.cell? w ⟨gr,12,none⟩=some (.bool (hh 3).s):=(ay).2 3 (by decide) 0 (by decide);have iP:World.cell? w ⟨gr,13,none⟩=some (.slice (hh 3).A (hh 3).n (hh 3).c):=(ay).2 3 (by decide) 1 (by decide);have jb:World.cell? w ⟨gr,14,none⟩=some (.bool (hh 3).t):=(ay).2 3 (by decide) 2 (by decide);have jc:World.cell? w ⟨gr,15,none⟩=some (.slice (hh 3).B (hh 3).m (hh 3).d):=(ay).2 3 (by decide) 3 (by decide);clear ay
     first|(go_simp;done)|(go_simp;with_reducible rfl))
    try simp only[PL]
    refine tk 11 ?_
    refine tk 12 ?_ (hy:=by
     intro w ay;have iM:World.cell? w ⟨gr,16,none⟩=some (.bool (hh 4).s):=(ay).2 4 (by decide) 0 (by decide);have iP:World.cell? w ⟨gr,17,none⟩=some (.slice (hh 4).A (hh 4).n (hh 4).c):=(ay).2 4 (by decide) 1 (by decide);have jb:World.cell? w ⟨gr,18,none⟩=some (.bool (hh 4).t):=(ay).2 4 (by decide) 2 (by decide);have jc:World.cell? w ⟨gr,19,none⟩=some (.slice (hh 4).B (hh 4).m (hh 4).d):=(ay).2 4 (by decide) 3 (by decide);clear ay
     first|(go_simp;done)|(go_simp;with_reducible rfl))
    try simp only[PL]
    refine tk 14 ?_
    refine tk 15 ?_ (hy:=by
     intro w ay;have iM:World.cell? w ⟨gr,20,none⟩=some (.bool (hh 5).s):=(ay).2 5 (by decide) 0 (by decide);have iP:World.cell? w ⟨gr,21,none⟩=some (.slice (hh 5).A (hh 5).n (hh 5).c):=(ay).2 5 (by decide) 1 (by decide);have jb:World.cell? w ⟨gr,22,none⟩=some (.bool (hh 5).t):=(ay).2 5 (by decide) 2 (by decide);have jc:World.cell? w ⟨gr,23,none⟩=some (.slice (hh 5).B (hh 5).m (hh 5).d):=(ay).2 5 (by decide) 3 (by decide);clear ay
     first|(go_simp;done)|(go_simp;with_reducible rfl))
    try simp only[PL]
    refine r1 4 (fun K hK=> ?_);go_simp;refine hE.fr (ou (ca:=(hh 0).c) (da:=(hh 0).d) (cb:=(hh 1).c) (db:=(hh 1).d) (⟨_,_,hE.here.1.2,rfl⟩:ji g16 _) (hE.h2 0 (by decide)) (hE.h2 1 (by decide)) (Jd.out 0) (Jd.out 1) (tX.out.1)) ?_;clear hE;intro sa Aa na ca ta Ba ma da Mc hE;go_wp2_with fail
    refine hK.out _ _ (hE.here.1.2) (fun hHeld=> ?_);clear hK K;try simp only[PL]
    refine r1 7 (fun K hK=> ?_);go_simp;refine hE.fr (kP (ca:=ca) (da:=da) (cb:=(hh 2).c) (db:=(hh 2).d) (⟨_,_,hE.h2,rfl⟩:ji g16 _) (hE.here.2) (hE.h3 2 (by decide)) (tX.out.1) (Jd.out 2) (tX.out.2.1)) ?_;clear hE;intro sb Ab nb cb tb Bb mb db w18 hE;go_wp2_with fail
    refine hK.out _ _ (hE.h2) (fun hHeld=> ?_);clear hK K;try simp only[PL]
    refine r1 10 (fun K hK=> ?_);go_simp;refine hE.fr (ou (ca:=cb) (da:=db) (cb:=(hh 3).c) (db:=(hh 3).d) (⟨_,_,hE.h3,rfl⟩:ji g16 _) (hE.here.2) (hE.h4 3 (by decide)) (tX.out.2.1) (Jd.out 3) (tX.out.2.2.1)) ?_;clear hE;intro sc Ac nc cc tc Bc mc dc w19 hE;go_wp2_with fail
    refine hK.out _ _ (hE.h3) (fun hHeld=> ?_);clear hK K;try simp only[PL]
    refine r1 13 (fun K hK=> ?_);go_simp;refine hE.fr (kP (ca:=cc) (da:=dc) (cb:=(hh 4).c) (db:=(hh 4).d) (⟨_,_,hE.h4,rfl⟩:ji g16 _) (hE.here.2) (hE.h5 4 (by decide)) (tX.out.2.2.1) (Jd.out 4) (tX.out.2.2.2.1)) ?_;clear hE;intro sd Ad nd cd td Bd md dd w20 hE;go_wp2_with fail
    refine hK.out _ _ (hE.h4) (fun hHeld=> ?_);clear hK K;try simp only[PL]
    refine r1 16 (fun K hK=> ?_);go_simp;refine hE.fr (kP (ca:=cd) (da:=dd) (cb:=(hh 5).c) (db:=(hh 5).d) (⟨_,_,hE.h5,rfl⟩:ji g16 _) (hE.here.2) (hE.h6 5 (by decide)) (tX.out.2.2.2.1) (Jd.out 5) (tX.out.2.2.2.2)) ?_;clear hE;intro se Ae ne ce te Be me de Ky hE;go_wp2_with fail
    refine hK.out _ _ (hE.h5) (fun hHeld=> ?_);clear hK K;try simp only[PL]
    refine tk 17 ?_;refine r1 18 (fun K hK=> ?_);have hst:=Rw.Ew (hE.h8) (show 10<11 by omega) (bD (fI (rep it yn)) se Ae ne ce te Be me de);obtain⟨jT,cX⟩:=Rw.aah (hE.h8) (show 10<11 by omega) (bD (fI (rep it yn)) se Ae ne ce te Be me de);have eE:=cY.put (k:=10) (x:=(bD (fI (rep it yn)) se Ae ne ce te Be me de)) (q':=(fun k=>if k=10 then fI (rep it yn) else rep it yn k)) (K':=11) (hE.h7) (hE.h8) cX (show FV _ (if 10=10 then fI (rep it yn) else rep it yn 10) _ _ _ _ _ _ from by rw[if_pos rfl];exact hE.here.2) (fun j hj hne=>⟨by omega,if_neg hne⟩);have bG:=(((((((Env.again (Go.Proofs.YtclbiihcbfnjmaaGreat.Below.ax hE.av cX hE.av.size QL)).af (ak.ax (hE.h11) cX (by omega))).af (ak.ax (hE.h10) cX (by omega))).af (ak.ax (hE.h9) cX (by omega))).af (ak.ax (hE.h6) cX (by omega))).Ci jT).lP eE)
    generalize hU:World.setCells Ky gr (10*4) (qC (bD (fI (rep it yn)) se Ae ne ce te Be me de))=U at*
    have Ex:=Lib.hid bG;clear bG jT eE cX hU;refine Eq.mpr (if_pos (by rfl)) ?_;refine pq hst rfl rfl rfl ?_;replace hE:=Ex.out;clear Ex hst;replace hE:=hE.rwk (Jc.VY (K:=6) (h:=hh) (x:=(bD (fI (rep it yn)) se Ae ne ce te Be me de)) hE.here.1.2 (by decide) (by decide));refine hK.out _ _ (hE.here.2) (fun hHeld=> ?_);clear hK K;try simp only[PL]
    refine wpAnyH_done (by kernel_rfl) ?_ _;have mQ:=(hE.h3).cell 0
    obtain⟨H,hH⟩:∃H:Nat->FH,H=YtclbiihcbfnjmaaGreat.u9 hh 10 (bD (fI (rep it yn)) se Ae ne ce te Be me de):=⟨_,rfl⟩
    rw[<-hH] at hE;clear hH
    go_upto_region 26 with(fail)
    clear mQ;have dH:(Instr.loadAt 61 (.pointer (some ⟨gr,0,none⟩))).run Tryz.prog U= .ok (.agg (cP H).toArray) U:=run_loadAt_mid _ gr 0 _ (cP H) _ (Nu (hE.h2)) Tryz.underlying61 rfl (by kernel_rfl);have hst:=jm 61 (hE.h5) (cP H) rfl (by kernel_rfl) (Nq H);obtain⟨cX,iC⟩:=jt (hE.h5) (cP H) rfl;have aQ:=Go.Proofs.YtclbiihcbfnjmaaGreat.Below.ax hE.av cX hE.av.size (show w.heap.size<=w.heap.size+1 by omega);have hRF:=cY.ax (hE.here.1.2) (hE.h5) rfl cX
    generalize hU:World.setCells _ (w.heap.size+1) 0 (cP H)=U2 at*
    have HQ:=Lib.hid (And.intro aQ (And.intro hRF iC));clear cX aQ hRF iC hU;go_wp2_with (first|refine aK dH rfl rfl rfl ?_|refine cC hst rfl rfl rfl rfl ?_)
    obtain⟨aQ,hRF,iC⟩:=HQ.out;refine bodyPost_ret (v:= .tuple #[.agg (cP H).toArray,.int .i64 0]) (results_cell_tmp Tryz.results40 rfl rfl (run_loadVar_mid _ _ 0 _ (cP H) _ (fun j v hv=>by rw[Nat.zero_add,iC.cell j,List.getElem?_toArray];exact hv) Tryz.underlying61 rfl (by kernel_rfl))) rfl ?_;exact⟨H,rfl,hRF,aQ⟩
   have Nl:nP yA yn yr wr:=((Yh.aA eU.out hE.av)).2.2.2;obtain⟨b,o,rfl,eP,hc⟩:=Nl (by omega);clear Nl;obtain⟨gV,Th⟩:=hc k hlt;clear hc;have Ey:Er yb yd (yr k):=HhS.out.gr hlt
   obtain⟨⟨x,tz,a,d⟩,hg⟩:∃g,g=yr k:=⟨_,rfl⟩
   rw[<-hg] at gV Th Ey;have h0t:0<=tz:=Ey.ok.2.1.1
   obtain⟨t,rfl⟩:∃t:Nat,tz=(t:Int):=⟨tz.toNat,by omega⟩
   clear h0t
   have hxd:x.bd:=by have h9:(yr k).x.bd:=jX.out.2.2.2 k hlt;rw[<-hg] at h9;exact h9
   have hit:it k=wq yb yd yj.q ⟨x,(t:Int),a,d⟩:=by rw[<-afb.out];show wq yb yd yj.q (yr k)=_;rw[<-hg]
   have hil:=(Nj Ey (Yh.aA eU.out hE.av).1 (Yh.aA eU.out hE.av).2.1 Th HhS.out.ok.2.2.2.1 (Yh.aA eU.out hE.av).2.2.1).it
   have hrl:=fun i=>(Gm.out k (by omega)).l i
   have afc:=fun i=>(Gm.out (k+1) (by omega)).l i
   have t1:decide ((k:Int)<(yn:Int))=true:=decide_eq_true (by omega)
   have t2:(k:Int)<(yn:Int):=by omega
   have d0:wr.cell? ⟨b,o+k*12,none⟩=some (.int .i64 x.E):=gV 0 _ rfl;have d1:wr.cell? ⟨b,o+k*12+1,none⟩=some (.int .i64 x.Y):=gV 1 _ rfl;have d2:wr.cell? ⟨b,o+k*12+2,none⟩=some (.int .i64 x.T):=gV 2 _ rfl;have d3:wr.cell? ⟨b,o+k*12+3,none⟩=some (.bool x.p.s):=gV 3 _ rfl;have d4:wr.cell? ⟨b,o+k*12+4,none⟩=some (.slice x.p.A x.p.n x.p.c):=gV 4 _ rfl;have d5:wr.cell? ⟨b,o+k*12+5,none⟩=some (.bool x.p.t):=gV 5 _ rfl;have d6:wr.cell? ⟨b,o+k*12+6,none⟩=some (.slice x.p.B x.p.m x.p.d):=gV 6 _ rfl;have d7:wr.cell? ⟨b,o+k*12+7,none⟩=some (.slice x.A x.n x.c):=gV 7 _ rfl;have d8:wr.cell? ⟨b,o+k*12+8,none⟩=some (.slice x.B x.m x.d):=gV 8 _ rfl;have d9:wr.cell? ⟨b,o+k*12+9,none⟩=some (.int .i64 (t:Int)):=gV 9 _ rfl;have d10:wr.cell? ⟨b,o+k*12+10,none⟩=some (.int .i64 a):=gV 10 _ rfl;have d11:wr.cell? ⟨b,o+k*12+11,none⟩=some (.int .i64 d):=gV 11 _ rfl;have uZ:=Lib.hid hg;clear hg;have aqu:=Lib.hid Th;clear Th;have alS:=Lib.hid Ey;clear Ey;have aac:=Lib.hid hxd;clear hxd;have afd:=Lib.hid hit;clear hit;have alT:=Lib.hid hil;clear hil;have Rg:=Lib.hid hrl;clear hrl;have afe:=Lib.hid afc;clear afc;clear gV
   go_upto_region 13 with(fail)
   clear d0 d1 d2 d3 d4 d5 d6 d7 d8 d9 d10 d11 t1
   obtain⟨g23,Ez⟩:∃g23,g23=wr.heap.size:=⟨_,rfl⟩
   have alU:w.heap.size<g23:=by rw[Ez];exact(hE.h4).lt
   have alV:w.heap.size+1<g23:=by rw[Ez];exact(hE.h3).lt
   have alW:g3<g23:=by rw[Ez];exact(hE.h2).lt
   have alX:gr<g23:=by rw[Ez];exact(hE.here.1.2).lt
   replace hE:=hE.blk 72 #[.int .i64 x.E,.int .i64 x.Y,.int .i64 x.T,.bool x.p.s,.slice x.p.A x.p.n x.p.c,.bool x.p.t,.slice x.p.B x.p.m x.p.d,.slice x.A x.n x.c,.slice x.B x.m x.d,.int .i64 (t:Int),.int .i64 a,.int .i64 d] (g:=g23) Ez.symm;generalize wr.alloc (.cells #[.int .i64 x.E,.int .i64 x.Y,.int .i64 x.T,.bool x.p.s,.slice x.p.A x.p.n x.p.c,.bool x.p.t,.slice x.p.B x.p.m x.p.d,.slice x.A x.n x.c,.slice x.B x.m x.d,.int .i64 (t:Int),.int .i64 a,.int .i64 d] 72)=Kz at hE⊢;rw[<-Ez];clear Ez;have lH:(Instr.loadAt 72 (.pointer (some ⟨g23,0,none⟩))).run Tryz.prog Kz= .ok (.agg #[.int .i64 x.E,.int .i64 x.Y,.int .i64 x.T,.bool x.p.s,.slice x.p.A x.p.n x.p.c,.bool x.p.t,.slice x.p.B x.p.m x.p.d,.slice x.A x.n x.c,.slice x.B x.m x.d,.int .i64 (t:Int),.int .i64 a,.int .i64 d]) Kz:=run_loadAt_mid _ _ _ _ [.int .i64 x.E,.int .i64 x.Y,.int .i64 x.T,.bool x.p.s,.slice x.p.A x.p.n x.p.c,.bool x.p.t,.slice x.p.B x.p.m x.p.d,.slice x.A x.n x.c,.slice x.B x.m x.d,.int .i64 (t:Int),.int .i64 a,.int .i64 d] _ (ak.mid (hE.here.2) 0 rfl) Tryz.underlying72 rfl (by kernel_rfl);have kJ:(Instr.loadAt 31 (.pointer (some ⟨w.heap.size,0,none⟩))).run Tryz.prog Kz= .ok (.agg #[.int .i64 yb.F,.int .i64 yb.S,.slice yb.A yb.n yb.c,.bool yb.i.s,.slice yb.i.A yb.i.n yb.i.c,.bool yb.i.t,.slice yb.i.B yb.i.m yb.i.d]) Kz:=run_loadAt_mid _ _ _ _ [.int .i64 yb.F,.int .i64 yb.S,.slice yb.A yb.n yb.c,.bool yb.i.s,.slice yb.i.A yb.i.n yb.i.c,.bool yb.i.t,.slice yb.i.B yb.i.m yb.i.d] _ (ak.mid (hE.h5) 0 rfl) Tryz.underlying31 rfl (by kernel_rfl);have IW:(Instr.loadAt 31 (.pointer (some ⟨w.heap.size,7,none⟩))).run Tryz.prog Kz= .ok (.agg #[.int .i64 yd.F,.int .i64 yd.S,.slice yd.A yd.n yd.c,.bool yd.i.s,.slice yd.i.A yd.i.n yd.i.c,.bool yd.i.t,.slice yd.i.B yd.i.m yd.i.d]) Kz:=run_loadAt_mid _ _ _ _ [.int .i64 yd.F,.int .i64 yd.S,.slice yd.A yd.n yd.c,.bool yd.i.s,.slice yd.i.A yd.i.n yd.i.c,.bool yd.i.t,.slice yd.i.B yd.i.m yd.i.d] _ (ak.mid (hE.h5) 7 rfl) Tryz.underlying31 rfl (by kernel_rfl);have Rs:(Instr.loadAt 29 (.pointer (some ⟨w.heap.size,14,none⟩))).run Tryz.prog Kz= .ok (.agg (az yj.s yj.A yj.n yj.c yj.t yj.B yj.m yj.d)) Kz:=run_loadAt_mid _ _ _ _ [.bool yj.s,.slice yj.A yj.n yj.c,.bool yj.t,.slice yj.B yj.m yj.d] _ (ak.mid (hE.h5) 14 rfl) Tryz.underlying29 rfl (by kernel_rfl)
   obtain⟨V0,hst,dY,iC⟩:=dO Kz 125 (z:=#[.int .i64 0,.int .i64 0,.int .i64 0,.int .i64 0,.bool false,.slice none 0 0,.bool false,.slice none 0 0,.slice none 0 0,.slice none 0 0,.int .i64 0,.int .i64 0,.int .i64 0,.int .i64 0,.int .i64 0,.slice none 0 0,.bool false,.slice none 0 0,.bool false,.slice none 0 0,.int .i64 0,.int .i64 0,.slice none 0 0,.bool false,.slice none 0 0,.bool false,.slice none 0 0,.bool false,.slice none 0 0,.bool false,.slice none 0 0]) [.int .i64 0,.int .i64 x.E,.int .i64 x.Y,.int .i64 x.T,.bool x.p.s,.slice x.p.A x.p.n x.p.c,.bool x.p.t,.slice x.p.B x.p.m x.p.d,.slice x.A x.n x.c,.slice x.B x.m x.d,.int .i64 (t:Int),.int .i64 a,.int .i64 d,.int .i64 yb.F,.int .i64 yb.S,.slice yb.A yb.n yb.c,.bool yb.i.s,.slice yb.i.A yb.i.n yb.i.c,.bool yb.i.t,.slice yb.i.B yb.i.m yb.i.d,.int .i64 yd.F,.int .i64 yd.S,.slice yd.A yd.n yd.c,.bool yd.i.s,.slice yd.i.A yd.i.n yd.i.c,.bool yd.i.t,.slice yd.i.B yd.i.m yd.i.d,.bool yj.s,.slice yj.A yj.n yj.c,.bool yj.t,.slice yj.B yj.m yj.d] rfl (by kernel_rfl) rfl;have hQ:=Lib.hid (And.intro dY iC);clear dY iC
   go_upto_region 14 with(first|refine aK lH rfl rfl rfl ?_|refine aK kJ rfl rfl rfl ?_|refine aK IW rfl rfl rfl ?_|refine aK Rs rfl rfl rfl ?_|refine cC hst rfl rfl rfl rfl ?_)
   clear lH kJ IW Rs hst
   obtain⟨gw,tE⟩:∃g,g=Kz.heap.size:=⟨_,rfl⟩
   have aoR:w.heap.size<gw:=by rw[tE];exact(hE.h5).lt
   have aoS:w.heap.size+1<gw:=by rw[tE];exact(hE.h4).lt
   have aoT:g3<gw:=by rw[tE];exact(hE.h3).lt
   have aoU:gr<gw:=by rw[tE];exact(hE.h2).lt
   have aoV:g23<gw:=by rw[tE];exact(hE.here.2).lt
   rw[<-tE] at hQ⊢;have dY:=hQ.out.1;rw[tE] at dY;replace hE:=(hE.step dY).af hQ.out.2;clear dY tE hQ;go_wp2_with fail
   refine(ZZ (t:=t) (Yh.aA eU.out hE.av).1 (Yh.aA eU.out hE.av).2.1 (by have h9:(yr k).x.rd _:=nP.rd (Yh.aA eU.out hE.av).2.2.2 hlt;rw[<-uZ.out] at h9;exact h9) (Yh.aA eU.out hE.av).2.2.1 jX.out.1 jX.out.2.1 aac.out alS.out HhS.out.ok.2.2.2.1 (show ak 125 gw (nO x (t:Int) a d yb yd yj) _ from hE.here.2)).mono ?_
   rintro e w8 ⟨hs,rfl,hsf,hb⟩
   replace hE:=hE.step hb;clear hb;rw[<-afd.out] at hsf;replace hE:=hE.and (Q:=fun V=>cY (it k) 10 hs V) (cY.stable _ _ _) hsf;clear hsf;go_wp2_with fail
   have eR:cY (fun j=>if j<0 then rep it (k+1) j else rep it k j) 10 hh w8:=cY.congr (hE.h3) (fun j hj=>rfl)
   go_loopw [53] (fun p wr=>∃(m:Nat) (hm:Nat->FH),m<=10/\p= .int .i64 (m:Int)/\Env w (fun V=>(((((((True/\ak 67 (w.heap.size) #[.int .i64 yb.F,.int .i64 yb.S,.slice yb.A yb.n yb.c,.bool yb.i.s,.slice yb.i.A yb.i.n yb.i.c,.bool yb.i.t,.slice yb.i.B yb.i.m yb.i.d,.int .i64 yd.F,.int .i64 yd.S,.slice yd.A yd.n yd.c,.bool yd.i.s,.slice yd.i.A yd.i.n yd.i.c,.bool yd.i.t,.slice yd.i.B yd.i.m yd.i.d,.bool yj.s,.slice yj.A yj.n yj.c,.bool yj.t,.slice yj.B yj.m yj.d,.slice (some ⟨b,o,none⟩) yn yc] V)/\ak 61 (w.heap.size+1) #[.bool false,.slice none 0 0,.bool false,.slice none 0 0,.bool false,.slice none 0 0,.bool false,.slice none 0 0,.bool false,.slice none 0 0,.bool false,.slice none 0 0,.bool false,.slice none 0 0,.bool false,.slice none 0 0,.bool false,.slice none 0 0,.bool false,.slice none 0 0,.bool false,.slice none 0 0,.bool false,.slice none 0 0,.bool false,.slice none 0 0,.bool false,.slice none 0 0,.bool false,.slice none 0 0,.bool false,.slice none 0 0,.bool false,.slice none 0 0,.bool false,.slice none 0 0,.bool false,.slice none 0 0,.bool false,.slice none 0 0,.bool false,.slice none 0 0,.bool false,.slice none 0 0] V)/\ak 123 (g3) #[.pointer (some ⟨gr,0,none⟩),.pointer (some ⟨gr,4,none⟩),.pointer (some ⟨gr,8,none⟩),.pointer (some ⟨gr,12,none⟩),.pointer (some ⟨gr,16,none⟩),.pointer (some ⟨gr,20,none⟩),.pointer (some ⟨gr,24,none⟩),.pointer (some ⟨gr,28,none⟩),.pointer (some ⟨gr,32,none⟩),.pointer (some ⟨gr,36,none⟩)] V)/\ak 125 (gw) #[.int .i64 0,.int .i64 x.E,.int .i64 x.Y,.int .i64 x.T,.bool x.p.s,.slice x.p.A x.p.n x.p.c,.bool x.p.t,.slice x.p.B x.p.m x.p.d,.slice x.A x.n x.c,.slice x.B x.m x.d,.int .i64 (t:Int),.int .i64 a,.int .i64 d,.int .i64 yb.F,.int .i64 yb.S,.slice yb.A yb.n yb.c,.bool yb.i.s,.slice yb.i.A yb.i.n yb.i.c,.bool yb.i.t,.slice yb.i.B yb.i.m yb.i.d,.int .i64 yd.F,.int .i64 yd.S,.slice yd.A yd.n yd.c,.bool yd.i.s,.slice yd.i.A yd.i.n yd.i.c,.bool yd.i.t,.slice yd.i.B yd.i.m yd.i.d,.bool yj.s,.slice yj.A yj.n yj.c,.bool yj.t,.slice yj.B yj.m yj.d] V)/\cY (it k) 10 hs V)/\Rw 61 4 gr 11 11 (fun i=>qC (hm i)) V)/\cY (fun j=>if j<m then rep it (k+1) j else rep it k j) 10 hm V)) wr) (fun p _=>10-(intOf p).toNat)
   case atStart=>exact⟨0,hh,Nat.zero_le _,rfl,((((((((Env.again hE.av).af (hE.h7)).af (hE.h6)).af (hE.h5)).af (hE.here.1.2)).lP (hE.here.2)).Ci (hE.h4)).lP (eR))⟩
   case round=>
    clear hE;obtain⟨m,hm,aqv,rfl,hE⟩:=hrel
    by_cases hlm:m<10
    ·
     have t1:decide ((m:Int)<10)=true:=decide_eq_true (by omega)
     have t2:(m:Int)<10:=by omega
     have hix:=Nv hs hlm;have alY:=Ti hs hlm
     go_upto_region 17 with(fail)
     clear t1 hix alY
     obtain⟨g24,kT⟩:∃g24,g24=wr.heap.size:=⟨_,rfl⟩
     have Nk:w.heap.size<g24:=by rw[kT];exact(hE.h6).lt
     have aaj:w.heap.size+1<g24:=by rw[kT];exact(hE.h5).lt
     have alZ:g3<g24:=by rw[kT];exact(hE.h4).lt
     have al0:gw<g24:=by rw[kT];exact(hE.h3).lt
     have al1:gr<g24:=by rw[kT];exact(hE.here.1.2).lt
     replace hE:=hE.blk 29 #[.bool (hs m).s,.slice (hs m).A (hs m).n (hs m).c,.bool (hs m).t,.slice (hs m).B (hs m).m (hs m).d] (g:=g24) kT.symm;generalize wr.alloc (.cells #[.bool (hs m).s,.slice (hs m).A (hs m).n (hs m).c,.bool (hs m).t,.slice (hs m).B (hs m).m (hs m).d] 29)=W24 at hE⊢;rw[<-kT];clear kT;have hqm:rep it k m+it k m=rep it (k+1) m:=rfl;replace hE:=hE.drew;refine wp_region_held_drew (S:=fun V=>ak 123 (g3) #[.pointer (some ⟨gr,0,none⟩),.pointer (some ⟨gr,4,none⟩),.pointer (some ⟨gr,8,none⟩),.pointer (some ⟨gr,12,none⟩),.pointer (some ⟨gr,16,none⟩),.pointer (some ⟨gr,20,none⟩),.pointer (some ⟨gr,24,none⟩),.pointer (some ⟨gr,28,none⟩),.pointer (some ⟨gr,32,none⟩),.pointer (some ⟨gr,36,none⟩)] V/\ak 29 (g24) #[.bool (hs m).s,.slice (hs m).A (hs m).n (hs m).c,.bool (hs m).t,.slice (hs m).B (hs m).m (hs m).d] V) (by kernel_rfl) (⟨hE.h5,hE.here.2⟩) (fun hHeld=> ?_)
     generalize W24.drew=wd at*
     refine tk 0 ?_;refine tk 1 ?_
     refine tk 2 ?_ (hy:=by
      intro w ay;have iM:=Gl (ay.1) hlm;clear ay
      first|(go_simp;done)|(go_simp;with_reducible rfl))
     try simp only[PL]
     refine tk 3 ?_;refine tk 4 ?_;refine tk 5 ?_
     refine tk 6 ?_ (hy:=by
      intro w ay;have iM:=Gl (ay.1) hlm;clear ay
      first|(go_simp;done)|(go_simp;with_reducible rfl))
     try simp only[PL]
     refine tk 7 ?_
     refine tk 9 ?_ (hy:=by
      intro w ay;have iM:=(ay.2).cell 0;have iP:=(ay.2).cell 1;have jb:=(ay.2).cell 2;have jc:=(ay.2).cell 3;clear ay
      first|(go_simp;done)|(go_simp;with_reducible rfl))
     try simp only[PL]
     refine r1 8 (fun K hK=> ?_);have iM:=Rw.cH (hE.h2) (show m<11 by omega) (show 0<4 by decide) (show m*4=m*4+0 by rfl) rfl;have iP:=Rw.cH (hE.h2) (show m<11 by omega) (show 1<4 by decide) (show m*4+1=m*4+1 by rfl) rfl;have jb:=Rw.cH (hE.h2) (show m<11 by omega) (show 2<4 by decide) (show m*4+2=m*4+2 by rfl) rfl;have jc:=Rw.cH (hE.h2) (show m<11 by omega) (show 3<4 by decide) (show m*4+3=m*4+3 by rfl) rfl;go_simp;clear iM iP jb jc;refine hK.out _ _ (⟨hE.h5,hE.here.2⟩) (fun hHeld=> ?_);clear hK K;try simp only[PL]
     refine r1 10 (fun K hK=> ?_);go_simp;refine hE.fr (ff hqm (ou (ca:=(hm m).c) (da:=(hm m).d) (cb:=(hs m).c) (db:=(hs m).d) (cD (show ak 125 gw (nO x (t:Int) a d yb yd yj) _ from hE.h4)) (show FV _ (rep it k m) _ _ _ _ _ _ from by have h9:=hE.here.1.2 m hlm;dsimp only at h9;rw[if_neg (Nat.lt_irrefl m)] at h9;exact h9) (hE.h3 m hlm) (Rg.out m) (by rw[afd.out];exact alT.out m) (by rw[hqm];exact afe.out m))) ?_;clear hE;intro sr Ar nr cr tr Br mr dr w25 hE;go_wp2_with fail
     refine hK.out _ _ (⟨hE.h6,hE.here.1.2⟩) (fun hHeld=> ?_);clear hK K;try simp only[PL]
     refine tk 11 ?_;refine r1 12 (fun K hK=> ?_)
     have Cj:=fun(V:World) (cX:World.grownBy _ V (some gr))=>cY.aad (hE.h4) (hE.h3) cX
     have hst:=Rw.Ew (hE.h3) (show m<11 by omega) (bD (rep it (k+1) m) sr Ar nr cr tr Br mr dr);obtain⟨jT,cX⟩:=Rw.aah (hE.h3) (show m<11 by omega) (bD (rep it (k+1) m) sr Ar nr cr tr Br mr dr);have eE:=cY.put (k:=m) (x:=(bD (rep it (k+1) m) sr Ar nr cr tr Br mr dr)) (q':=(fun j=>if j<m+1 then rep it (k+1) j else rep it k j)) (K':=10) (hE.h2) (hE.h3) cX (show FV _ (if m<m+1 then rep it (k+1) m else rep it k m) _ _ _ _ _ _ from by rw[if_pos (Nat.lt_succ_self m)];exact hE.here.2) (fun j hj hne=>⟨hj,by by_cases h9:j<m<;>simp only[h9,if_true,if_false]<;>first|rw[if_pos (by omega)]|rw[if_neg (by omega)]⟩);have hS3:=Cj _ cX;have bG:=(((((((((Env.again (Go.Proofs.YtclbiihcbfnjmaaGreat.Below.ax hE.av cX hE.av.size QL)).af (ak.ax (hE.h8) cX (by omega))).af (ak.ax (hE.h7) cX (by omega))).af (ak.ax (hE.h6) cX (by omega))).af (ak.ax (hE.h5) cX (by omega))).and (Q:=fun V=>cY (it k) 10 hs V) (cY.stable _ _ _) hS3).Ci jT).lP eE).af (ak.ax (hE.here.1.2) cX (by omega)))
     generalize hU:World.setCells w25 gr (m*4) (qC (bD (rep it (k+1) m) sr Ar nr cr tr Br mr dr))=U at*
     have Ex:=Lib.hid bG;clear bG jT eE cX hU Cj hS3;refine Eq.mpr (if_pos (by rfl)) ?_;refine pq hst rfl rfl rfl ?_;replace hE:=Ex.out;clear Ex hst;refine hK.out _ _ (⟨hE.h5,hE.here.2⟩) (fun hHeld=> ?_);clear hK K;try simp only[PL]
     refine wpAnyH_done (by kernel_rfl) ?_ _;go_wp2_with fail
     go_roundw
     case rel=>exact⟨m+1,YtclbiihcbfnjmaaGreat.u9 hm m (bD (rep it (k+1) m) sr Ar nr cr tr Br mr dr),by omega,by go_num,((((((((Env.again hE.av).af (hE.h7)).af (hE.h6)).af (hE.h5)).af (hE.h4)).lP (hE.h3)).Ci (hE.h2)).lP (hE.here.1.2))⟩
     case measure=>simp[intOf];omega
    obtain rfl:m=10:=by omega
    have t3:decide (((10:Nat):Int)<10)=false:=decide_eq_false (by decide);have t4:decide ((10:Int)<10)=false:=decide_eq_false (by decide);have lW:=(hE.h3).cell 0;go_wp2_with fail
    clear lW;have eY:cY (rep it (k+1)) 10 hm wr:=cY.congr (hE.here.2) (fun j hj=>if_pos hj)
    go_roundw
    case rel=>exact⟨k+1,hm,by omega,by go_num,((((((Env.again hE.av).af (hE.h6)).af (hE.h5)).af (hE.h4)).Ci (hE.here.1.2)).lP (eY))⟩
    case measure=>simp[intOf];omega
theorem ep {y:Yh}{w:World}(hY:y.rd w)(hbd:y.bd)(hi:y.i)(hS:YS y):Calls Tryz.prog 40 #[.agg #[.int .i64 y.b.F,.int .i64 y.b.S,.slice y.b.A y.b.n y.b.c,.bool y.b.i.s,.slice y.b.i.A y.b.i.n y.b.i.c,.bool y.b.i.t,.slice y.b.i.B y.b.i.m y.b.i.d,.int .i64 y.d.F,.int .i64 y.d.S,.slice y.d.A y.d.n y.d.c,.bool y.d.i.s,.slice y.d.i.A y.d.i.n y.d.i.c,.bool y.d.i.t,.slice y.d.i.B y.d.i.m y.d.i.d,.bool y.j.s,.slice y.j.A y.j.n y.j.c,.bool y.j.t,.slice y.j.B y.j.m y.j.d,.slice y.A y.n y.c]] w (afa y.it y.n w):=Ch rfl hY hbd hi hS
end Go.Proofs.YtclbiihcbfnjmaaGreat
