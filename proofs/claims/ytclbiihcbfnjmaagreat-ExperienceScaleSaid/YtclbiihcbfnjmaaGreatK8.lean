/-
  Parts.
-/
import Derived.Test.YtclbiihcbfnjmaaGreatK7
import Derived.Test.YtclbiihcbfnjmaaGreatK2
set_option linter.unusedSimpArgs false
set_option maxRecDepth 100000
set_option maxHeartbeats 2000000
namespace Go.Proofs.YtclbiihcbfnjmaaGreat
section
open Go.RowKit

section
variable {w W:World} {P A0 A1 A2 A3 A4 A5 A6 A7 A8 A9 Qt Rb VB XE QO WJ A16 A17 A18 A19 A20 A21 A22 A23 A24 A25 A26 A27 A28 A29 A30:World->Prop}
theorem Env.h2 (h:Env w (fun V=>((P V/\A2 V)/\A1 V)/\A0 V) W):A2 W:=h.here.1.1.2
theorem Env.h3 (h:Env w (fun V=>(((P V/\A3 V)/\A2 V)/\A1 V)/\A0 V) W):A3 W:=h.here.1.1.1.2
theorem Env.h4 (h:Env w (fun V=>((((P V/\A4 V)/\A3 V)/\A2 V)/\A1 V)/\A0 V) W):A4 W:=h.here.1.1.1.1.2
theorem Env.h5 (h:Env w (fun V=>(((((P V/\A5 V)/\A4 V)/\A3 V)/\A2 V)/\A1 V)/\A0 V) W):A5 W:=h.here.1.1.1.1.1.2
theorem Env.h6 (h:Env w (fun V=>((((((P V/\A6 V)/\A5 V)/\A4 V)/\A3 V)/\A2 V)/\A1 V)/\A0 V) W):A6 W:=h.here.1.1.1.1.1.1.2
theorem Env.h7 (h:Env w (fun V=>(((((((P V/\A7 V)/\A6 V)/\A5 V)/\A4 V)/\A3 V)/\A2 V)/\A1 V)/\A0 V) W):A7 W:=h.here.1.1.1.1.1.1.1.2
theorem Env.h8 (h:Env w (fun V=>((((((((P V/\A8 V)/\A7 V)/\A6 V)/\A5 V)/\A4 V)/\A3 V)/\A2 V)/\A1 V)/\A0 V) W):A8 W:=h.here.1.1.1.1.1.1.1.1.2
theorem Env.h9 (h:Env w (fun V=>(((((((((P V/\A9 V)/\A8 V)/\A7 V)/\A6 V)/\A5 V)/\A4 V)/\A3 V)/\A2 V)/\A1 V)/\A0 V) W):A9 W:=h.here.1.1.1.1.1.1.1.1.1.2
theorem Env.h10 (h:Env w (fun V=>((((((((((P V/\Qt V)/\A9 V)/\A8 V)/\A7 V)/\A6 V)/\A5 V)/\A4 V)/\A3 V)/\A2 V)/\A1 V)/\A0 V) W):Qt W:=h.here.1.1.1.1.1.1.1.1.1.1.2
theorem Env.h11 (h:Env w (fun V=>(((((((((((P V/\Rb V)/\Qt V)/\A9 V)/\A8 V)/\A7 V)/\A6 V)/\A5 V)/\A4 V)/\A3 V)/\A2 V)/\A1 V)/\A0 V) W):Rb W:=h.here.1.1.1.1.1.1.1.1.1.1.1.2
theorem Env.h12 (h:Env w (fun V=>((((((((((((P V/\VB V)/\Rb V)/\Qt V)/\A9 V)/\A8 V)/\A7 V)/\A6 V)/\A5 V)/\A4 V)/\A3 V)/\A2 V)/\A1 V)/\A0 V) W):VB W:=h.here.1.1.1.1.1.1.1.1.1.1.1.1.2
theorem Env.bZ (h:Env w (fun V=>(((((((((((((P V/\XE V)/\VB V)/\Rb V)/\Qt V)/\A9 V)/\A8 V)/\A7 V)/\A6 V)/\A5 V)/\A4 V)/\A3 V)/\A2 V)/\A1 V)/\A0 V) W):XE W:=h.here.1.1.1.1.1.1.1.1.1.1.1.1.1.2
end
section
variable {w W:World} {P:World->Prop} {p:Program} {k:FuncId} {xs:Array Value} {Q:Ending->World->Prop}
theorem Env.fr {q:Rat}{G:Bool->Option Addr->Nat->Nat->Bool->Option Addr->Nat->Nat->Ending}(hE:Env w P W)
  (hc:Calls p k xs W (fun e W'=>∃s A n c t B m d,e=G s A n c t B m d/\FV W' q s A n t B m/\Below W.heap.size W W'))
  (h:∀s A n c t B m d W',Env w (fun V=>P V/\FV V q s A n t B m) W'->Q (G s A n c t B m d) W'):Calls p k xs W Q:=
 hc.mono fun e W' ⟨s,A,n,c,t,B,m,d,he,hv,hb⟩=>by
  subst he;exact h s A n c t B m d W' ((hE.step hb).fv hv)
theorem Env.br {R:Ending}(hE:Env w P W)(hc:Calls p k xs W (fun e W'=>e=R/\Below W.heap.size W W'))(h:∀W',Env w P W'->Q R W'):Calls p k xs W Q:=
 hc.mono fun e W' ⟨he,hb⟩=>by
  subst he;exact h W' (hE.step hb)
end
end
section
open Go.RowKit

theorem kF {w W:World}{P:World->Prop}{R:Nat}{z:Int}{s:Bool}{A:Option Addr}{n:Nat}(hE:Env w P W)(hR:ak 27 R #[.bool false,.slice none 0 0] W)(hl:w.heap.size<=R)(hv:WV W z s A n)(c:Nat):
  ∃W',W'=(W.setCell ⟨R,0,none⟩ (.bool s)).setCell ⟨R,1,none⟩ (.slice A n c)/\ak 27 R #[.bool s,.slice A n c] W'/\WV W' z s A n/\Below w.heap.size w W':=
 ⟨_,rfl,hR.s2 _ _,(hv.sep hR rfl _).sep (hR.bW 0 _) rfl _,(hE.av.setCell (p:=⟨R,0,none⟩) hl _).setCell (p:=⟨R,1,none⟩) hl _⟩
theorem oG {a b:Int}{sa sb:Bool}{Aa Ab:Option Addr}{na ca nb cb:Nat}{w:World}(ha:WV w a sa Aa na)(hb:WV w b sb Ab nb)(la:na<=1024)(lb:nb<=1024):
  Calls Tryz.prog 151 #[.agg #[.bool sa,.slice Aa na ca],.agg #[.bool sb,.slice Ab nb cb]] w (WR ((Nat.gcd a.natAbs b.natAbs:Nat):Int) w):=by
 have hE:=((((Env.start w).wv ha).wv hb).blk 27 #[.bool sa,.slice Aa na ca] (g:=w.heap.size) rfl).blk 27 #[.bool sb,.slice Ab nb cb] (g:=w.heap.size+1) (by simp);have hE:=hE.blk 27 #[.bool false,.slice none 0 0] (g:=w.heap.size+1+1) (by simp)
 obtain⟨W0,aC⟩:∃W0,W0=(((w.alloc (.cells #[.bool sa,.slice Aa na ca] 27)).alloc (.cells #[.bool sb,.slice Ab nb cb] 27)).alloc (.cells #[.bool false,.slice none 0 0] 27)):=⟨_,rfl⟩
 rw[<-aC] at hE;have aU:=Lib.hid aC;clear aC
 go_enter Tryz.func151,Tryz.ntmps151
 go_upto_region 1 with(fail)
 rw[<-aU.out];obtain⟨k1,k2⟩:=(hE.h2).c2;obtain⟨k3,k4⟩:=(hE.here.1.2).c2;go_wp2_with fail
 have hc:=ahD (c:=ca) (d:=cb) hE.h4 hE.h3 la lb;refine hc.mono ?_;clear hc;clear k1 k2 k3 k4
 rintro e w5 ⟨sr,Ar,nr,cr,rfl,hr,hb⟩
 replace hE:=hE.step hb;clear hb;replace hE:=hE.wv hr.v;clear hr
 go_upto_region 2 with(fail)
 obtain⟨g6,rG⟩:∃g6,g6=w5.heap.size:=⟨_,rfl⟩
 have XF:w.heap.size<g6:=by rw[rG];exact(hE.h3).lt
 have BB:w.heap.size+1<g6:=by rw[rG];exact(hE.h2).lt
 have XG:w.heap.size+1+1<g6:=by rw[rG];exact(hE.here.1.2).lt
 replace hE:=hE.blk 27 #[.bool sr,.slice Ar nr cr] (g:=g6) rG.symm;generalize w5.alloc (.cells #[.bool sr,.slice Ar nr cr] 27)=W6 at hE⊢;rw[<-rG];clear rG;obtain⟨k7,k8⟩:=(hE.here.2).c2
 have cA:w.heap.size<=w.heap.size+1+1:=by omega
 obtain⟨WW,bn,hB,hV,aQ⟩:=kF hE hE.h2 cA hE.here.1.2 cr;obtain⟨x0,x1⟩:=(hE.h2).c2;obtain⟨fQ,fR⟩:=hE.h2.f2;have bJ:=Lib.hid bn;clear bn;go_wp2_with fail
 clear x0 x1;rw[<-bJ.out];obtain⟨y0,y1⟩:=hB.c2;refine bodyPost_ret (v:= .agg #[.bool sr,.slice Ar nr cr]) (by simp[results,Tryz.results151,go_sem,y0,y1]) rfl ?_;exact⟨sr,Ar,nr,cr,rfl,hV,aQ⟩
theorem Hx {a b:Int}{sa sb:Bool}{Aa Ab:Option Addr}{na ca nb cb:Nat}{w:World}(ha:WV w a sa Aa na)(hb:WV w b sb Ab nb)(la:na<=1024)(lb:nb<=1024)(lr:ln aj (a+b).natAbs<=1024):
  Calls Tryz.prog 115 #[.agg #[.bool sa,.slice Aa na ca],.agg #[.bool sb,.slice Ab nb cb]] w (WR (a+b) w):=by
 have hE:=((((Env.start w).wv ha).wv hb).blk 27 #[.bool sa,.slice Aa na ca] (g:=w.heap.size) rfl).blk 27 #[.bool sb,.slice Ab nb cb] (g:=w.heap.size+1) (by simp);have hE:=hE.blk 27 #[.bool false,.slice none 0 0] (g:=w.heap.size+1+1) (by simp)
 obtain⟨W0,aC⟩:∃W0,W0=(((w.alloc (.cells #[.bool sa,.slice Aa na ca] 27)).alloc (.cells #[.bool sb,.slice Ab nb cb] 27)).alloc (.cells #[.bool false,.slice none 0 0] 27)):=⟨_,rfl⟩
 rw[<-aC] at hE;have aU:=Lib.hid aC;clear aC
 go_enter Tryz.func115,Tryz.ntmps115
 go_upto_region 1 with(fail)
 rw[<-aU.out];obtain⟨k1,k2⟩:=(hE.h2).c2;obtain⟨k3,k4⟩:=(hE.here.1.2).c2;go_wp2_with fail
 have hc:=ahE (c:=ca) (d:=cb) hE.h4 hE.h3 la lb lr;refine hc.mono ?_;clear hc;clear k1 k2 k3 k4
 rintro e w5 ⟨sr,Ar,nr,cr,rfl,hr,hb⟩
 replace hE:=hE.step hb;clear hb;replace hE:=hE.wv hr.v;clear hr
 go_upto_region 2 with(fail)
 obtain⟨g6,rG⟩:∃g6,g6=w5.heap.size:=⟨_,rfl⟩
 have XF:w.heap.size<g6:=by rw[rG];exact(hE.h3).lt
 have BB:w.heap.size+1<g6:=by rw[rG];exact(hE.h2).lt
 have XG:w.heap.size+1+1<g6:=by rw[rG];exact(hE.here.1.2).lt
 replace hE:=hE.blk 27 #[.bool sr,.slice Ar nr cr] (g:=g6) rG.symm;generalize w5.alloc (.cells #[.bool sr,.slice Ar nr cr] 27)=W6 at hE⊢;rw[<-rG];clear rG;obtain⟨k7,k8⟩:=(hE.here.2).c2
 have cA:w.heap.size<=w.heap.size+1+1:=by omega
 obtain⟨WW,bn,hB,hV,aQ⟩:=kF hE hE.h2 cA hE.here.1.2 cr;obtain⟨x0,x1⟩:=(hE.h2).c2;obtain⟨fQ,fR⟩:=hE.h2.f2;have bJ:=Lib.hid bn;clear bn;go_wp2_with fail
 clear x0 x1;rw[<-bJ.out];obtain⟨y0,y1⟩:=hB.c2;refine bodyPost_ret (v:= .agg #[.bool sr,.slice Ar nr cr]) (by simp[results,Tryz.results115,go_sem,y0,y1]) rfl ?_;exact⟨sr,Ar,nr,cr,rfl,hV,aQ⟩
theorem er {a b:Int}{sa sb:Bool}{Aa Ab:Option Addr}{na ca nb cb:Nat}{w:World}(ha:WV w a sa Aa na)(hb:WV w b sb Ab nb)(la:na<=1024)(lb:nb<=1024)(lr:ln aj (a*b).natAbs<=1024):
  Calls Tryz.prog 82 #[.agg #[.bool sa,.slice Aa na ca],.agg #[.bool sb,.slice Ab nb cb]] w (WR (a*b) w):=by
 have hE:=((((Env.start w).wv ha).wv hb).blk 27 #[.bool sa,.slice Aa na ca] (g:=w.heap.size) rfl).blk 27 #[.bool sb,.slice Ab nb cb] (g:=w.heap.size+1) (by simp);have hE:=hE.blk 27 #[.bool false,.slice none 0 0] (g:=w.heap.size+1+1) (by simp)
 obtain⟨W0,aC⟩:∃W0,W0=(((w.alloc (.cells #[.bool sa,.slice Aa na ca] 27)).alloc (.cells #[.bool sb,.slice Ab nb cb] 27)).alloc (.cells #[.bool false,.slice none 0 0] 27)):=⟨_,rfl⟩
 rw[<-aC] at hE;have aU:=Lib.hid aC;clear aC
 go_enter Tryz.func82,Tryz.ntmps82
 go_upto_region 1 with(fail)
 rw[<-aU.out];obtain⟨k1,k2⟩:=(hE.h2).c2;obtain⟨k3,k4⟩:=(hE.here.1.2).c2;go_wp2_with fail
 have hc:=ahF (c:=ca) (d:=cb) hE.h4 hE.h3 la lb lr;refine hc.mono ?_;clear hc;clear k1 k2 k3 k4
 rintro e w5 ⟨sr,Ar,nr,cr,rfl,hr,hb⟩
 replace hE:=hE.step hb;clear hb;replace hE:=hE.wv hr.v;clear hr
 go_upto_region 2 with(fail)
 obtain⟨g6,rG⟩:∃g6,g6=w5.heap.size:=⟨_,rfl⟩
 have XF:w.heap.size<g6:=by rw[rG];exact(hE.h3).lt
 have BB:w.heap.size+1<g6:=by rw[rG];exact(hE.h2).lt
 have XG:w.heap.size+1+1<g6:=by rw[rG];exact(hE.here.1.2).lt
 replace hE:=hE.blk 27 #[.bool sr,.slice Ar nr cr] (g:=g6) rG.symm;generalize w5.alloc (.cells #[.bool sr,.slice Ar nr cr] 27)=W6 at hE⊢;rw[<-rG];clear rG;obtain⟨k7,k8⟩:=(hE.here.2).c2
 have cA:w.heap.size<=w.heap.size+1+1:=by omega
 obtain⟨WW,bn,hB,hV,aQ⟩:=kF hE hE.h2 cA hE.here.1.2 cr;obtain⟨x0,x1⟩:=(hE.h2).c2;obtain⟨fQ,fR⟩:=hE.h2.f2;have bJ:=Lib.hid bn;clear bn;go_wp2_with fail
 clear x0 x1;rw[<-bJ.out];obtain⟨y0,y1⟩:=hB.c2;refine bodyPost_ret (v:= .agg #[.bool sr,.slice Ar nr cr]) (by simp[results,Tryz.results82,go_sem,y0,y1]) rfl ?_;exact⟨sr,Ar,nr,cr,rfl,hV,aQ⟩
end
section
open Go.RowKit

theorem sX {z:Int}{s:Bool}{A:Option Addr}{n c:Nat}{w:World}(ha:WV w z s A n)(la:n<=1024):
  Calls Tryz.prog 76 #[.slice A n c] w fun e w'=>∃A' c',e= .returned (.slice A' n c')/\aN w' A' z.natAbs/\Below w.heap.size w w':=by
 have hr:Rd w.heap.size .u16 w A n (aB aj z.natAbs):=by have:=ha.2.2;unfold aN at this;rwa [<-ha.len] at this
 refine(rL A n c _ w hr (by omega)).mono ?_
 rintro e w' ⟨v,rfl,hown,hb,-⟩
 obtain⟨A',c',rfl,_,hro⟩:=qG.mI hown;refine⟨A',c',rfl, ?_,hb⟩;unfold aN;rw[<-ha.len];exact hro.rd
theorem VC {z:Int}{s:Bool}{A:Option Addr}{n:Nat}{w:World}(ha:WV w z s A n):(!s&&decide (0<n))=decide (-z<0):=by
 rw[ha.EA,ha.len]
 by_cases h1:z<0
 ·rw[decide_eq_true h1,decide_eq_false (show¬-z<0 by omega)];rfl
 ·
  rw[decide_eq_false h1]
  by_cases h2:z=0
  ·
   subst h2;show decide (0<ln aj 0)=decide (-(0:Int)<0);rw[cF];rfl
  ·rw[decide_eq_true ((cK aD).2 (show 0<z.natAbs by omega)),decide_eq_true (show-z<0 by omega)];rfl
theorem eK {z:Int}{s:Bool}{A:Option Addr}{n c:Nat}{w:World}(ha:WV w z s A n)(la:n<=1024):
  Calls Tryz.prog 116 #[.agg #[.bool s,.slice A n c]] w (WR (-z) w):=by
 have hsg:=VC ha
 cases s with
 |true=>
  have HS:=Lib.hid (show false=decide (-z<0) from hsg);clear hsg;have hE:=((Env.start w).wv ha).blk 27 #[.bool true,.slice A n c] (g:=w.heap.size) rfl;have hE:=hE.blk 27 #[.bool false,.slice none 0 0] (g:=w.heap.size+1) (by simp)
  obtain⟨W0,aC⟩:∃W0,W0=((w.alloc (.cells #[.bool true,.slice A n c] 27)).alloc (.cells #[.bool false,.slice none 0 0] 27)):=⟨_,rfl⟩
  rw[<-aC] at hE;have aU:=Lib.hid aC;clear aC
  go_enter Tryz.func116,Tryz.ntmps116
  go_upto_region 1 with(fail)
  rw[<-aU.out];replace hE:=hE.drew;refine wp_region_held_drew (S:=fun w'=>w'.cell? ⟨w.heap.size,0,none⟩=some (.bool true)/\w'.cell? ⟨w.heap.size,1,none⟩=some (.slice A n c)) (by kernel_rfl) (hE.here.1.2.c2) (fun hHeld=> ?_);refine tk 0 ?_;refine tk 1 ?_;refine tk 2 ?_;refine tk 3 ?_;refine tu 4 ?_;refine tu 5 ?_;refine tu 6 ?_;refine tu 7 ?_;refine tk 8 ?_;refine tk 9 ?_;refine tk 10 ?_;refine r1 11 (fun K hK=> ?_);go_simp;have hc:=sX (c:=c) hE.h2 la;refine hc.mono ?_;clear hc
  rintro e w2 ⟨A2,c2,rfl,hn2,hb⟩
  replace hE:=hE.step hb;clear hb;have h2:WV w2 (-z) false A2 n:=⟨HS.out,by rw[Int.natAbs_neg];exact(hE.h2).len,by rw[Int.natAbs_neg];exact hn2⟩;replace hE:=hE.wv h2;clear h2 hn2;go_wp2_with fail
  refine hK.out _ _ (hE.h2.c2) (fun hHeld=> ?_);clear hK K;try simp only[PL]
  refine tk 12 ?_;refine r1 13 (fun K hK=> ?_)
  have cA:w.heap.size<=w.heap.size+1:=by omega
  obtain⟨WW,bn,hB,hV,aQ⟩:=kF hE hE.here.1.2 cA hE.here.2 c2;obtain⟨x0,x1⟩:=(hE.here.1.2).c2;obtain⟨fQ,fR⟩:=hE.here.1.2.f2;have bJ:=Lib.hid bn;clear bn;have q1:=(hE.h2).gF (R:=w.heap.size+1) (by omega) (.bool false) (.slice A2 n c2);rw[<-bJ.out] at q1;go_simp;rw[<-bJ.out];refine hK.out _ _ (q1.c2) (fun hHeld=> ?_);clear hK K;try simp only[PL]
  refine wpAnyH_done (by kernel_rfl) ?_ _;go_wp2_with fail
  obtain⟨y0,y1⟩:=hB.c2;refine bodyPost_ret (v:= .agg #[.bool false,.slice A2 n c2]) (by simp[results,Tryz.results116,go_sem,y0,y1]) rfl ?_;exact⟨false,A2,n,c2,rfl,hV,aQ⟩
 |false=>
  rw[show(!false&&decide (0<n))=decide (0<n) from rfl] at hsg;have HS:=Lib.hid (show decide (0<n)=decide (-z<0) from hsg);clear hsg;have hE:=((Env.start w).wv ha).blk 27 #[.bool false,.slice A n c] (g:=w.heap.size) rfl;have hE:=hE.blk 27 #[.bool false,.slice none 0 0] (g:=w.heap.size+1) (by simp)
  obtain⟨W0,aC⟩:∃W0,W0=((w.alloc (.cells #[.bool false,.slice A n c] 27)).alloc (.cells #[.bool false,.slice none 0 0] 27)):=⟨_,rfl⟩
  rw[<-aC] at hE;have aU:=Lib.hid aC;clear aC
  go_enter Tryz.func116,Tryz.ntmps116
  go_upto_region 1 with(fail)
  rw[<-aU.out];replace hE:=hE.drew;refine wp_region_held_drew (S:=fun w'=>w'.cell? ⟨w.heap.size,0,none⟩=some (.bool false)/\w'.cell? ⟨w.heap.size,1,none⟩=some (.slice A n c)) (by kernel_rfl) (hE.here.1.2.c2) (fun hHeld=> ?_);refine tk 0 ?_;refine tk 1 ?_;refine tk 2 ?_;refine tk 3 ?_;refine tk 4 ?_;refine tk 5 ?_;refine tk 6 ?_;refine tk 7 ?_;refine tk 8 ?_;refine tk 9 ?_;refine tk 10 ?_;refine r1 11 (fun K hK=> ?_);go_simp;have hc:=sX (c:=c) hE.h2 la;refine hc.mono ?_;clear hc
  rintro e w2 ⟨A2,c2,rfl,hn2,hb⟩
  replace hE:=hE.step hb;clear hb;have h2:WV w2 (-z) (decide (0<n)) A2 n:=⟨HS.out,by rw[Int.natAbs_neg];exact(hE.h2).len,by rw[Int.natAbs_neg];exact hn2⟩;replace hE:=hE.wv h2;clear h2 hn2;go_wp2_with fail
  refine hK.out _ _ (hE.h2.c2) (fun hHeld=> ?_);clear hK K;try simp only[PL]
  refine tk 12 ?_;refine r1 13 (fun K hK=> ?_)
  have cA:w.heap.size<=w.heap.size+1:=by omega
  obtain⟨WW,bn,hB,hV,aQ⟩:=kF hE hE.here.1.2 cA hE.here.2 c2;obtain⟨x0,x1⟩:=(hE.here.1.2).c2;obtain⟨fQ,fR⟩:=hE.here.1.2.f2;have bJ:=Lib.hid bn;clear bn;have q1:=(hE.h2).gF (R:=w.heap.size+1) (by omega) (.bool (decide (0<n))) (.slice A2 n c2);rw[<-bJ.out] at q1;go_simp;rw[<-bJ.out];refine hK.out _ _ (q1.c2) (fun hHeld=> ?_);clear hK K;try simp only[PL]
  refine wpAnyH_done (by kernel_rfl) ?_ _;go_wp2_with fail
  obtain⟨y0,y1⟩:=hB.c2;refine bodyPost_ret (v:= .agg #[.bool (decide (0<n)),.slice A2 n c2]) (by simp[results,Tryz.results116,go_sem,y0,y1]) rfl ?_;exact⟨(decide (0<n)),A2,n,c2,rfl,hV,aQ⟩
end
section
open Go.RowKit

def WR2 (q r:Int)(w:World)(e:Ending)(w':World):Prop:=∃s A n c t B m d,e= .returned (.tuple #[.agg #[.bool s,.slice A n c],.agg #[.bool t,.slice B m d]])/\WV w' q s A n/\WV w' r t B m/\Below w.heap.size w w'
def FR (q:Rat)(w:World)(e:Ending)(w':World):Prop:=∃s A n c t B m d,e= .returned (.agg (az s A n c t B m d))/\FV w' q s A n t B m/\Below w.heap.size w w'
theorem aO {w W:World}{P:World->Prop}{R:Nat}{T:TypeId}{q:Rat}{s t:Bool}{A B:Option Addr}{n m:Nat}(hE:Env w P W)(hR:ak T R aY W)(hl:w.heap.size<=R)(hv:FV W q s A n t B m)(c d:Nat):
  ∃W',W'=(((W.setCell ⟨R,0,none⟩ (.bool s)).setCell ⟨R,1,none⟩ (.slice A n c)).setCell ⟨R,2,none⟩ (.bool t)).setCell ⟨R,3,none⟩ (.slice B m d)/\ak T R (az s A n c t B m d) W'/\FV W' q s A n t B m/\Below w.heap.size w W':=
 ⟨_,rfl,hR.s4 _ _ _ _,hv.aq hR rfl _ _ _ _ rfl rfl rfl,ck hE.av hl _ _ _ _⟩
theorem ak.same {t:TypeId}{g i:Nat}{cs:Array Value}{W:World}{v:Value}(h:ak t g cs W)(hi:cs[i]?=some v):W.setCell ⟨g,i,none⟩ v=W:=by
 have hm:(W.setCell ⟨g,i,none⟩ v).heap=W.heap:=by
  refine Array.ext_getElem? fun j=> ?_
  by_cases e:g=j
  ·
   subst e;have h2:=h.bW i v;unfold ak at h h2;rw[h,h2]
   congr 2
   refine Array.ext_getElem? fun k=> ?_
   rw[Array.getElem?_setIfInBounds]
   by_cases e2:i=k
   ·
    subst e2;rw[if_pos rfl,if_pos (Array.getElem?_eq_some_iff.1 hi).1,hi]
   ·rw[if_neg e2]
  ·exact Below.heap_setCell W ⟨g,i,none⟩ v j (fun e2=>e e2.symm)
 show({W with heap:=(W.setCell ⟨g,i,none⟩ v).heap}:World)=W;rw[hm]
theorem nE {a b:Int}{sa sb:Bool}{Aa Ab:Option Addr}{na ca nb cb:Nat}{w:World}(ha:WV w a sa Aa na)(hb:WV w b sb Ab nb)(la:na<=1024)(lb:nb<=1024)(hb0:b≠0):
  Calls Tryz.prog 152 #[.agg #[.bool sa,.slice Aa na ca],.agg #[.bool sb,.slice Ab nb cb]] w (WR2 (a.fdiv b) (a.fmod b) w):=by
 have hE:=((((Env.start w).wv ha).wv hb).blk 27 #[.bool sa,.slice Aa na ca] (g:=w.heap.size) rfl).blk 27 #[.bool sb,.slice Ab nb cb] (g:=w.heap.size+1) (by simp);have hE:=hE.blk 27 #[.bool false,.slice none 0 0] (g:=w.heap.size+1+1) (by simp);have hE:=hE.blk 27 #[.bool false,.slice none 0 0] (g:=w.heap.size+1+1+1) (by simp)
 obtain⟨W0,aC⟩:∃W0,W0=((((w.alloc (.cells #[.bool sa,.slice Aa na ca] 27)).alloc (.cells #[.bool sb,.slice Ab nb cb] 27)).alloc (.cells #[.bool false,.slice none 0 0] 27)).alloc (.cells #[.bool false,.slice none 0 0] 27)):=⟨_,rfl⟩
 rw[<-aC] at hE;have aU:=Lib.hid aC;clear aC
 go_enter Tryz.func152,Tryz.ntmps152
 go_upto_region 1 with(fail)
 rw[<-aU.out];obtain⟨k1,k2⟩:=(hE.h3).c2;obtain⟨k3,k4⟩:=(hE.h2).c2;go_wp2_with fail
 refine(Qo (c:=ca) (d:=cb) hE.h5 hE.h4 la lb hb0).mono ?_;clear k1 k2 k3 k4
 rintro e w5 ⟨sq,Aq,nq,cq,sr,Ar,nr,cr,rfl,hq,hr,hb⟩
 replace hE:=hE.step hb;clear hb;replace hE:=(hE.wv hq.v).wv hr.v;clear hq hr;obtain⟨x0,x1⟩:=(hE.h3).c2;obtain⟨z0,z1⟩:=(hE.h2).c2;have f0:=(hE.h3).frozen 0;have f1:=(hE.h3).frozen 1;have g0:=(hE.h2).frozen 0;have g1:=(hE.h2).frozen 1;have ED:=(hE.h3).s2 (.bool sq) (.slice Aq nq cq);have VD:=(hE.h2).gF (R:=w.heap.size+1+1) (by omega) (.bool sq) (.slice Aq nq cq);have hQ:=(hE.here.1.2).cJ (hE.h3) rfl (.bool sq) (.slice Aq nq cq) rfl;have hR:=(hE.here.2).cJ (hE.h3) rfl (.bool sq) (.slice Aq nq cq) rfl;have aQ:=qK (qK hE.av (show w.heap.size<=w.heap.size+1+1 by omega) (.bool sq) (.slice Aq nq cq)) (show w.heap.size<=w.heap.size+1+1+1 by omega) (.bool sr) (.slice Ar nr cr);replace hQ:=hQ.cJ VD rfl (.bool sr) (.slice Ar nr cr) rfl;replace hR:=hR.cJ VD rfl (.bool sr) (.slice Ar nr cr) rfl;replace ED:=ED.gF (R:=w.heap.size+1+1+1) (by omega) (.bool sr) (.slice Ar nr cr);replace VD:=VD.s2 (.bool sr) (.slice Ar nr cr)
 go_upto_region 2 with(fail)
 clear x0 x1 z0 z1 f0 f1 g0 g1
 generalize ((((w5.setCell ⟨w.heap.size+1+1,0,none⟩ (.bool sq)).setCell ⟨w.heap.size+1+1,1,none⟩ (.slice Aq nq cq)).setCell ⟨w.heap.size+1+1+1,0,none⟩ (.bool sr)).setCell ⟨w.heap.size+1+1+1,1,none⟩ (.slice Ar nr cr))=WW at*
 have s1:WW.drew.setCell ⟨w.heap.size+1+1,0,none⟩ (.bool sq)=WW.drew:=ak.same (W:=WW.drew) ED rfl;have s2:WW.drew.setCell ⟨w.heap.size+1+1,1,none⟩ (.slice Aq nq cq)=WW.drew:=ak.same (W:=WW.drew) ED rfl;have s3:WW.drew.setCell ⟨w.heap.size+1+1+1,0,none⟩ (.bool sr)=WW.drew:=ak.same (W:=WW.drew) VD rfl;have s4:WW.drew.setCell ⟨w.heap.size+1+1+1,1,none⟩ (.slice Ar nr cr)=WW.drew:=ak.same (W:=WW.drew) VD rfl;obtain⟨y0,y1⟩:=ED.c2;obtain⟨y2,y3⟩:=VD.c2;have f0:=ED.frozen 0;have f1:=ED.frozen 1;have g0:=VD.frozen 0;have g1:=VD.frozen 1
 go_region_held3 (fun w'=>w'.cell? ⟨w.heap.size+1+1,0,none⟩=some (.bool sq)/\w'.cell? ⟨w.heap.size+1+1,1,none⟩=some (.slice Aq nq cq)/\w'.cell? ⟨w.heap.size+1+1+1,0,none⟩=some (.bool sr)/\w'.cell? ⟨w.heap.size+1+1+1,1,none⟩=some (.slice Ar nr cr)) (first|exact⟨y0,y1,y2,y3⟩|(simp only[s1,s2,s3,s4];exact⟨y0,y1,y2,y3⟩)) (fail)
 go_wp2_with fail
 refine bodyPost_ret (v:= .tuple #[.agg #[.bool sq,.slice Aq nq cq],.agg #[.bool sr,.slice Ar nr cr]]) (by simp[results,Tryz.results152,go_sem,y0,y1,y2,y3]) rfl ?_;exact⟨sq,Aq,nq,cq,sr,Ar,nr,cr,rfl,hQ,hR,aQ.drew⟩
end
end Go.Proofs.YtclbiihcbfnjmaaGreat
namespace Go.Proofs.YtclbiihcbfnjmaaGreat
section
variable {w W:World}{P A0 A1 A2 A3 A4 A5 A6 A7 A8 A9 Qt Rb VB XE QO WJ A16 A17 A18 A19 A20 A21 A22 A23 A24 A25 A26 A27 A28 A29 A30 A31 A32 A33 A34 A35 A36 A37 A38 A39 A40 A41 A42 A43 A44 A45 A46 A47:World->Prop}
theorem Env.e8 (h:Env w (fun V=>((((((((P V/\A7 V)/\A6 V)/\A5 V)/\A4 V)/\A3 V)/\A2 V)/\A1 V)/\A0 V)) W):P W:=h.here.1.1.1.1.1.1.1.1
theorem Env.au (h:Env w (fun V=>((((((((((((((((P V/\WJ V)/\QO V)/\XE V)/\VB V)/\Rb V)/\Qt V)/\A9 V)/\A8 V)/\A7 V)/\A6 V)/\A5 V)/\A4 V)/\A3 V)/\A2 V)/\A1 V)/\A0 V)) W):P W:=h.here.1.1.1.1.1.1.1.1.1.1.1.1.1.1.1.1
theorem Env.cV (h:Env w (fun V=>((((((((((((((((((((((((P V/\A23 V)/\A22 V)/\A21 V)/\A20 V)/\A19 V)/\A18 V)/\A17 V)/\A16 V)/\WJ V)/\QO V)/\XE V)/\VB V)/\Rb V)/\Qt V)/\A9 V)/\A8 V)/\A7 V)/\A6 V)/\A5 V)/\A4 V)/\A3 V)/\A2 V)/\A1 V)/\A0 V)) W):P W:=h.here.1.1.1.1.1.1.1.1.1.1.1.1.1.1.1.1.1.1.1.1.1.1.1.1
theorem Env.yz (h:Env w (fun V=>((((((((((((((((((((((((((((((((P V/\A31 V)/\A30 V)/\A29 V)/\A28 V)/\A27 V)/\A26 V)/\A25 V)/\A24 V)/\A23 V)/\A22 V)/\A21 V)/\A20 V)/\A19 V)/\A18 V)/\A17 V)/\A16 V)/\WJ V)/\QO V)/\XE V)/\VB V)/\Rb V)/\Qt V)/\A9 V)/\A8 V)/\A7 V)/\A6 V)/\A5 V)/\A4 V)/\A3 V)/\A2 V)/\A1 V)/\A0 V)) W):P W:=h.here.1.1.1.1.1.1.1.1.1.1.1.1.1.1.1.1.1.1.1.1.1.1.1.1.1.1.1.1.1.1.1.1
theorem Env.I0 (h:Env w (fun V=>((((((((((((((((((((((((((((((((((((((((P V/\A39 V)/\A38 V)/\A37 V)/\A36 V)/\A35 V)/\A34 V)/\A33 V)/\A32 V)/\A31 V)/\A30 V)/\A29 V)/\A28 V)/\A27 V)/\A26 V)/\A25 V)/\A24 V)/\A23 V)/\A22 V)/\A21 V)/\A20 V)/\A19 V)/\A18 V)/\A17 V)/\A16 V)/\WJ V)/\QO V)/\XE V)/\VB V)/\Rb V)/\Qt V)/\A9 V)/\A8 V)/\A7 V)/\A6 V)/\A5 V)/\A4 V)/\A3 V)/\A2 V)/\A1 V)/\A0 V)) W):P W:=h.here.1.1.1.1.1.1.1.1.1.1.1.1.1.1.1.1.1.1.1.1.1.1.1.1.1.1.1.1.1.1.1.1.1.1.1.1.1.1.1.1
theorem Env.DU (h:Env w (fun V=>((((((((((((((((((((((((((((((((((((((((((((((((P V/\A47 V)/\A46 V)/\A45 V)/\A44 V)/\A43 V)/\A42 V)/\A41 V)/\A40 V)/\A39 V)/\A38 V)/\A37 V)/\A36 V)/\A35 V)/\A34 V)/\A33 V)/\A32 V)/\A31 V)/\A30 V)/\A29 V)/\A28 V)/\A27 V)/\A26 V)/\A25 V)/\A24 V)/\A23 V)/\A22 V)/\A21 V)/\A20 V)/\A19 V)/\A18 V)/\A17 V)/\A16 V)/\WJ V)/\QO V)/\XE V)/\VB V)/\Rb V)/\Qt V)/\A9 V)/\A8 V)/\A7 V)/\A6 V)/\A5 V)/\A4 V)/\A3 V)/\A2 V)/\A1 V)/\A0 V)) W):P W:=h.here.1.1.1.1.1.1.1.1.1.1.1.1.1.1.1.1.1.1.1.1.1.1.1.1.1.1.1.1.1.1.1.1.1.1.1.1.1.1.1.1.1.1.1.1.1.1.1.1
end
end Go.Proofs.YtclbiihcbfnjmaaGreat
