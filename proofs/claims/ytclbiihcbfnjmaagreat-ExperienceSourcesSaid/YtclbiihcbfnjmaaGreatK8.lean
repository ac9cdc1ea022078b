/-
  Parts.
-/
import Derived.Test.YtclbiihcbfnjmaaGreatK7
import Derived.Test.YtclbiihcbfnjmaaGreatK2
set_option linter.unusedSimpArgs false
set_option maxRecDepth 100000
set_option maxHeartbeats 2000000
namespace Go.Proofs.YtclbiihcbfnjmaaGreat
section
open Go.RowKit

section
variable {w W:World} {P A0 A1 A2 A3 A4 A5 A6 A7 A8 A9 uD vf wV xb xK zg Cj Cy Fw FI Ip Kr MA MJ TX YN A26 A27 A28 A29 A30:World->Prop}
theorem Env.h2 (h:Env w (fun V=>((P V/\A2 V)/\A1 V)/\A0 V) W):A2 W:=h.here.1.1.2
theorem Env.h3 (h:Env w (fun V=>(((P V/\A3 V)/\A2 V)/\A1 V)/\A0 V) W):A3 W:=h.here.1.1.1.2
theorem Env.h4 (h:Env w (fun V=>((((P V/\A4 V)/\A3 V)/\A2 V)/\A1 V)/\A0 V) W):A4 W:=h.here.1.1.1.1.2
theorem Env.h5 (h:Env w (fun V=>(((((P V/\A5 V)/\A4 V)/\A3 V)/\A2 V)/\A1 V)/\A0 V) W):A5 W:=h.here.1.1.1.1.1.2
theorem Env.h6 (h:Env w (fun V=>((((((P V/\A6 V)/\A5 V)/\A4 V)/\A3 V)/\A2 V)/\A1 V)/\A0 V) W):A6 W:=h.here.1.1.1.1.1.1.2
theorem Env.h7 (h:Env w (fun V=>(((((((P V/\A7 V)/\A6 V)/\A5 V)/\A4 V)/\A3 V)/\A2 V)/\A1 V)/\A0 V) W):A7 W:=h.here.1.1.1.1.1.1.1.2
theorem Env.h8 (h:Env w (fun V=>((((((((P V/\A8 V)/\A7 V)/\A6 V)/\A5 V)/\A4 V)/\A3 V)/\A2 V)/\A1 V)/\A0 V) W):A8 W:=h.here.1.1.1.1.1.1.1.1.2
theorem Env.h9 (h:Env w (fun V=>(((((((((P V/\A9 V)/\A8 V)/\A7 V)/\A6 V)/\A5 V)/\A4 V)/\A3 V)/\A2 V)/\A1 V)/\A0 V) W):A9 W:=h.here.1.1.1.1.1.1.1.1.1.2
theorem Env.h10 (h:Env w (fun V=>((((((((((P V/\uD V)/\A9 V)/\A8 V)/\A7 V)/\A6 V)/\A5 V)/\A4 V)/\A3 V)/\A2 V)/\A1 V)/\A0 V) W):uD W:=h.here.1.1.1.1.1.1.1.1.1.1.2
theorem Env.h11 (h:Env w (fun V=>(((((((((((P V/\vf V)/\uD V)/\A9 V)/\A8 V)/\A7 V)/\A6 V)/\A5 V)/\A4 V)/\A3 V)/\A2 V)/\A1 V)/\A0 V) W):vf W:=h.here.1.1.1.1.1.1.1.1.1.1.1.2
theorem Env.h12 (h:Env w (fun V=>((((((((((((P V/\wV V)/\vf V)/\uD V)/\A9 V)/\A8 V)/\A7 V)/\A6 V)/\A5 V)/\A4 V)/\A3 V)/\A2 V)/\A1 V)/\A0 V) W):wV W:=h.here.1.1.1.1.1.1.1.1.1.1.1.1.2
theorem Env.dN (h:Env w (fun V=>(((((((((((((P V/\xb V)/\wV V)/\vf V)/\uD V)/\A9 V)/\A8 V)/\A7 V)/\A6 V)/\A5 V)/\A4 V)/\A3 V)/\A2 V)/\A1 V)/\A0 V) W):xb W:=h.here.1.1.1.1.1.1.1.1.1.1.1.1.1.2
end
section
variable {w W:World} {P:World->Prop} {p:Program} {k:FuncId} {xs:Array Value} {Q:Ending->World->Prop}
theorem Env.fr {q:Rat}{G:Bool->Option Addr->Nat->Nat->Bool->Option Addr->Nat->Nat->Ending}(hE:Env w P W)
  (hc:Calls p k xs W (fun e W'=>∃s A n c t B m d,e=G s A n c t B m d/\FV W' q s A n t B m/\Below W.heap.size W W'))
  (h:∀s A n c t B m d W',Env w (fun V=>P V/\FV V q s A n t B m) W'->Q (G s A n c t B m d) W'):Calls p k xs W Q:=
 hc.mono fun e W' ⟨s,A,n,c,t,B,m,d,he,hv,hb⟩=>by
  subst he;exact h s A n c t B m d W' ((hE.step hb).fv hv)
theorem Env.br {R:Ending}(hE:Env w P W)(hc:Calls p k xs W (fun e W'=>e=R/\Below W.heap.size W W'))(h:∀W',Env w P W'->Q R W'):Calls p k xs W Q:=
 hc.mono fun e W' ⟨he,hb⟩=>by
  subst he;exact h W' (hE.step hb)
end
end
section
open Go.RowKit

theorem lR {w W:World}{P:World->Prop}{R:Nat}{z:Int}{s:Bool}{A:Option Addr}{n:Nat}(hE:Env w P W)(hR:au 27 R #[.bool false,.slice none 0 0] W)(hl:w.heap.size<=R)(hv:WV W z s A n)(c:Nat):
  ∃W',W'=(W.setCell ⟨R,0,none⟩ (.bool s)).setCell ⟨R,1,none⟩ (.slice A n c)/\au 27 R #[.bool s,.slice A n c] W'/\WV W' z s A n/\Below w.heap.size w W':=
 ⟨_,rfl,hR.s2 _ _,(hv.sep hR rfl _).sep (hR.dZ 0 _) rfl _,(hE.ax.setCell (p:=⟨R,0,none⟩) hl _).setCell (p:=⟨R,1,none⟩) hl _⟩
theorem qw {a b:Int}{sa sb:Bool}{Aa Ab:Option Addr}{na ca nb cb:Nat}{w:World}(ha:WV w a sa Aa na)(hb:WV w b sb Ab nb)(la:na<=1024)(lb:nb<=1024):
  Calls Tryz.prog 151 #[.agg #[.bool sa,.slice Aa na ca],.agg #[.bool sb,.slice Ab nb cb]] w (WR ((Nat.gcd a.natAbs b.natAbs:Nat):Int) w):=by
 have hE:=((((Env.start w).wv ha).wv hb).blk 27 #[.bool sa,.slice Aa na ca] (g:=w.heap.size) rfl).blk 27 #[.bool sb,.slice Ab nb cb] (g:=w.heap.size+1) (by simp);have hE:=hE.blk 27 #[.bool false,.slice none 0 0] (g:=w.heap.size+1+1) (by simp)
 obtain⟨W0,aC⟩:∃W0,W0=(((w.alloc (.cells #[.bool sa,.slice Aa na ca] 27)).alloc (.cells #[.bool sb,.slice Ab nb cb] 27)).alloc (.cells #[.bool false,.slice none 0 0] 27)):=⟨_,rfl⟩
 rw[<-aC] at hE;have aZ:=af aC;clear aC
 go_enter Tryz.func151,Tryz.ntmps151
 go_upto_region 1 with(fail)
 rw[<-aZ.out];obtain⟨k1,k2⟩:=(hE.h2).c2;obtain⟨k3,k4⟩:=(hE.here.1.2).c2;go_wp2_with fail
 have hc:=ajT (c:=ca) (d:=cb) hE.h4 hE.h3 la lb;refine hc.mono ?_;clear hc;clear k1 k2 k3 k4
 rintro e w5 ⟨sr,Ar,nr,cr,rfl,hr,hb⟩
 replace hE:=hE.step hb;clear hb;replace hE:=hE.wv hr.v;clear hr
 go_upto_region 2 with(fail)
 obtain⟨g6,pI⟩:∃g6,g6=w5.heap.size:=⟨_,rfl⟩
 have Sc:w.heap.size<g6:=by rw[pI];exact(hE.h3).lt
 have xY:w.heap.size+1<g6:=by rw[pI];exact(hE.h2).lt
 have Sd:w.heap.size+1+1<g6:=by rw[pI];exact(hE.here.1.2).lt
 replace hE:=hE.blk 27 #[.bool sr,.slice Ar nr cr] (g:=g6) pI.symm;generalize w5.alloc (.cells #[.bool sr,.slice Ar nr cr] 27)=W6 at hE⊢;rw[<-pI];clear pI;obtain⟨k7,k8⟩:=(hE.here.2).c2
 have cS:w.heap.size<=w.heap.size+1+1:=by omega
 obtain⟨WW,bn,hB,hV,aM⟩:=lR hE hE.h2 cS hE.here.1.2 cr;obtain⟨x0,x1⟩:=(hE.h2).c2;obtain⟨fL,fM⟩:=hE.h2.f2;have bR:=af bn;clear bn;go_wp2_with fail
 clear x0 x1;rw[<-bR.out];obtain⟨y0,y1⟩:=hB.c2;refine aK (v:= .agg #[.bool sr,.slice Ar nr cr]) (by simp[results,Tryz.results151,go_sem,y0,y1]) rfl ?_;exact⟨sr,Ar,nr,cr,rfl,hV,aM⟩
theorem AQ {a b:Int}{sa sb:Bool}{Aa Ab:Option Addr}{na ca nb cb:Nat}{w:World}(ha:WV w a sa Aa na)(hb:WV w b sb Ab nb)(la:na<=1024)(lb:nb<=1024)(lr:ln ai (a+b).natAbs<=1024):
  Calls Tryz.prog 115 #[.agg #[.bool sa,.slice Aa na ca],.agg #[.bool sb,.slice Ab nb cb]] w (WR (a+b) w):=by
 have hE:=((((Env.start w).wv ha).wv hb).blk 27 #[.bool sa,.slice Aa na ca] (g:=w.heap.size) rfl).blk 27 #[.bool sb,.slice Ab nb cb] (g:=w.heap.size+1) (by simp);have hE:=hE.blk 27 #[.bool false,.slice none 0 0] (g:=w.heap.size+1+1) (by simp)
 obtain⟨W0,aC⟩:∃W0,W0=(((w.alloc (.cells #[.bool sa,.slice Aa na ca] 27)).alloc (.cells #[.bool sb,.slice Ab nb cb] 27)).alloc (.cells #[.bool false,.slice none 0 0] 27)):=⟨_,rfl⟩
 rw[<-aC] at hE;have aZ:=af aC;clear aC
 go_enter Tryz.func115,Tryz.ntmps115
 go_upto_region 1 with(fail)
 rw[<-aZ.out];obtain⟨k1,k2⟩:=(hE.h2).c2;obtain⟨k3,k4⟩:=(hE.here.1.2).c2;go_wp2_with fail
 have hc:=ajU (c:=ca) (d:=cb) hE.h4 hE.h3 la lb lr;refine hc.mono ?_;clear hc;clear k1 k2 k3 k4
 rintro e w5 ⟨sr,Ar,nr,cr,rfl,hr,hb⟩
 replace hE:=hE.step hb;clear hb;replace hE:=hE.wv hr.v;clear hr
 go_upto_region 2 with(fail)
 obtain⟨g6,pI⟩:∃g6,g6=w5.heap.size:=⟨_,rfl⟩
 have Sc:w.heap.size<g6:=by rw[pI];exact(hE.h3).lt
 have xY:w.heap.size+1<g6:=by rw[pI];exact(hE.h2).lt
 have Sd:w.heap.size+1+1<g6:=by rw[pI];exact(hE.here.1.2).lt
 replace hE:=hE.blk 27 #[.bool sr,.slice Ar nr cr] (g:=g6) pI.symm;generalize w5.alloc (.cells #[.bool sr,.slice Ar nr cr] 27)=W6 at hE⊢;rw[<-pI];clear pI;obtain⟨k7,k8⟩:=(hE.here.2).c2
 have cS:w.heap.size<=w.heap.size+1+1:=by omega
 obtain⟨WW,bn,hB,hV,aM⟩:=lR hE hE.h2 cS hE.here.1.2 cr;obtain⟨x0,x1⟩:=(hE.h2).c2;obtain⟨fL,fM⟩:=hE.h2.f2;have bR:=af bn;clear bn;go_wp2_with fail
 clear x0 x1;rw[<-bR.out];obtain⟨y0,y1⟩:=hB.c2;refine aK (v:= .agg #[.bool sr,.slice Ar nr cr]) (by simp[results,Tryz.results115,go_sem,y0,y1]) rfl ?_;exact⟨sr,Ar,nr,cr,rfl,hV,aM⟩
theorem eI {a b:Int}{sa sb:Bool}{Aa Ab:Option Addr}{na ca nb cb:Nat}{w:World}(ha:WV w a sa Aa na)(hb:WV w b sb Ab nb)(la:na<=1024)(lb:nb<=1024)(lr:ln ai (a*b).natAbs<=1024):
  Calls Tryz.prog 82 #[.agg #[.bool sa,.slice Aa na ca],.agg #[.bool sb,.slice Ab nb cb]] w (WR (a*b) w):=by
 have hE:=((((Env.start w).wv ha).wv hb).blk 27 #[.bool sa,.slice Aa na ca] (g:=w.heap.size) rfl).blk 27 #[.bool sb,.slice Ab nb cb] (g:=w.heap.size+1) (by simp);have hE:=hE.blk 27 #[.bool false,.slice none 0 0] (g:=w.heap.size+1+1) (by simp)
 obtain⟨W0,aC⟩:∃W0,W0=(((w.alloc (.cells #[.bool sa,.slice Aa na ca] 27)).alloc (.cells #[.bool sb,.slice Ab nb cb] 27)).alloc (.cells #[.bool false,.slice none 0 0] 27)):=⟨_,rfl⟩
 rw[<-aC] at hE;have aZ:=af aC;clear aC
 go_enter Tryz.func82,Tryz.ntmps82
 go_upto_region 1 with(fail)
 rw[<-aZ.out];obtain⟨k1,k2⟩:=(hE.h2).c2;obtain⟨k3,k4⟩:=(hE.here.1.2).c2;go_wp2_with fail
 have hc:=ajV (c:=ca) (d:=cb) hE.h4 hE.h3 la lb lr;refine hc.mono ?_;clear hc;clear k1 k2 k3 k4
 rintro e w5 ⟨sr,Ar,nr,cr,rfl,hr,hb⟩
 replace hE:=hE.step hb;clear hb;replace hE:=hE.wv hr.v;clear hr
 go_upto_region 2 with(fail)
 obtain⟨g6,pI⟩:∃g6,g6=w5.heap.size:=⟨_,rfl⟩
 have Sc:w.heap.size<g6:=by rw[pI];exact(hE.h3).lt
 have xY:w.heap.size+1<g6:=by rw[pI];exact(hE.h2).lt
 have Sd:w.heap.size+1+1<g6:=by rw[pI];exact(hE.here.1.2).lt
 replace hE:=hE.blk 27 #[.bool sr,.slice Ar nr cr] (g:=g6) pI.symm;generalize w5.alloc (.cells #[.bool sr,.slice Ar nr cr] 27)=W6 at hE⊢;rw[<-pI];clear pI;obtain⟨k7,k8⟩:=(hE.here.2).c2
 have cS:w.heap.size<=w.heap.size+1+1:=by omega
 obtain⟨WW,bn,hB,hV,aM⟩:=lR hE hE.h2 cS hE.here.1.2 cr;obtain⟨x0,x1⟩:=(hE.h2).c2;obtain⟨fL,fM⟩:=hE.h2.f2;have bR:=af bn;clear bn;go_wp2_with fail
 clear x0 x1;rw[<-bR.out];obtain⟨y0,y1⟩:=hB.c2;refine aK (v:= .agg #[.bool sr,.slice Ar nr cr]) (by simp[results,Tryz.results82,go_sem,y0,y1]) rfl ?_;exact⟨sr,Ar,nr,cr,rfl,hV,aM⟩
end
section
open Go.RowKit

theorem uU {z:Int}{s:Bool}{A:Option Addr}{n c:Nat}{w:World}(ha:WV w z s A n)(la:n<=1024):
  Calls Tryz.prog 76 #[.slice A n c] w fun e w'=>∃A' c',e= .returned (.slice A' n c')/\aJ w' A' z.natAbs/\Below w.heap.size w w':=by
 have hr:Rd w.heap.size .u16 w A n (aB ai z.natAbs):=by have:=ha.2.2;unfold aJ at this;rwa [<-ha.len] at this
 refine(tV A n c _ w hr (by omega)).mono ?_
 rintro e w' ⟨v,rfl,hown,hb,-⟩
 obtain⟨A',c',rfl,_,hro⟩:=sL.oA hown;refine⟨A',c',rfl, ?_,hb⟩;unfold aJ;rw[<-ha.len];exact hro.rd
theorem YO {z:Int}{s:Bool}{A:Option Addr}{n:Nat}{w:World}(ha:WV w z s A n):(!s&&decide (0<n))=decide (-z<0):=by
 rw[ha.AM,ha.len]
 by_cases h1:z<0
 ·rw[aL h1,aH (show¬-z<0 by omega)];rfl
 ·
  rw[aH h1]
  by_cases h2:z=0
  ·
   subst h2;show decide (0<ln ai 0)=decide (-(0:Int)<0);rw[cY];rfl
  ·rw[aL ((dM aA).2 (show 0<z.natAbs by omega)),aL (show-z<0 by omega)];rfl
theorem fN {z:Int}{s:Bool}{A:Option Addr}{n c:Nat}{w:World}(ha:WV w z s A n)(la:n<=1024):
  Calls Tryz.prog 116 #[.agg #[.bool s,.slice A n c]] w (WR (-z) w):=by
 have hsg:=YO ha
 cases s with
 |true=>
  have HS:=af (show false=decide (-z<0) from hsg);clear hsg;have hE:=((Env.start w).wv ha).blk 27 #[.bool true,.slice A n c] (g:=w.heap.size) rfl;have hE:=hE.blk 27 #[.bool false,.slice none 0 0] (g:=w.heap.size+1) (by simp)
  obtain⟨W0,aC⟩:∃W0,W0=((w.alloc (.cells #[.bool true,.slice A n c] 27)).alloc (.cells #[.bool false,.slice none 0 0] 27)):=⟨_,rfl⟩
  rw[<-aC] at hE;have aZ:=af aC;clear aC
  go_enter Tryz.func116,Tryz.ntmps116
  go_upto_region 1 with(fail)
  rw[<-aZ.out];replace hE:=hE.drew;refine bH (S:=fun w'=>w'.cell? ⟨w.heap.size,0,none⟩=some (.bool true)/\w'.cell? ⟨w.heap.size,1,none⟩=some (.slice A n c)) (by kernel_rfl) (hE.here.1.2.c2) (fun hHeld=> ?_);refine tk 0 ?_;refine tk 1 ?_;refine tk 2 ?_;refine tk 3 ?_;refine tu 4 ?_;refine tu 5 ?_;refine tu 6 ?_;refine tu 7 ?_;refine tk 8 ?_;refine tk 9 ?_;refine tk 10 ?_;refine r1 11 (fun K hK=> ?_);go_simp;have hc:=uU (c:=c) hE.h2 la;refine hc.mono ?_;clear hc
  rintro e w2 ⟨A2,c2,rfl,hn2,hb⟩
  replace hE:=hE.step hb;clear hb;have h2:WV w2 (-z) false A2 n:=⟨HS.out,by rw[kR];exact(hE.h2).len,by rw[kR];exact hn2⟩;replace hE:=hE.wv h2;clear h2 hn2;go_wp2_with fail
  refine hK.out _ _ (hE.h2.c2) (fun hHeld=> ?_);clear hK K;try simp only[PL]
  refine tk 12 ?_;refine r1 13 (fun K hK=> ?_)
  have cS:w.heap.size<=w.heap.size+1:=by omega
  obtain⟨WW,bn,hB,hV,aM⟩:=lR hE hE.here.1.2 cS hE.here.2 c2;obtain⟨x0,x1⟩:=(hE.here.1.2).c2;obtain⟨fL,fM⟩:=hE.here.1.2.f2;have bR:=af bn;clear bn;have q1:=(hE.h2).fq (R:=w.heap.size+1) (by omega) (.bool false) (.slice A2 n c2);rw[<-bR.out] at q1;go_simp;rw[<-bR.out];refine hK.out _ _ (q1.c2) (fun hHeld=> ?_);clear hK K;try simp only[PL]
  refine aX (by kernel_rfl) ?_ _;go_wp2_with fail
  obtain⟨y0,y1⟩:=hB.c2;refine aK (v:= .agg #[.bool false,.slice A2 n c2]) (by simp[results,Tryz.results116,go_sem,y0,y1]) rfl ?_;exact⟨false,A2,n,c2,rfl,hV,aM⟩
 |false=>
  rw[show(!false&&decide (0<n))=decide (0<n) from rfl] at hsg;have HS:=af (show decide (0<n)=decide (-z<0) from hsg);clear hsg;have hE:=((Env.start w).wv ha).blk 27 #[.bool false,.slice A n c] (g:=w.heap.size) rfl;have hE:=hE.blk 27 #[.bool false,.slice none 0 0] (g:=w.heap.size+1) (by simp)
  obtain⟨W0,aC⟩:∃W0,W0=((w.alloc (.cells #[.bool false,.slice A n c] 27)).alloc (.cells #[.bool false,.slice none 0 0] 27)):=⟨_,rfl⟩
  rw[<-aC] at hE;have aZ:=af aC;clear aC
  go_enter Tryz.func116,Tryz.ntmps116
  go_upto_region 1 with(fail)
  rw[<-aZ.out];replace hE:=hE.drew;refine bH (S:=fun w'=>w'.cell? ⟨w.heap.size,0,none⟩=some (.bool false)/\w'.cell? ⟨w.heap.size,1,none⟩=some (.slice A n c)) (by kernel_rfl) (hE.here.1.2.c2) (fun hHeld=> ?_);refine tk 0 ?_;refine tk 1 ?_;refine tk 2 ?_;refine tk 3 ?_;refine tk 4 ?_;refine tk 5 ?_;refine tk 6 ?_;refine tk 7 ?_;refine tk 8 ?_;refine tk 9 ?_;refine tk 10 ?_;refine r1 11 (fun K hK=> ?_);go_simp;have hc:=uU (c:=c) hE.h2 la;refine hc.mono ?_;clear hc
  rintro e w2 ⟨A2,c2,rfl,hn2,hb⟩
  replace hE:=hE.step hb;clear hb;have h2:WV w2 (-z) (decide (0<n)) A2 n:=⟨HS.out,by rw[kR];exact(hE.h2).len,by rw[kR];exact hn2⟩;replace hE:=hE.wv h2;clear h2 hn2;go_wp2_with fail
  refine hK.out _ _ (hE.h2.c2) (fun hHeld=> ?_);clear hK K;try simp only[PL]
  refine tk 12 ?_;refine r1 13 (fun K hK=> ?_)
  have cS:w.heap.size<=w.heap.size+1:=by omega
  obtain⟨WW,bn,hB,hV,aM⟩:=lR hE hE.here.1.2 cS hE.here.2 c2;obtain⟨x0,x1⟩:=(hE.here.1.2).c2;obtain⟨fL,fM⟩:=hE.here.1.2.f2;have bR:=af bn;clear bn;have q1:=(hE.h2).fq (R:=w.heap.size+1) (by omega) (.bool (decide (0<n))) (.slice A2 n c2);rw[<-bR.out] at q1;go_simp;rw[<-bR.out];refine hK.out _ _ (q1.c2) (fun hHeld=> ?_);clear hK K;try simp only[PL]
  refine aX (by kernel_rfl) ?_ _;go_wp2_with fail
  obtain⟨y0,y1⟩:=hB.c2;refine aK (v:= .agg #[.bool (decide (0<n)),.slice A2 n c2]) (by simp[results,Tryz.results116,go_sem,y0,y1]) rfl ?_;exact⟨(decide (0<n)),A2,n,c2,rfl,hV,aM⟩
end
section
open Go.RowKit

def WR2 (q r:Int)(w:World)(e:Ending)(w':World):Prop:=∃s A n c t B m d,e= .returned (.tuple #[.agg #[.bool s,.slice A n c],.agg #[.bool t,.slice B m d]])/\WV w' q s A n/\WV w' r t B m/\Below w.heap.size w w'
def FR (q:Rat)(w:World)(e:Ending)(w':World):Prop:=∃s A n c t B m d,e= .returned (.agg (az s A n c t B m d))/\FV w' q s A n t B m/\Below w.heap.size w w'
theorem aR {w W:World}{P:World->Prop}{R:Nat}{T:TypeId}{q:Rat}{s t:Bool}{A B:Option Addr}{n m:Nat}(hE:Env w P W)(hR:au T R aW W)(hl:w.heap.size<=R)(hv:FV W q s A n t B m)(c d:Nat):
  ∃W',W'=(((W.setCell ⟨R,0,none⟩ (.bool s)).setCell ⟨R,1,none⟩ (.slice A n c)).setCell ⟨R,2,none⟩ (.bool t)).setCell ⟨R,3,none⟩ (.slice B m d)/\au T R (az s A n c t B m d) W'/\FV W' q s A n t B m/\Below w.heap.size w W':=
 ⟨_,rfl,hR.s4 _ _ _ _,hv.ak hR rfl _ _ _ _ rfl rfl rfl,bW hE.ax hl _ _ _ _⟩
theorem au.same {t:TypeId}{g i:Nat}{cs:Array Value}{W:World}{v:Value}(h:au t g cs W)(hi:cs[i]?=some v):W.setCell ⟨g,i,none⟩ v=W:=by
 have hm:(W.setCell ⟨g,i,none⟩ v).heap=W.heap:=by
  refine Array.ext_getElem? fun j=> ?_
  by_cases e:g=j
  ·
   subst e;have h2:=h.dZ i v;unfold au at h h2;rw[h,h2]
   congr 2
   refine Array.ext_getElem? fun k=> ?_
   rw[sH]
   by_cases e2:i=k
   ·
    subst e2;rw[if_pos rfl,if_pos (Array.getElem?_eq_some_iff.1 hi).1,hi]
   ·rw[if_neg e2]
  ·exact dL W ⟨g,i,none⟩ v j (fun e2=>e e2.symm)
 show({W with heap:=(W.setCell ⟨g,i,none⟩ v).heap}:World)=W;rw[hm]
theorem oX {a b:Int}{sa sb:Bool}{Aa Ab:Option Addr}{na ca nb cb:Nat}{w:World}(ha:WV w a sa Aa na)(hb:WV w b sb Ab nb)(la:na<=1024)(lb:nb<=1024)(hb0:b≠0):
  Calls Tryz.prog 152 #[.agg #[.bool sa,.slice Aa na ca],.agg #[.bool sb,.slice Ab nb cb]] w (WR2 (a.fdiv b) (a.fmod b) w):=by
 have hE:=((((Env.start w).wv ha).wv hb).blk 27 #[.bool sa,.slice Aa na ca] (g:=w.heap.size) rfl).blk 27 #[.bool sb,.slice Ab nb cb] (g:=w.heap.size+1) (by simp);have hE:=hE.blk 27 #[.bool false,.slice none 0 0] (g:=w.heap.size+1+1) (by simp);have hE:=hE.blk 27 #[.bool false,.slice none 0 0] (g:=w.heap.size+1+1+1) (by simp)
 obtain⟨W0,aC⟩:∃W0,W0=((((w.alloc (.cells #[.bool sa,.slice Aa na ca] 27)).alloc (.cells #[.bool sb,.slice Ab nb cb] 27)).alloc (.cells #[.bool false,.slice none 0 0] 27)).alloc (.cells #[.bool false,.slice none 0 0] 27)):=⟨_,rfl⟩
 rw[<-aC] at hE;have aZ:=af aC;clear aC
 go_enter Tryz.func152,Tryz.ntmps152
 go_upto_region 1 with(fail)
 rw[<-aZ.out];obtain⟨k1,k2⟩:=(hE.h3).c2;obtain⟨k3,k4⟩:=(hE.h2).c2;go_wp2_with fail
 refine(Tp (c:=ca) (d:=cb) hE.h5 hE.h4 la lb hb0).mono ?_;clear k1 k2 k3 k4
 rintro e w5 ⟨sq,Aq,nq,cq,sr,Ar,nr,cr,rfl,hq,hr,hb⟩
 replace hE:=hE.step hb;clear hb;replace hE:=(hE.wv hq.v).wv hr.v;clear hq hr;obtain⟨x0,x1⟩:=(hE.h3).c2;obtain⟨z0,z1⟩:=(hE.h2).c2;have f0:=(hE.h3).frozen 0;have f1:=(hE.h3).frozen 1;have g0:=(hE.h2).frozen 0;have g1:=(hE.h2).frozen 1;have Gp:=(hE.h3).s2 (.bool sq) (.slice Aq nq cq);have YP:=(hE.h2).fq (R:=w.heap.size+1+1) (by omega) (.bool sq) (.slice Aq nq cq);have hQ:=(hE.here.1.2).cH (hE.h3) rfl (.bool sq) (.slice Aq nq cq) rfl;have hR:=(hE.here.2).cH (hE.h3) rfl (.bool sq) (.slice Aq nq cq) rfl;have aM:=oB (oB hE.ax (show w.heap.size<=w.heap.size+1+1 by omega) (.bool sq) (.slice Aq nq cq)) (show w.heap.size<=w.heap.size+1+1+1 by omega) (.bool sr) (.slice Ar nr cr);replace hQ:=hQ.cH YP rfl (.bool sr) (.slice Ar nr cr) rfl;replace hR:=hR.cH YP rfl (.bool sr) (.slice Ar nr cr) rfl;replace Gp:=Gp.fq (R:=w.heap.size+1+1+1) (by omega) (.bool sr) (.slice Ar nr cr);replace YP:=YP.s2 (.bool sr) (.slice Ar nr cr)
 go_upto_region 2 with(fail)
 clear x0 x1 z0 z1 f0 f1 g0 g1
 generalize ((((w5.setCell ⟨w.heap.size+1+1,0,none⟩ (.bool sq)).setCell ⟨w.heap.size+1+1,1,none⟩ (.slice Aq nq cq)).setCell ⟨w.heap.size+1+1+1,0,none⟩ (.bool sr)).setCell ⟨w.heap.size+1+1+1,1,none⟩ (.slice Ar nr cr))=WW at*
 have s1:WW.drew.setCell ⟨w.heap.size+1+1,0,none⟩ (.bool sq)=WW.drew:=au.same (W:=WW.drew) Gp rfl;have s2:WW.drew.setCell ⟨w.heap.size+1+1,1,none⟩ (.slice Aq nq cq)=WW.drew:=au.same (W:=WW.drew) Gp rfl;have s3:WW.drew.setCell ⟨w.heap.size+1+1+1,0,none⟩ (.bool sr)=WW.drew:=au.same (W:=WW.drew) YP rfl;have s4:WW.drew.setCell ⟨w.heap.size+1+1+1,1,none⟩ (.slice Ar nr cr)=WW.drew:=au.same (W:=WW.drew) YP rfl;obtain⟨y0,y1⟩:=Gp.c2;obtain⟨y2,y3⟩:=YP.c2;have f0:=Gp.frozen 0;have f1:=Gp.frozen 1;have g0:=YP.frozen 0;have g1:=YP.frozen 1
 go_region_held3 (fun w'=>w'.cell? ⟨w.heap.size+1+1,0,none⟩=some (.bool sq)/\w'.cell? ⟨w.heap.size+1+1,1,none⟩=some (.slice Aq nq cq)/\w'.cell? ⟨w.heap.size+1+1+1,0,none⟩=some (.bool sr)/\w'.cell? ⟨w.heap.size+1+1+1,1,none⟩=some (.slice Ar nr cr)) (first|exact⟨y0,y1,y2,y3⟩|(simp only[s1,s2,s3,s4];exact⟨y0,y1,y2,y3⟩)) (fail)
 go_wp2_with fail
 refine aK (v:= .tuple #[.agg #[.bool sq,.slice Aq nq cq],.agg #[.bool sr,.slice Ar nr cr]]) (by simp[results,Tryz.results152,go_sem,y0,y1,y2,y3]) rfl ?_;exact⟨sq,Aq,nq,cq,sr,Ar,nr,cr,rfl,hQ,hR,aM.drew⟩
end
end Go.Proofs.YtclbiihcbfnjmaaGreat
namespace Go.Proofs.YtclbiihcbfnjmaaGreat
section
variable {w W:World}{P A0 A1 A2 A3 A4 A5 A6 A7 A8 A9 uD vf wV xb xK zg Cj Cy Fw FI Ip Kr MA MJ TX YN A26 A27 A28 A29 A30 A31 A32 A33 A34 A35 A36 A37 A38 A39 A40 A41 A42 A43 A44 A45 A46 A47 A48:World->Prop}
theorem Env.g0 (h:Env w (fun V=>(P V/\A0 V)) W):A0 W:=h.here.2
theorem Env.g1 (h:Env w (fun V=>((P V/\A1 V)/\A0 V)) W):A1 W:=h.here.1.2
theorem Env.g14 (h:Env w (fun V=>(((((((((((((((P V/\xK V)/\xb V)/\wV V)/\vf V)/\uD V)/\A9 V)/\A8 V)/\A7 V)/\A6 V)/\A5 V)/\A4 V)/\A3 V)/\A2 V)/\A1 V)/\A0 V)) W):xK W:=h.here.1.1.1.1.1.1.1.1.1.1.1.1.1.1.2
theorem Env.g15 (h:Env w (fun V=>((((((((((((((((P V/\zg V)/\xK V)/\xb V)/\wV V)/\vf V)/\uD V)/\A9 V)/\A8 V)/\A7 V)/\A6 V)/\A5 V)/\A4 V)/\A3 V)/\A2 V)/\A1 V)/\A0 V)) W):zg W:=h.here.1.1.1.1.1.1.1.1.1.1.1.1.1.1.1.2
theorem Env.g16 (h:Env w (fun V=>(((((((((((((((((P V/\Cj V)/\zg V)/\xK V)/\xb V)/\wV V)/\vf V)/\uD V)/\A9 V)/\A8 V)/\A7 V)/\A6 V)/\A5 V)/\A4 V)/\A3 V)/\A2 V)/\A1 V)/\A0 V)) W):Cj W:=h.here.1.1.1.1.1.1.1.1.1.1.1.1.1.1.1.1.2
theorem Env.g17 (h:Env w (fun V=>((((((((((((((((((P V/\Cy V)/\Cj V)/\zg V)/\xK V)/\xb V)/\wV V)/\vf V)/\uD V)/\A9 V)/\A8 V)/\A7 V)/\A6 V)/\A5 V)/\A4 V)/\A3 V)/\A2 V)/\A1 V)/\A0 V)) W):Cy W:=h.here.1.1.1.1.1.1.1.1.1.1.1.1.1.1.1.1.1.2
theorem Env.g18 (h:Env w (fun V=>(((((((((((((((((((P V/\Fw V)/\Cy V)/\Cj V)/\zg V)/\xK V)/\xb V)/\wV V)/\vf V)/\uD V)/\A9 V)/\A8 V)/\A7 V)/\A6 V)/\A5 V)/\A4 V)/\A3 V)/\A2 V)/\A1 V)/\A0 V)) W):Fw W:=h.here.1.1.1.1.1.1.1.1.1.1.1.1.1.1.1.1.1.1.2
theorem Env.g19 (h:Env w (fun V=>((((((((((((((((((((P V/\FI V)/\Fw V)/\Cy V)/\Cj V)/\zg V)/\xK V)/\xb V)/\wV V)/\vf V)/\uD V)/\A9 V)/\A8 V)/\A7 V)/\A6 V)/\A5 V)/\A4 V)/\A3 V)/\A2 V)/\A1 V)/\A0 V)) W):FI W:=h.here.1.1.1.1.1.1.1.1.1.1.1.1.1.1.1.1.1.1.1.2
theorem Env.g20 (h:Env w (fun V=>(((((((((((((((((((((P V/\Ip V)/\FI V)/\Fw V)/\Cy V)/\Cj V)/\zg V)/\xK V)/\xb V)/\wV V)/\vf V)/\uD V)/\A9 V)/\A8 V)/\A7 V)/\A6 V)/\A5 V)/\A4 V)/\A3 V)/\A2 V)/\A1 V)/\A0 V)) W):Ip W:=h.here.1.1.1.1.1.1.1.1.1.1.1.1.1.1.1.1.1.1.1.1.2
theorem Env.g21 (h:Env w (fun V=>((((((((((((((((((((((P V/\Kr V)/\Ip V)/\FI V)/\Fw V)/\Cy V)/\Cj V)/\zg V)/\xK V)/\xb V)/\wV V)/\vf V)/\uD V)/\A9 V)/\A8 V)/\A7 V)/\A6 V)/\A5 V)/\A4 V)/\A3 V)/\A2 V)/\A1 V)/\A0 V)) W):Kr W:=h.here.1.1.1.1.1.1.1.1.1.1.1.1.1.1.1.1.1.1.1.1.1.2
theorem Env.g22 (h:Env w (fun V=>(((((((((((((((((((((((P V/\MA V)/\Kr V)/\Ip V)/\FI V)/\Fw V)/\Cy V)/\Cj V)/\zg V)/\xK V)/\xb V)/\wV V)/\vf V)/\uD V)/\A9 V)/\A8 V)/\A7 V)/\A6 V)/\A5 V)/\A4 V)/\A3 V)/\A2 V)/\A1 V)/\A0 V)) W):MA W:=h.here.1.1.1.1.1.1.1.1.1.1.1.1.1.1.1.1.1.1.1.1.1.1.2
theorem Env.g23 (h:Env w (fun V=>((((((((((((((((((((((((P V/\MJ V)/\MA V)/\Kr V)/\Ip V)/\FI V)/\Fw V)/\Cy V)/\Cj V)/\zg V)/\xK V)/\xb V)/\wV V)/\vf V)/\uD V)/\A9 V)/\A8 V)/\A7 V)/\A6 V)/\A5 V)/\A4 V)/\A3 V)/\A2 V)/\A1 V)/\A0 V)) W):MJ W:=h.here.1.1.1.1.1.1.1.1.1.1.1.1.1.1.1.1.1.1.1.1.1.1.1.2
theorem Env.g24 (h:Env w (fun V=>(((((((((((((((((((((((((P V/\TX V)/\MJ V)/\MA V)/\Kr V)/\Ip V)/\FI V)/\Fw V)/\Cy V)/\Cj V)/\zg V)/\xK V)/\xb V)/\wV V)/\vf V)/\uD V)/\A9 V)/\A8 V)/\A7 V)/\A6 V)/\A5 V)/\A4 V)/\A3 V)/\A2 V)/\A1 V)/\A0 V)) W):TX W:=h.here.1.1.1.1.1.1.1.1.1.1.1.1.1.1.1.1.1.1.1.1.1.1.1.1.2
theorem Env.iC (h:Env w (fun V=>((((((((((((((((((((((((((P V/\YN V)/\TX V)/\MJ V)/\MA V)/\Kr V)/\Ip V)/\FI V)/\Fw V)/\Cy V)/\Cj V)/\zg V)/\xK V)/\xb V)/\wV V)/\vf V)/\uD V)/\A9 V)/\A8 V)/\A7 V)/\A6 V)/\A5 V)/\A4 V)/\A3 V)/\A2 V)/\A1 V)/\A0 V)) W):YN W:=h.here.1.1.1.1.1.1.1.1.1.1.1.1.1.1.1.1.1.1.1.1.1.1.1.1.1.2
theorem Env.nT (h:Env w (fun V=>(((((((((((((((((((((((((((((P V/\A28 V)/\A27 V)/\A26 V)/\YN V)/\TX V)/\MJ V)/\MA V)/\Kr V)/\Ip V)/\FI V)/\Fw V)/\Cy V)/\Cj V)/\zg V)/\xK V)/\xb V)/\wV V)/\vf V)/\uD V)/\A9 V)/\A8 V)/\A7 V)/\A6 V)/\A5 V)/\A4 V)/\A3 V)/\A2 V)/\A1 V)/\A0 V)) W):A28 W:=h.here.1.1.1.1.1.1.1.1.1.1.1.1.1.1.1.1.1.1.1.1.1.1.1.1.1.1.1.1.2
theorem Env.kr (h:Env w (fun V=>(((((((((((((((((((((((((((((((P V/\A30 V)/\A29 V)/\A28 V)/\A27 V)/\A26 V)/\YN V)/\TX V)/\MJ V)/\MA V)/\Kr V)/\Ip V)/\FI V)/\Fw V)/\Cy V)/\Cj V)/\zg V)/\xK V)/\xb V)/\wV V)/\vf V)/\uD V)/\A9 V)/\A8 V)/\A7 V)/\A6 V)/\A5 V)/\A4 V)/\A3 V)/\A2 V)/\A1 V)/\A0 V)) W):A30 W:=h.here.1.1.1.1.1.1.1.1.1.1.1.1.1.1.1.1.1.1.1.1.1.1.1.1.1.1.1.1.1.1.2
theorem Env.IC (h:Env w (fun V=>(((((((((((((((((((((((((((((((((((((((((((((((((P V/\A48 V)/\A47 V)/\A46 V)/\A45 V)/\A44 V)/\A43 V)/\A42 V)/\A41 V)/\A40 V)/\A39 V)/\A38 V)/\A37 V)/\A36 V)/\A35 V)/\A34 V)/\A33 V)/\A32 V)/\A31 V)/\A30 V)/\A29 V)/\A28 V)/\A27 V)/\A26 V)/\YN V)/\TX V)/\MJ V)/\MA V)/\Kr V)/\Ip V)/\FI V)/\Fw V)/\Cy V)/\Cj V)/\zg V)/\xK V)/\xb V)/\wV V)/\vf V)/\uD V)/\A9 V)/\A8 V)/\A7 V)/\A6 V)/\A5 V)/\A4 V)/\A3 V)/\A2 V)/\A1 V)/\A0 V)) W):A48 W:=h.here.1.1.1.1.1.1.1.1.1.1.1.1.1.1.1.1.1.1.1.1.1.1.1.1.1.1.1.1.1.1.1.1.1.1.1.1.1.1.1.1.1.1.1.1.1.1.1.1.2
theorem Env.uM (h:Env w (fun V=>((((((((((((((((((((((((P V/\MJ V)/\MA V)/\Kr V)/\Ip V)/\FI V)/\Fw V)/\Cy V)/\Cj V)/\zg V)/\xK V)/\xb V)/\wV V)/\vf V)/\uD V)/\A9 V)/\A8 V)/\A7 V)/\A6 V)/\A5 V)/\A4 V)/\A3 V)/\A2 V)/\A1 V)/\A0 V)) W):P W:=h.here.1.1.1.1.1.1.1.1.1.1.1.1.1.1.1.1.1.1.1.1.1.1.1.1
theorem Env.AB (h:Env w (fun V=>((((((((((((((((((((((((((((((((P V/\A31 V)/\A30 V)/\A29 V)/\A28 V)/\A27 V)/\A26 V)/\YN V)/\TX V)/\MJ V)/\MA V)/\Kr V)/\Ip V)/\FI V)/\Fw V)/\Cy V)/\Cj V)/\zg V)/\xK V)/\xb V)/\wV V)/\vf V)/\uD V)/\A9 V)/\A8 V)/\A7 V)/\A6 V)/\A5 V)/\A4 V)/\A3 V)/\A2 V)/\A1 V)/\A0 V)) W):P W:=h.here.1.1.1.1.1.1.1.1.1.1.1.1.1.1.1.1.1.1.1.1.1.1.1.1.1.1.1.1.1.1.1.1
theorem Env.KP (h:Env w (fun V=>((((((((((((((((((((((((((((((((((((((((P V/\A39 V)/\A38 V)/\A37 V)/\A36 V)/\A35 V)/\A34 V)/\A33 V)/\A32 V)/\A31 V)/\A30 V)/\A29 V)/\A28 V)/\A27 V)/\A26 V)/\YN V)/\TX V)/\MJ V)/\MA V)/\Kr V)/\Ip V)/\FI V)/\Fw V)/\Cy V)/\Cj V)/\zg V)/\xK V)/\xb V)/\wV V)/\vf V)/\uD V)/\A9 V)/\A8 V)/\A7 V)/\A6 V)/\A5 V)/\A4 V)/\A3 V)/\A2 V)/\A1 V)/\A0 V)) W):P W:=h.here.1.1.1.1.1.1.1.1.1.1.1.1.1.1.1.1.1.1.1.1.1.1.1.1.1.1.1.1.1.1.1.1.1.1.1.1.1.1.1.1
theorem Env.e48 (h:Env w (fun V=>((((((((((((((((((((((((((((((((((((((((((((((((P V/\A47 V)/\A46 V)/\A45 V)/\A44 V)/\A43 V)/\A42 V)/\A41 V)/\A40 V)/\A39 V)/\A38 V)/\A37 V)/\A36 V)/\A35 V)/\A34 V)/\A33 V)/\A32 V)/\A31 V)/\A30 V)/\A29 V)/\A28 V)/\A27 V)/\A26 V)/\YN V)/\TX V)/\MJ V)/\MA V)/\Kr V)/\Ip V)/\FI V)/\Fw V)/\Cy V)/\Cj V)/\zg V)/\xK V)/\xb V)/\wV V)/\vf V)/\uD V)/\A9 V)/\A8 V)/\A7 V)/\A6 V)/\A5 V)/\A4 V)/\A3 V)/\A2 V)/\A1 V)/\A0 V)) W):P W:=h.here.1.1.1.1.1.1.1.1.1.1.1.1.1.1.1.1.1.1.1.1.1.1.1.1.1.1.1.1.1.1.1.1.1.1.1.1.1.1.1.1.1.1.1.1.1.1.1.1
end
end Go.Proofs.YtclbiihcbfnjmaaGreat
