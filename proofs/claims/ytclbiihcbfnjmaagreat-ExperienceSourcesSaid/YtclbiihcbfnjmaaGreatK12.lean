/-
  Parts.
-/
import Derived.Test.YtclbiihcbfnjmaaGreatK11
set_option linter.unusedSimpArgs false
set_option maxRecDepth 100000
set_option maxHeartbeats 4000000
namespace Go.Proofs.YtclbiihcbfnjmaaGreat
section
open Go.RowKit

def yz (s:Bool)(n:Nat)(f:Nat->Nat)(m:Nat)(g:Nat->Nat):Rat:=Rat.divInt (jt s (vs ai f n)) (vs ai g m)
theorem Ed {w:World}{s t:Bool}{A B:Option Addr}{n m:Nat}{f g:Nat->Nat}(hr:kA w A n f B m g)(h:okF s n f t m g=true):FV w (yz s n f m g) s A n t B m/\n<=256/\m<=256/\fl (yz s n f m g)<=256:=by
 unfold yz;unfold okF at h;simp only[Bool.and_eq_true,Bool.not_eq_true',Bool.or_eq_false_iff,decide_eq_false_iff_not,beq_iff_eq] at h;obtain⟨⟨h1,h2⟩,h3,h4,h5,h6,h7⟩:=h;subst h5;have w1:=ot hr.1 hr.2.2.1 h3;have w2:=ot hr.2.1 hr.2.2.2 h4
 have hd:0<vs ai g m:=by
  have:=w2.len;rw[cE] at this;exact(dM aA).1 (by omega)
 have hm:=RQ (n:=jt s (vs ai f n)) (d:=vs ai g m) hd (by rw[cE];exact h7);refine⟨⟨by rw[hm.1];exact w1,by rw[hm.2];exact w2⟩,by omega,by omega, ?_⟩;rw[dA,hm.1,hm.2];have l1:=w1.len;have l2:=w2.len;rw[cE] at l1 l2;rw[cE];omega

def wz (s:Bool)(n:Nat)(f:Nat->Nat)(t:Bool)(m:Nat)(g:Nat->Nat):Bool:=
 okF s n f t m g&&(!s&&(decide (n<=1)&&(decide (m<=1)&&decide (LM (yz s n f m g) 1<=0))))
theorem jL :fl 1<=256:=by rw[dA];exact⟨by decide,by decide⟩
theorem Se (s t:Bool)(A B:Option Addr)(n m c d:Nat)(f g:Nat->Nat)(w:World)(hr:kA w A n f B m g)(hn:n<=1000000)(hm:m<=1000000)(r:Bool)(h:wz s n f t m g=r):
  Calls Tryz.prog 154 #[.agg (az s A n c t B m d)] w fun e w'=>e= .returned (.bool r)/\Below w.heap.size w w':=by
 have hres:=h.symm;clear h;unfold wz at hres
 obtain⟨v,hv⟩:∃v,okF s n f t m g=v:=⟨_,rfl⟩
 rw[hv] at hres;have HV:=af hv;clear hv
 cases v with
 |false=>
  rw[jJ] at hres;have hE:=(Env.start w).blk 29 (az s A n c t B m d) (g:=w.heap.size) rfl
  obtain⟨W0,aC⟩:∃W0,W0=w.alloc (.cells (az s A n c t B m d) 29):=⟨_,rfl⟩
  rw[<-aC] at hE;have aZ:=af aC;clear aC;have HR:=af hres;clear hres
  go_enter Tryz.func154,Tryz.ntmps154
  go_upto_region 1 with(fail)
  rw[<-aZ.out];replace hE:=hE.drew;refine bH (S:=fun w'=>w'.cell? ⟨w.heap.size,0,none⟩=some (.bool s)/\w'.cell? ⟨w.heap.size,1,none⟩=some (.slice A n c)/\w'.cell? ⟨w.heap.size,2,none⟩=some (.bool t)/\w'.cell? ⟨w.heap.size,3,none⟩=some (.slice B m d)) (by kernel_rfl) (hE.g0.c4) (fun hHeld=> ?_);refine tk 0 ?_;refine r1 1 (fun K hK=> ?_);go_simp;refine hE.br (cV s t A B n m c d f g _ (hr.below hE.ax) hn hm _ HV.out) ?_;clear hE;intro w1 hE;go_wp2_with fail
  refine hK.out _ _ (hE.g0.c4) (fun hHeld=> ?_);clear hK K;try simp only[PL]
  refine tk 2 ?_;refine tu 3 ?_;refine tu 4 ?_;refine tu 5 ?_;refine tu 6 ?_;refine tk 7 ?_;refine tk 8 ?_;refine tu 9 ?_;refine tu 10 ?_;refine tu 11 ?_;refine tu 12 ?_;refine tu 13 ?_;refine tk 14 ?_;refine tk 15 ?_;refine tu 16 ?_;refine tu 17 ?_;refine tu 18 ?_;refine tu 19 ?_;refine tu 20 ?_;refine tk 21 ?_;refine tk 22 ?_;refine tu 23 ?_;refine tu 24 ?_;refine tu 25 ?_;refine tu 26 ?_;refine tk 27 ?_;refine tk 28 ?_;refine aX (by kernel_rfl) ?_ _;go_wp2_with fail
  go_ret
  exact⟨aT HR.out.symm,hE.ax⟩
 |true=>
 rw[kH] at hres
 cases s with
 |true=>
  rw[Bool.not_true,jJ] at hres;have hE:=(Env.start w).blk 29 (az true A n c t B m d) (g:=w.heap.size) rfl
  obtain⟨W0,aC⟩:∃W0,W0=w.alloc (.cells (az true A n c t B m d) 29):=⟨_,rfl⟩
  rw[<-aC] at hE;have aZ:=af aC;clear aC;have HR:=af hres;clear hres
  go_enter Tryz.func154,Tryz.ntmps154
  go_upto_region 1 with(fail)
  rw[<-aZ.out];replace hE:=hE.drew;refine bH (S:=fun w'=>w'.cell? ⟨w.heap.size,0,none⟩=some (.bool true)/\w'.cell? ⟨w.heap.size,1,none⟩=some (.slice A n c)/\w'.cell? ⟨w.heap.size,2,none⟩=some (.bool t)/\w'.cell? ⟨w.heap.size,3,none⟩=some (.slice B m d)) (by kernel_rfl) (hE.g0.c4) (fun hHeld=> ?_);refine tk 0 ?_;refine r1 1 (fun K hK=> ?_);go_simp;refine hE.br (cV true t A B n m c d f g _ (hr.below hE.ax) hn hm _ HV.out) ?_;clear hE;intro w1 hE;go_wp2_with fail
  refine hK.out _ _ (hE.g0.c4) (fun hHeld=> ?_);clear hK K;try simp only[PL]
  refine tk 2 ?_;refine tk 3 ?_;refine tk 4 ?_;refine tk 5 ?_;refine tk 6 ?_;refine tk 7 ?_;refine tk 8 ?_;refine tu 9 ?_;refine tu 10 ?_;refine tu 11 ?_;refine tu 12 ?_;refine tu 13 ?_;refine tk 14 ?_;refine tk 15 ?_;refine tu 16 ?_;refine tu 17 ?_;refine tu 18 ?_;refine tu 19 ?_;refine tu 20 ?_;refine tk 21 ?_;refine tk 22 ?_;refine tu 23 ?_;refine tu 24 ?_;refine tu 25 ?_;refine tu 26 ?_;refine tk 27 ?_;refine tk 28 ?_;refine aX (by kernel_rfl) ?_ _;go_wp2_with fail
  go_ret
  exact⟨aT HR.out.symm,hE.ax⟩
 |false=>
  rw[Bool.not_false,kH] at hres
  by_cases h1:n<=1
  ·
   have t1:decide ((n:Int)<=1)=true:=aL (by omega);rw[aL h1,kH] at hres
   by_cases h2:m<=1
   ·
    have t2:decide ((m:Int)<=1)=true:=aL (by omega);rw[aL h2,kH] at hres;have hE:=(Env.start w).blk 29 (az false A n c t B m d) (g:=w.heap.size) rfl
    obtain⟨W0,aC⟩:∃W0,W0=w.alloc (.cells (az false A n c t B m d) 29):=⟨_,rfl⟩
    rw[<-aC] at hE;have aZ:=af aC;clear aC;obtain⟨hq,-,-,hfl⟩:=Ed (hr.below hE.ax) HV.out;replace hE:=hE.fv hq
    obtain⟨v,hv⟩:∃v,v=LM (yz false n f m g) 1:=⟨_,rfl⟩
    have HQ:=af hv;rw[<-hv] at hres;clear hv hq;have HR:=af hres;clear hres
    go_enter Tryz.func154,Tryz.ntmps154
    go_upto_region 1 with(fail)
    rw[<-aZ.out];replace hE:=hE.drew;refine bH (S:=fun w'=>w'.cell? ⟨w.heap.size,0,none⟩=some (.bool false)/\w'.cell? ⟨w.heap.size,1,none⟩=some (.slice A n c)/\w'.cell? ⟨w.heap.size,2,none⟩=some (.bool t)/\w'.cell? ⟨w.heap.size,3,none⟩=some (.slice B m d)) (by kernel_rfl) (hE.g1.c4) (fun hHeld=> ?_);refine tk 0 ?_;refine r1 1 (fun K hK=> ?_);go_simp;refine hE.br (cV false t A B n m c d f g _ (hr.below hE.ax) hn hm _ HV.out) ?_;clear hE;intro w1 hE;go_wp2_with fail
    refine hK.out _ _ (hE.g1.c4) (fun hHeld=> ?_);clear hK K;try simp only[PL]
    refine tk 2 ?_;refine tk 3 ?_;refine tk 4 ?_;refine tk 5 ?_;refine tk 6 ?_;refine tk 7 ?_;refine tk 8 ?_;refine tk 9 ?_;refine tk 10 ?_;refine tk 11 ?_;refine tk 12 ?_;refine tk 13 ?_;refine tk 14 ?_;refine tk 15 ?_;refine tk 16 ?_;refine tk 17 ?_;refine tk 18 ?_;refine tk 19 ?_;refine tk 20 ?_;refine tk 21 ?_;refine tk 22 ?_;refine tk 23 ?_;refine r1 24 (fun K hK=> ?_);go_simp;refine hE.fr (bg 1 _ (by decide) (by decide)) ?_;clear hE;intro sp Ap np cp tp Bp mp dp w2 hE;go_wp2_with fail
    refine hK.out _ _ (hE.h2.c4) (fun hHeld=> ?_);clear hK K;try simp only[PL]
    refine r1 25 (fun K hK=> ?_);go_simp;have hc:=adP (ca:=c) (da:=d) (cb:=cp) (db:=dp) hE.g1 hE.g0 hfl jL;rw[show(((1:Int):Rat))=1 from rfl,<-HQ.out] at hc;refine hE.br hc ?_;clear hE hc;intro w3 hE;go_wp2_with fail
    refine hK.out _ _ (hE.h2.c4) (fun hHeld=> ?_);clear hK K;try simp only[PL]
    refine tk 26 ?_;refine tk 27 ?_;refine tk 28 ?_;refine aX (by kernel_rfl) ?_ _;go_wp2_with fail
    go_ret
    exact⟨aT HR.out.symm,hE.ax⟩
   ·
    have t2:decide ((m:Int)<=1)=false:=aH (by omega);rw[aH h2,jJ] at hres;have hE:=(Env.start w).blk 29 (az false A n c t B m d) (g:=w.heap.size) rfl
    obtain⟨W0,aC⟩:∃W0,W0=w.alloc (.cells (az false A n c t B m d) 29):=⟨_,rfl⟩
    rw[<-aC] at hE;have aZ:=af aC;clear aC;have HR:=af hres;clear hres
    go_enter Tryz.func154,Tryz.ntmps154
    go_upto_region 1 with(fail)
    rw[<-aZ.out];replace hE:=hE.drew;refine bH (S:=fun w'=>w'.cell? ⟨w.heap.size,0,none⟩=some (.bool false)/\w'.cell? ⟨w.heap.size,1,none⟩=some (.slice A n c)/\w'.cell? ⟨w.heap.size,2,none⟩=some (.bool t)/\w'.cell? ⟨w.heap.size,3,none⟩=some (.slice B m d)) (by kernel_rfl) (hE.g0.c4) (fun hHeld=> ?_);refine tk 0 ?_;refine r1 1 (fun K hK=> ?_);go_simp;refine hE.br (cV false t A B n m c d f g _ (hr.below hE.ax) hn hm _ HV.out) ?_;clear hE;intro w1 hE;go_wp2_with fail
    refine hK.out _ _ (hE.g0.c4) (fun hHeld=> ?_);clear hK K;try simp only[PL]
    refine tk 2 ?_;refine tk 3 ?_;refine tk 4 ?_;refine tk 5 ?_;refine tk 6 ?_;refine tk 7 ?_;refine tk 8 ?_;refine tk 9 ?_;refine tk 10 ?_;refine tk 11 ?_;refine tk 12 ?_;refine tk 13 ?_;refine tk 14 ?_;refine tk 15 ?_;refine tk 16 ?_;refine tk 17 ?_;refine tk 18 ?_;refine tk 19 ?_;refine tk 20 ?_;refine tk 21 ?_;refine tk 22 ?_;refine tu 23 ?_;refine tu 24 ?_;refine tu 25 ?_;refine tu 26 ?_;refine tk 27 ?_;refine tk 28 ?_;refine aX (by kernel_rfl) ?_ _;go_wp2_with fail
    go_ret
    exact⟨aT HR.out.symm,hE.ax⟩
  ·
   have t1:decide ((n:Int)<=1)=false:=aH (by omega);rw[aH h1,jJ] at hres;have hE:=(Env.start w).blk 29 (az false A n c t B m d) (g:=w.heap.size) rfl
   obtain⟨W0,aC⟩:∃W0,W0=w.alloc (.cells (az false A n c t B m d) 29):=⟨_,rfl⟩
   rw[<-aC] at hE;have aZ:=af aC;clear aC;have HR:=af hres;clear hres
   go_enter Tryz.func154,Tryz.ntmps154
   go_upto_region 1 with(fail)
   rw[<-aZ.out];replace hE:=hE.drew;refine bH (S:=fun w'=>w'.cell? ⟨w.heap.size,0,none⟩=some (.bool false)/\w'.cell? ⟨w.heap.size,1,none⟩=some (.slice A n c)/\w'.cell? ⟨w.heap.size,2,none⟩=some (.bool t)/\w'.cell? ⟨w.heap.size,3,none⟩=some (.slice B m d)) (by kernel_rfl) (hE.g0.c4) (fun hHeld=> ?_);refine tk 0 ?_;refine r1 1 (fun K hK=> ?_);go_simp;refine hE.br (cV false t A B n m c d f g _ (hr.below hE.ax) hn hm _ HV.out) ?_;clear hE;intro w1 hE;go_wp2_with fail
   refine hK.out _ _ (hE.g0.c4) (fun hHeld=> ?_);clear hK K;try simp only[PL]
   refine tk 2 ?_;refine tk 3 ?_;refine tk 4 ?_;refine tk 5 ?_;refine tk 6 ?_;refine tk 7 ?_;refine tk 8 ?_;refine tk 9 ?_;refine tk 10 ?_;refine tk 11 ?_;refine tk 12 ?_;refine tk 13 ?_;refine tk 14 ?_;refine tk 15 ?_;refine tu 16 ?_;refine tu 17 ?_;refine tu 18 ?_;refine tu 19 ?_;refine tu 20 ?_;refine tk 21 ?_;refine tk 22 ?_;refine tu 23 ?_;refine tu 24 ?_;refine tu 25 ?_;refine tu 26 ?_;refine tk 27 ?_;refine tk 28 ?_;refine aX (by kernel_rfl) ?_ _;go_wp2_with fail
   go_ret
   exact⟨aT HR.out.symm,hE.ax⟩
end
section
open Go.RowKit

structure FH where
 s:Bool
 A:Option Addr
 n:Nat
 c:Nat
 f:Nat->Nat
 t:Bool
 B:Option Addr
 m:Nat
 d:Nat
 g:Nat->Nat
structure RH where
 A:Option Addr
 n:Nat
 c:Nat
 h:Nat->FH
def FH.q (h:FH):Rat:=yz h.s h.n h.f h.m h.g
def FH.kq (h:FH):Bool:=wz h.s h.n h.f h.t h.m h.g
def FH.cells (h:FH)(w:World)(b o:Nat):Prop:=w.cell? ⟨b,o,none⟩=some (.bool h.s)/\w.cell? ⟨b,o+1,none⟩=some (.slice h.A h.n h.c)/\w.cell? ⟨b,o+2,none⟩=some (.bool h.t)/\w.cell? ⟨b,o+3,none⟩=some (.slice h.B h.m h.d)
def FH.rd (h:FH)(w:World):Prop:=kA w h.A h.n h.f h.B h.m h.g
def wA (w:World)(R:RH):Prop:=0<R.n->∃b o,R.A=some ⟨b,o,none⟩/\b<w.heap.size/\∀k,k<R.n->(R.h k).cells w b (o+k*4)/\(R.h k).rd w
def eZ (w:World)(A:Option Addr)(n:Nat)(r:Nat->RH):Prop:=0<n->∃b o,A=some ⟨b,o,none⟩/\b<w.heap.size/\∀i,i<n->w.cell? ⟨b,o+i,none⟩=some (.slice (r i).A (r i).n (r i).c)/\wA w (r i)
theorem FH.EC {h:FH}{w w':World}{b o:Nat}(hc:h.cells w b o)(hb:Below w.heap.size w w')(hlt:b<w.heap.size):h.cells w' b o:=
 ⟨(hb.cell (p:=⟨b,o,none⟩) hlt).trans hc.1,(hb.cell (p:=⟨b,o+1,none⟩) hlt).trans hc.2.1,(hb.cell (p:=⟨b,o+2,none⟩) hlt).trans hc.2.2.1,(hb.cell (p:=⟨b,o+3,none⟩) hlt).trans hc.2.2.2⟩
theorem wA.below {R:RH}{w w':World}(h:wA w R)(hb:Below w.heap.size w w'):wA w' R:=fun h0=>by
 obtain⟨b,o,e,hlt,hc⟩:=h h0;exact⟨b,o,e,bY hlt hb.size,fun k hk=>⟨FH.EC (hc k hk).1 hb hlt,kA.below (hc k hk).2 hb⟩⟩
theorem eZ.below {A:Option Addr}{n:Nat}{r:Nat->RH}{w w':World}(h:eZ w A n r)(hb:Below w.heap.size w w'):eZ w' A n r:=fun h0=>by
 obtain⟨b,o,e,hlt,hc⟩:=h h0;exact⟨b,o,e,bY hlt hb.size,fun i hi=>⟨(hb.cell (p:=⟨b,o+i,none⟩) hlt).trans (hc i hi).1,(hc i hi).2.below hb⟩⟩
theorem eZ.stable (A:Option Addr)(n:Nat)(r:Nat->RH):ck (fun W=>eZ W A n r):=fun _ _ hb h=>h.below hb
def nJ (n:Nat)(r:Nat->RH):Prop:=n<=1000000/\∀i,i<n->(r i).n<=1000000/\∀k,k<(r i).n->((r i).h k).n<=1000000/\((r i).h k).m<=1000000
def Sf (S:Nat)(R:RH):Prop:=R.n=S+1/\∀k,k<R.n->(R.h k).kq=true
def DR (F S:Int)(n:Nat)(r:Nat->RH):Prop:=
 ((0<=F/\F<=150)/\(0<=S/\S<=5))/\(1<=n/\n<=111)/\(∀i,i<n->Sf S.toNat (r i))/\((r (n-1)).h S.toNat).q=1
theorem LN {h:FH}(hr:h.kq=true):okF h.s h.n h.f h.t h.m h.g=true:=by
 unfold FH.kq wz at hr;exact(Bool.and_eq_true_iff.1 hr).1
def js (P:Prop)(w:World)(e:Ending)(w':World):Prop:=∃v,e= .returned (.bool v)/\(v=true↔P)/\Below w.heap.size w w'
def At (b o:Nat)(v:Value)(V:World):Prop:=b<V.heap.size/\V.cell? ⟨b,o,none⟩=some v
theorem At.stable (b o:Nat)(v:Value):ck (At b o v):=fun _ _ hb h=>⟨bY h.1 hb.size,(hb.cell (p:=⟨b,o,none⟩) h.1).trans h.2⟩
theorem Env.at_ {w W:World}{P:World->Prop}{b o:Nat}{v:Value}(h:Env w P W)(hb:b<W.heap.size)(hc:W.cell? ⟨b,o,none⟩=some v):Env w (fun V=>P V/\At b o v V) W:=h.and (At.stable b o v) ⟨hb,hc⟩
theorem bQ {P:Prop}(h:¬P):(false=true↔P):=⟨fun e=>(gS e).elim,fun p=>absurd p h⟩
theorem uO {P:Prop}(h:P):(true=true↔P):=⟨fun _=>h,fun _=>rfl⟩
theorem eZ.row {A:Option Addr}{n i:Nat}{r:Nat->RH}{w:World}(h:eZ w A n r)(hi:i<n):wA w (r i):=by
 obtain⟨b,o,_,_,hc⟩:=h (by omega);exact(hc i hi).2
theorem FH.fv {h:FH}{w:World}(hr:h.kq=true)(hd:h.rd w):FV w h.q h.s h.A h.n h.t h.B h.m/\fl h.q<=256:=by
 have:=Ed hd (LN hr);exact⟨this.1,this.2.2.2⟩
theorem wB (F S:Int)(A:Option Addr)(n c:Nat)(r:Nat->RH)(w:World)(hT:eZ w A n r)(hB:nJ n r):
  Calls Tryz.prog 118 #[.agg #[.int .i64 F,.int .i64 S,.slice A n c]] w (js (DR F S n r) w):=by
 have hE:=((Env.start w).and (eZ.stable A n r) hT).blk 24 #[.int .i64 F,.int .i64 S,.slice A n c] (g:=w.heap.size) rfl
 obtain⟨W0,aC⟩:∃W0,W0=w.alloc (.cells #[.int .i64 F,.int .i64 S,.slice A n c] 24):=⟨_,rfl⟩
 rw[<-aC] at hE;have aZ:=af aC;clear aC
 go_enter Tryz.func118,Tryz.ntmps118
 go_upto_region 1 with(fail)
 rw[<-aZ.out];obtain⟨k1,k2,k3⟩:=hE.g0.c3
 by_cases hF:(0<=F/\F<=150)/\(0<=S/\S<=5)
 ·
  obtain⟨⟨f1,f2⟩,f3,f4⟩:=hF;have t1:decide (F<0)=false:=aH (by omega);have t2:decide (150<F)=false:=aH (by omega);have t3:decide (S<0)=false:=aH (by omega);have t4:decide (5<S)=false:=aH (by omega)
  go_upto_region 3 with(fail)
  by_cases hn:1<=n/\n<=111
  ·
   obtain⟨n1,n2⟩:=hn;have t5:decide ((n:Int)<1)=false:=aH (by omega);have t6:decide ((111:Int)<(n:Int))=false:=aH (by omega);clear t1 t2 t3 t4;go_wp2_with fail
   clear t5 t6;clear k1 k2 k3;obtain⟨b,o,rfl,asL,-⟩:=hE.g1 (by omega)
   go_loopw [38] (fun x wr=>∃i:Nat,i<=n/\x= .int .i64 (i:Int)/\Hid (∀j,j<i->Sf S.toNat (r j))/\Env w (fun V=>(True/\eZ V (some ⟨b,o,none⟩) n r)/\au 24 w.heap.size #[.int .i64 F,.int .i64 S,.slice (some ⟨b,o,none⟩) n c] V) wr) (fun x _=>n-(intOf x).toNat)
   case atStart=>exact⟨0,bF _,rfl,af (fun j hj=>absurd hj (by omega)),hE⟩
   case round=>
    clear hE;obtain⟨i,hi,rfl,HI,hE⟩:=hrel
    by_cases hlt:i<n
    ·
     obtain⟨b',o',e',-,hc⟩:=hE.g1 (by omega)
     injection e' with e'
     injection e' with e1 e2 e3
     subst e1 e2;obtain⟨c0,-⟩:=hc i hlt;have iZ:=hB.2 i hlt
     obtain⟨R,hR⟩:∃R,R=r i:=⟨_,rfl⟩
     rw[<-hR] at c0 iZ;obtain⟨Ai,ni,ci,hh⟩:=R
     dsimp only at c0 iZ
     have HR:=af hR;clear hR hc e3;have t1:decide ((i:Int)<(n:Int))=true:=aL (by omega)
     have t2:(i:Int)<(n:Int):=by omega
     have o1:IntKind.i64.wrap (S+1)=S+1:=by rw[cL];omega
     obtain⟨k1,k2,k3⟩:=hE.g0.c3
     by_cases hl:ni=S.toNat+1
     ·
      have t7:((ni:Int) !=S+1)=false:=by rw[bne_eq_false_iff_eq];omega
      have HL:=af hl;clear hl;go_wp2_with fail
      clear k1 k2 k3 c0 t1 t2 t7 o1
      go_loopw [50] (fun x wr=>∃k:Nat,k<=ni/\x= .int .i64 (k:Int)/\Hid (∀j,j<k->(hh j).kq=true)/\Env w (fun V=>(True/\eZ V (some ⟨b,o,none⟩) n r)/\au 24 w.heap.size #[.int .i64 F,.int .i64 S,.slice (some ⟨b,o,none⟩) n c] V) wr) (fun x _=>ni-(intOf x).toNat)
      case atStart=>exact⟨0,bF _,rfl,af (fun j hj=>absurd hj (by omega)),hE⟩
      case round=>
       clear hE;obtain⟨k,hk,rfl,HK,hE⟩:=hrel
       by_cases WT:k<ni
       ·
        have hrow:=hE.g1.row hlt;rw[<-HR.out] at hrow;obtain⟨b2,o2,e2,eS,oW⟩:=hrow (show 0<ni by omega)
        dsimp only at e2
        subst e2;obtain⟨uF,hrd⟩:=oW k WT;obtain⟨iz,jf⟩:=iZ.2 k WT
        dsimp only at uF hrd
        obtain⟨H,hH⟩:∃H,H=hh k:=⟨_,rfl⟩
        rw[<-hH] at uF hrd iz jf;have HH:=af hH;clear hH oW;obtain⟨hs,hA,hn,hc,hf,ht,hD,hm,hd,hg⟩:=H;obtain⟨d0,d1,d2,d3⟩:=uF;unfold FH.rd at hrd
        dsimp only at d0 d1 d2 d3 hrd iz jf
        obtain⟨v,hv⟩:∃v,wz hs hn hf ht hm hg=v:=⟨_,rfl⟩
        have HV:=af hv;clear hv;have t1:decide ((k:Int)<(ni:Int))=true:=aL (by omega)
        have t2:(k:Int)<(ni:Int):=by omega
        go_wp2_with fail
        refine(Se hs ht hA hD hn hm hc hd hf hg _ (kA.below hrd (er wr _)) iz jf v HV.out).mono ?_
        rintro e w3 ⟨rfl,hb⟩
        have hE3:=(hE.alloc _).step hb;clear hE hb d0 d1 d2 d3 hrd t1 t2
        cases v with
        |true=>
         go_wp2_with fail
         go_roundw
         case rel=>
          refine⟨k+1,by omega,by go_num,af (fun j hj=> ?_),hE3⟩
          rcases cX j k with h|h
          ·exact HK.out j h
          ·
           obtain rfl:j=k:=by omega
           rw[<-HH.out];exact HV.out
         case measure=>simp[intOf];omega
        |false=>
         have hno:¬DR F S n r:=fun h=>by
          have h1:=(h.2.2.1 i hlt).2;rw[<-HR.out] at h1;have h2:=h1 k WT
          dsimp only at h2
          rw[<-HH.out] at h2;exact absurd (h2.symm.trans HV.out) (by decide)
         have HN:=af hno;clear hno;go_wp2_with fail
         go_ret
         exact⟨false,rfl,bQ HN.out,hE3.ax⟩
       ·
        obtain rfl:k=ni:=by omega
        go_wp2_with fail
        go_roundw
        case rel=>
         refine⟨i+1,by omega,by go_num,af (fun j hj=> ?_),hE⟩
         rcases cX j i with h|h
         ·exact HI.out j h
         ·
          obtain rfl:j=i:=by omega
          rw[<-HR.out];exact⟨HL.out,HK.out⟩
        case measure=>simp[intOf];omega
     ·
      have t7:((ni:Int) !=S+1)=true:=by rw[jK];omega
      have hno:¬DR F S n r:=fun h=>by
       have h1:=(h.2.2.1 i hlt).1;rw[<-HR.out] at h1;exact hl h1
      have HN:=af hno;clear hno hl;go_wp2_with fail
      go_ret
      exact⟨false,rfl,bQ HN.out,hE.ax⟩
    ·
     obtain rfl:i=n:=by omega
     have hrow:=hE.g1.row (show i-1<i by omega);obtain⟨b',o',e',aix,hc⟩:=hE.g1 (by omega)
     injection e' with e'
     injection e' with e1 e2 e3
     subst e1 e2;obtain⟨c0,-⟩:=hc (i-1) (by omega);obtain⟨tE,rQ⟩:=HI.out (i-1) (by omega);obtain⟨b2,o2,e2,eS,oW⟩:=hrow (by omega);obtain⟨uF,hrd⟩:=oW S.toNat (by omega);obtain⟨oM,hfl⟩:=FH.fv (rQ S.toNat (by omega)) hrd;rw[e2] at c0;have iZ:=(hB.2 (i-1) (by omega)).2 S.toNat (by omega);have hTI:DR F S i r↔((r (i-1)).h S.toNat).q=1:=⟨fun h=>h.2.2.2,fun h=>⟨⟨⟨f1,f2⟩,f3,f4⟩,⟨n1,n2⟩,HI.out,h⟩⟩;have HTI:=af hTI
     obtain⟨H,hH⟩:∃H,H=(r (i-1)).h S.toNat:=⟨_,rfl⟩
     rw[<-hH] at uF oM hfl iZ HTI
     obtain⟨nl,nK⟩:∃x,x=(r (i-1)).n:=⟨_,rfl⟩
     rw[<-nK] at c0 tE
     obtain⟨cl,aiy⟩:∃x,x=(r (i-1)).c:=⟨_,rfl⟩
     rw[<-aiy] at c0;have aoN:b<wr.heap.size:=aix;clear hH nK aiy hTI oW hc e3 e2 hrow rQ HI hrd
     obtain⟨Q,hQ⟩:∃Q,Q=H.q:=⟨_,rfl⟩
     rw[<-hQ] at oM hfl HTI;clear hQ;obtain⟨hs,hA,hn,hc,hf,ht,hD,hm,hd,hg⟩:=H;obtain⟨d0,d1,d2,d3⟩:=uF
     dsimp only at d0 d1 d2 d3 iZ oM
     obtain⟨k1,k2,k3⟩:=hE.g0.c3;have hE:=hE.fv oM;have iz:b2<wr.heap.size:=eS
     have e1:((i:Int)-1).toNat=i-1:=by omega
     have i1:(0:Int)<=(i:Int)-1:=by omega
     have i2:(i:Int)-1<(i:Int):=by omega
     have o1:IntKind.i64.wrap ((i:Int)-1)=(i:Int)-1:=by rw[cL];omega
     have i3:S<(nl:Int):=by omega
     have i4:(1:Int)<=(i:Int):=by omega
     have i5:1<=i:=by omega
     have t1:decide ((i:Int)<(i:Int))=false:=aH (by omega)
     obtain⟨v,hv⟩:∃v,v=decide (Q=1):=⟨_,rfl⟩
     have HV:=af hv;clear hv tE oM;replace hE:=((((((hE.at_ aoN c0).at_ iz d0).at_ iz d1).at_ iz d2).at_ iz d3).at_ hE.g1.lt k2).at_ hE.g1.lt k3;clear c0 d0 d1 d2 d3 k1 k2 k3
     go_upto_region 17 with(fail)
     replace hE:=hE.drew
     go_region_held3 (fun w'=>w'.cell? ⟨b,o+(i-1),none⟩=some (.slice (some ⟨b2,o2,none⟩) nl cl)/\w'.cell? ⟨b2,o2+S.toNat*4,none⟩=some (.bool hs)/\w'.cell? ⟨b2,o2+S.toNat*4+1,none⟩=some (.slice hA hn hc)/\w'.cell? ⟨b2,o2+S.toNat*4+2,none⟩=some (.bool ht)/\w'.cell? ⟨b2,o2+S.toNat*4+3,none⟩=some (.slice hD hm hd)/\w'.cell? ⟨w.heap.size,1,none⟩=some (.int .i64 S)/\w'.cell? ⟨w.heap.size,2,none⟩=some (.slice (some ⟨b,o,none⟩) i c))
      (first|exact⟨hE.h6.2,hE.h5.2,hE.h4.2,hE.h3.2,hE.h2.2,hE.g1.2,hE.g0.2⟩|exact⟨hE.h7.2,hE.h6.2,hE.h5.2,hE.h4.2,hE.h3.2,hE.h2.2,hE.g1.2⟩)
      (first
       |(go_at_call 24;refine(bg 1 _ (by decide) (by decide)).mono ?_;rintro e w3 ⟨sp,Ap,np,cp,tp,Bp,mp,dp,rfl,hp,hb⟩;have hpl:=hp.ln jL;replace hE:=(hE.step hb).fv hp;clear hb hp)
       |(go_at_call 155;have hq:=WS (ca:=hc) (da:=hd) (cb:=cp) (db:=dp) hE.h8 hE.g0 iZ.1 iZ.2 (by omega) (by omega);rw[show(((1:Int):Rat))=1 from rfl,<-HV.out] at hq;refine hq.mono ?_;clear hq;rintro e w4 ⟨rfl,hb⟩;replace hE:=hE.step hb;clear hb))
     go_wp2_with fail
     go_ret
     exact⟨v,rfl,by rw[HV.out,oN];exact HTI.out.symm,hE.ax⟩
  ·
   have hno:¬DR F S n r:=fun h=>hn h.2.1
   have HN:=af hno;clear hno t1 t2 t3 t4
   by_cases vu:(n:Int)<1
   ·
    have t5:decide ((n:Int)<1)=true:=aL vu;clear vu hn;go_wp2_with fail
    go_ret
    exact⟨false,rfl,bQ HN.out,hE.ax⟩
   ·
    have t5:decide ((n:Int)<1)=false:=aH vu;have t6:decide ((111:Int)<(n:Int))=true:=aL (by omega);clear hn;go_wp2_with fail
    go_ret
    exact⟨false,rfl,bQ HN.out,hE.ax⟩
 ·
  have hno:¬DR F S n r:=fun h=>hF h.1
  have HN:=af hno;clear hno
  by_cases e1:F<0
  ·
   have t1:=aL e1;clear e1 hF;go_wp2_with fail
   go_ret
   exact⟨false,rfl,bQ HN.out,hE.ax⟩
  ·
   have t1:=aH e1
   by_cases e2:150<F
   ·
    have t2:=aL e2;clear e1 e2 hF;go_wp2_with fail
    go_ret
    exact⟨false,rfl,bQ HN.out,hE.ax⟩
   ·
    have t2:=aH e2
    by_cases e3:S<0
    ·
     have t3:=aL e3;clear e1 e2 e3 hF;go_wp2_with fail
     go_ret
     exact⟨false,rfl,bQ HN.out,hE.ax⟩
    ·
     have t3:=aH e3;have t4:decide (5<S)=true:=aL (by omega);clear e1 e2 e3 hF;go_wp2_with fail
     go_ret
     exact⟨false,rfl,bQ HN.out,hE.ax⟩
end
end Go.Proofs.YtclbiihcbfnjmaaGreat
