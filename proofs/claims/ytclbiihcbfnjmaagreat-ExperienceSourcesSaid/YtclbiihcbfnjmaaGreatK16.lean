/-
  Parts.
-/
import Derived.Test.YtclbiihcbfnjmaaGreatK15
set_option linter.unusedSimpArgs false
set_option maxRecDepth 100000
set_option maxHeartbeats 8000000
namespace Go.Proofs.YtclbiihcbfnjmaaGreat
section
open Go.RowKit

def Grown (B:Nat)(P:World->Prop):Prop:=∀(W W':World) (row:Option Nat),P W->W.grownBy W' row->(∀q,row=some q->B<=q/\∃o:Obj,W.heap[q]?=some o/\o.isCells=false)->P W'
theorem Grown.tt (B:Nat):Grown B (fun _=>True):=fun _ _ _ _ _ _=>trivial
theorem Grown.pure (B:Nat)(p:Prop):Grown B (fun _=>p):=fun _ _ _ h _ _=>h
theorem Grown.and {B:Nat}{P Q:World->Prop}(hP:Grown B P)(hQ:Grown B Q):Grown B (fun W=>P W/\Q W):=fun _ _ _ h hg hr=>⟨hP _ _ _ h.1 hg hr,hQ _ _ _ h.2 hg hr⟩
theorem Grown.ex {B:Nat}{α:Type}{P:α->World->Prop}(hP:∀x,Grown B (P x)):Grown B (fun W=>∃x,P x W):=fun _ _ _ ⟨x,h⟩ hg hr=>⟨x,hP x _ _ _ h hg hr⟩
theorem Grown.blk (B:Nat)(t:TypeId)(g:Nat)(cs:Array Value):Grown B (au t g cs):=fun W W' row h hg hr=>
 (hg.block g h.lt fun e=>by
  obtain⟨_,o,ho,hc⟩:=hr g e.symm;have h2:W.heap[g]?=some (.cells cs t (0,0)):=h;rw[h2] at ho
  cases ho
  cases hc).trans h
theorem Grown.rd (B:Nat)(k:IntKind)(A:Option Addr)(n:Nat)(f:Nat->Nat):Grown B (fun W=>Rd W.heap.size k W A n f):=fun _ _ _ h hg hr h0=>by
 obtain⟨b,o,e,hb,hc⟩:=h h0;exact⟨b,o,e,bY hb hg.size,fun i hi=>cell_kept (hc i hi) hg fun q e=>(hr q e).2⟩
theorem Grown.wv (B:Nat)(z:Int)(s:Bool)(A:Option Addr)(n:Nat):Grown B (fun W=>WV W z s A n):=fun W W' row h hg hr=>⟨h.1,h.2.1,Grown.rd B .u16 A _ _ W W' row h.2.2 hg hr⟩
theorem Grown.fv (B:Nat)(q:Rat)(s:Bool)(A:Option Addr)(n:Nat)(t:Bool)(C:Option Addr)(m:Nat):Grown B (fun W=>FV W q s A n t C m):=(Grown.wv B _ _ _ _).and (Grown.wv B _ _ _ _)
theorem Grown.ax {B:Nat}{w:World}(hB:w.heap.size<=B):Grown B (Below w.heap.size w):=fun _ _ _ h hg hr=>h.grown hg h.size fun q e=>ay hB (hr q e).1
theorem Grown.env {B:Nat}{w:World}{P:World->Prop}(hB:w.heap.size<=B)(hP:Grown B P):Grown B (Env w P):=fun W W' row h hg hr=>⟨Grown.ax hB W W' row h.ax hg hr,h.st,hP W W' row h.here hg hr⟩
theorem Grown.size (B j:Nat):Grown B (fun W=>j<W.heap.size):=fun _ _ _ h hg _=>bY h hg.size
theorem BU {f:Nat->Rat}{M:Nat}(h:f M=1):∀k,M<k->pr f k=0
 |0,hk=>by omega
 |k+1,hk=>by
  by_cases e:M=k
  ·
   subst e;simp only[pr];rw[h]
   grind
  ·
   simp only[pr];rw[BU h k (by omega)]
   grind
end
section
open Go.RowKit

theorem oD {W W':World}(hb:Below W.heap.size W W'):W.grownBy W' none:=⟨hb.os,hb.tape,hb.output,hb.size,fun k hk _=>hb.block k hk⟩
theorem lM (W:World)(g i:Nat)(u:Value):W.grownBy (W.setCell ⟨g,i,none⟩ u) (some g):=
 ⟨rfl,rfl,rfl,by rw[ke];exact aq _,fun k _ hne=>dL W ⟨g,i,none⟩ u k (fun e=>hne (gn some e))⟩
theorem uB.grown {n₀ Bs:Nat}{W W':World}{row:Option Nat}(hn:n₀<=W.heap.size)(hs:Bs<W.heap.size)(hg:W.grownBy W' row)(hr:∀q,row=some q->n₀<=q/\q≠Bs):uB n₀ Bs W W':=
 ⟨(aU _ W).grown hg hn fun q e=>(hr q e).1,hg.block Bs hs fun e=>(hr Bs e.symm).2 rfl⟩
structure Trail (B n₀ Bs:Nat)(W0 V:World):Prop where
 keeps:KeepsFrom B W0 V
 kp:uB n₀ Bs W0 V
 hs:Bs<V.heap.size
 hn:n₀<=V.heap.size
section
variable {B n₀ Bs:Nat} {W0 V V':World}
theorem Trail.refl (W0:World)(hs:Bs<W0.heap.size)(hn:n₀<=W0.heap.size):Trail B n₀ Bs W0 W0:=⟨KeepsFrom.refl _ _,⟨aU _ _,rfl⟩,hs,hn⟩
theorem Trail.grown (h:Trail B n₀ Bs W0 V){row:Option Nat}(hg:V.grownBy V' row)(hr:∀q,row=some q->n₀<=q/\q≠Bs/\q<B):Trail B n₀ Bs W0 V':=
 ⟨h.keeps.trans (KeepsFrom.of_grownBy hg fun q e=>(hr q e).2.2),h.kp.t (uB.grown h.hn h.hs hg fun q e=>⟨(hr q e).1,(hr q e).2.1⟩),bY h.hs hg.size,ay h.hn hg.size⟩
theorem Trail.step (h:Trail B n₀ Bs W0 V)(hb:Below V.heap.size V V'):Trail B n₀ Bs W0 V':=h.grown (oD hb) (fun _ e=>by cases e)
theorem Trail.stable (B n₀ Bs:Nat)(W0:World):ck (Trail B n₀ Bs W0):=fun _ _ hb h=>h.step hb
theorem Trail.set (h:Trail B n₀ Bs W0 V){P:Nat}(hp:n₀<=P/\P≠Bs/\P<B)(i:Nat)(u:Value):Trail B n₀ Bs W0 (V.setCell ⟨P,i,none⟩ u):=h.grown (lM V P i u) (fun q e=>by cases e;exact hp)
theorem Trail.cQ (h:Trail B n₀ Bs W0 V){P:Nat}(hp:n₀<=P/\P≠Bs/\P<B)(a b c d:Value):Trail B n₀ Bs W0 ((((V.setCell ⟨P,0,none⟩ a).setCell ⟨P,1,none⟩ b).setCell ⟨P,2,none⟩ c).setCell ⟨P,3,none⟩ d):=
 (((h.set hp 0 a).set hp 1 b).set hp 2 c).set hp 3 d
end
theorem Env.trail {w W W0:World}{P:World->Prop}{B n₀ Bs:Nat}(h:Env w P W)(ht:Trail B n₀ Bs W0 W):Env w (fun V=>P V/\Trail B n₀ Bs W0 V) W:=h.and (Trail.stable _ _ _ _) ht
theorem yM {F S E Y:Int}{n:Nat}{r:Nat->RH}(hR:dH F S n r E Y):∃M:Nat,M<=111/\(∀k:Nat,k<M->E+Y+(k:Int)<=F+(n:Int)-1)/\F+(n:Int)-1<E+Y+(M:Int)/\rt F S n r E Y (M:Int)=1:=by
 obtain⟨ht,r1,r2,r3,r4⟩:=hR;obtain⟨n1,n2⟩:1<=n/\n<=111:=⟨ht.2.1.1,ht.2.1.2⟩;refine⟨(F+n-(E+Y)).toNat,by omega,fun k hk=>by omega,by omega, ?_⟩;unfold rt;rw[if_pos (by omega)]
theorem au.c1 {w:World}{g:Nat}{t:TypeId}{a:Value}(h:au t g #[a] w):w.cell? ⟨g,0,none⟩=some a:=h.cell 0
def rG (w:World)(k:Nat)(Pn Pr Pp:Nat)(q:Rat)(W:World):Prop:=
 ∃s A n c t C m d,Env w (fun V=>(((True/\au 3 Pn #[.int .i64 (k:Int)] V)/\au 29 Pr aW V)/\FV V q s A n t C m)/\au 29 Pp (az s A n c t C m d) V) W
theorem rG.grown {w:World}{B:Nat}(hB:w.heap.size<=B)(k Pn Pr Pp:Nat)(q:Rat):Grown B (rG w k Pn Pr Pp q):=fun W W' row ⟨s,A,n,c,t,C,m,d,h⟩ hg hr=>
 ⟨s,A,n,c,t,C,m,d,Grown.env hB ((((Grown.tt B).and (Grown.blk _ _ _ _)).and (Grown.blk _ _ _ _)).and (Grown.fv _ _ _ _ _ _ _ _)|>.and (Grown.blk _ _ _ _)) W W' row h hg hr⟩
theorem rG.step {w W W':World}{k Pn Pr Pp:Nat}{q:Rat}(h:rG w k Pn Pr Pp q W)(hb:Below W.heap.size W W'):rG w k Pn Pr Pp q W':=by
 obtain⟨s,A,n,c,t,C,m,d,h⟩:=h;exact⟨s,A,n,c,t,C,m,d,h.step hb⟩
def AAx (f:Nat->Rat)(Pp:Nat)(mk:Nat->Value->Value->Act)(pre:List Yr)(x:Yr)(a:Act)(W:World):Prop:=
 x.k=pre.length/\∃g,a=mk g (.int .i64 (x.k:Int)) (.agg (az x.s x.A x.n x.c x.t x.B x.m x.d))/\Pp<g/\g<W.heap.size/\FV W (f x.k) x.s x.A x.n x.t x.B x.m/\au 29 g (az x.s x.A x.n x.c x.t x.B x.m x.d) W
theorem AAx.grown {B Pp:Nat}{f:Nat->Rat}{mk:Nat->Value->Value->Act}{pre:List Yr}{x:Yr}{a:Act}:Grown B (fun W=>AAx f Pp mk pre x a W):=
 (Grown.pure B _).and (Grown.ex fun g=>(Grown.pure B _).and ((Grown.pure B _).and ((Grown.size B g).and ((Grown.fv B _ _ _ _ _ _ _).and (Grown.blk B _ _ _)))))
theorem yN {W:World}{R D:Nat}(h:D≠R)(a b c d:Value):((((W.setCell ⟨R,0,none⟩ a).setCell ⟨R,1,none⟩ b).setCell ⟨R,2,none⟩ c).setCell ⟨R,3,none⟩ d).heap[D]?=W.heap[D]?:=
 (((dL _ ⟨R,3,none⟩ d D h).trans (dL _ ⟨R,2,none⟩ c D h)).trans (dL _ ⟨R,1,none⟩ b D h)).trans (dL _ ⟨R,0,none⟩ a D h)
def Dfr (D:Nat)(W:World):Prop:=W.heap[D]?=some (.deferred (some []))
theorem Dfr.stable (D:Nat):ck (Dfr D):=fun _ _ hb h=>(hb.block D (Array.getElem?_eq_some_iff.1 h).1).trans h
theorem Env.Ya {w W:World}{P:World->Prop}{D:Nat}(h:Env w P W)(hD:W.heap[D]?=some (.deferred (some []))):Env w (fun V=>P V/\Dfr D V) W:=h.and (Dfr.stable D) hD
theorem wE {w V:World}{R D:Nat}{T:TypeId}{q:Rat}{s t:Bool}{A C:Option Addr}{n c m d:Nat}(hB:au T R (az s A n c t C m d) V)(hV:FV V q s A n t C m)(hb:Below w.heap.size w V)(hD:w.heap.size<=D)(hne:D≠R)(hK:V.heap[D]?=some (.deferred (some [])))(o':Obj):
  au T R (az s A n c t C m d) (V.putObj D o')/\FV (V.putObj D o') q s A n t C m/\Below w.heap.size w (V.putObj D o'):=
 ⟨(rD (Ne.symm hne)).trans hB,Grown.fv 0 _ _ _ _ _ _ _ V _ (some D) hV (grownBy_putObj' V D o') (fun q e=>by cases e;exact⟨bF _,_,hK,rfl⟩),hb.trans (belowK_b (w:=w) (aq _) V D _ _ hD hK rfl rfl)⟩
end
section
open Go.RowKit Go.Shelf
attribute [local go_sem] Oper.semAt_some

end
section
open Go.RowKit Go.Shelf
attribute [local go_sem] Oper.semAt_some

theorem Ss {F S E Y:Int}{A:Option Addr}{n c:Nat}{r:Nat->RH}{w:World}(hT:eZ w A n r)(hR:dH F S n r E Y)(k:Nat)(hk:k<=9223372036854775807):
  Calls Tryz.prog 167 #[.agg #[.int .i64 F,.int .i64 S,.slice A n c,.int .i64 E,.int .i64 Y],.int .i64 (k:Int)] w (FR (pr (fun i=>rt F S n r E Y (i:Int)) k) w):=by
 obtain⟨M,hM,Cu,hMb,hM1⟩:=yM hR
 have aak:=fun(Bs n0:Nat) (h0:w.heap.size<=n0) (W:World) (hb:Below w.heap.size w W) (Hf:au 106 Bs #[.int .i64 F,.int .i64 S,.slice A n c,.int .i64 E,.int .i64 Y] W)=>LS (5-1) (by decide) Bs n0 h0 hT hR M (by omega) Cu hMb W hb Hf
 have aiR:=iB hT hR 200
 generalize hf:(fun i:Nat=>rt F S n r E Y (i:Int))=f at*
 have hfM:f M=1:=by rw[<-hf];exact hM1
 refine(cG (n:=5)).1 ?_;have hro:Fence.wide.round=none:=rfl;refine callsIn_of_wp_marks Tryz.func167 rfl trivial ?_ hro;simp only[Tryz.ntmps167,List.size_toArray,List.length_cons,List.length_nil,Nat.reduceAdd,Nat.reduceSub,Array.replicate_succ,Array.replicate_zero,List.push_toArray,List.append_toArray,List.nil_append,List.cons_append];have hE:=(((Env.start w).blk 106 #[.int .i64 F,.int .i64 S,.slice A n c,.int .i64 E,.int .i64 Y] (g:=w.heap.size) rfl).blk 3 #[.int .i64 (k:Int)] (g:=w.heap.size+1) (by simp)).blk 29 aW (g:=w.heap.size+1+1) (by simp)
 obtain⟨W0,aC⟩:∃W0,W0=(((w.alloc (.cells #[.int .i64 F,.int .i64 S,.slice A n c,.int .i64 E,.int .i64 Y] 106)).alloc (.cells #[.int .i64 (k:Int)] 3)).alloc (.cells aW 29)):=⟨_,rfl⟩
 rw[<-aC] at hE;have aZ:=af aC;clear aC;have Co:=af hT;clear hT;have FJ:=af hR;clear hR;have HhM:=af hM;clear hM;have asT:=af Cu;clear Cu;have asU:=af hMb;clear hMb;have asV:=af hM1;clear hM1;have YW:=af hf;clear hf;have aiS:=af hfM;clear hfM;have JW:=af aiR;clear aiR;have Hhk:=af hk;clear hk;have adY:=af aak;clear aak
 gi_wp2
 rw[<-aZ.out];refine⟨trivial,(cG.2 (bg 1 _ (by decide) (by decide))).mono ?_⟩
 rintro e w1 ⟨sp,Ap,np,cp,tp,Bp,mp,dp,rfl,hp,hb⟩
 replace hE:=(hE.step hb).fv hp;clear hb hp;have hE1:=hE.blk 29 (az sp Ap np cp tp Bp mp dp) (g:=w1.heap.size) rfl;obtain⟨k1,k2,k3,k4,k5⟩:=(hE1.here.1.1.1.1.2).c5;clear hE1;have hPl:w.heap.size+1+1<w1.heap.size:=(hE.g1).lt
 gi_wp2
 refine⟨trivial,(Sr 4 F S E Y A n c _).mono ?_⟩
 rintro e w2 ⟨rfl,rfl⟩
 gi_wp2
 clear k1 k2 k3 k4 k5;have hE:=(hE.blk 29 (az sp Ap np cp tp Bp mp dp) (g:=w1.heap.size) rfl).blk 106 #[.int .i64 F,.int .i64 S,.slice A n c,.int .i64 E,.int .i64 Y] (g:=w1.heap.size+1) (by simp);have hb:=hE.g0;generalize hPp:w1.heap.size=Pp at hE hPl⊢
 have hsz:((w1.alloc (.cells (az sp Ap np cp tp Bp mp dp) 29)).alloc (.cells #[.int .i64 F,.int .i64 S,.slice A n c,.int .i64 E,.int .i64 Y] 106)).heap.size=Pp+2:=by simp[hPp]
 generalize (w1.alloc (.cells (az sp Ap np cp tp Bp mp dp) 29)).alloc (.cells #[.int .i64 F,.int .i64 S,.slice A n c,.int .i64 E,.int .i64 Y] 106)=Wr at hE hsz⊢;clear hb hPp
 have hsw:w.heap.size<=Wr.heap.size:=by omega
 refine adR hro (by decide) (gf:= 186) (lb:=#[.pointer (some ⟨Pp+1,0,none⟩)]) rfl trivial (enters_of Tryz.func186 (by kernel_rfl) rfl)
  (adY.out (Pp+1) w.heap.size (aq _) Wr hE.ax hE.g0) uB.t (uB.b hsw (by omega)) (aU _ _) (fun _=>rfl)
  (fun pre W=>(rG w k (w.heap.size+1) (w.heap.size+1+1) Pp (pr f pre.length) W/\Pp+1<W.heap.size)/\pre.length<=k) (fun c _ W=>c= .exit 0/\rG w k (w.heap.size+1) (w.heap.size+1+1) Pp (pr f k) W)
  (fun s W W' row h hg hr=>⟨⟨rG.grown hsw k (w.heap.size+1) (w.heap.size+1+1) Pp _ W W' row h.1.1 hg hr,bY h.1.2 hg.size⟩,h.2⟩) (fun c s W W' row h hg hr=>⟨h.1,rG.grown hsw k (w.heap.size+1) (w.heap.size+1+1) Pp (pr f k) W W' row h.2 hg hr⟩)
  ⟨⟨⟨_,_,_,_,_,_,_,_,((((Env.again hE.ax).ag (hE.h4)).ag (hE.h3)).fv (hE.h2)).ag (hE.g1)⟩,by omega⟩,bF _⟩
  (AAx f Pp (fun g yv rv=>{tmps:=#[.agg #[.int .i64 F,.int .i64 S,.slice A n c,.int .i64 E,.int .i64 Y],.int .i64 (k:Int),.pointer (some ⟨w.heap.size,0,none⟩),.pointer (some ⟨w.heap.size+1,0,none⟩),.pointer (some ⟨w.heap.size+1+1,0,none⟩),.pointer (some ⟨Pp,0,none⟩),yv,.pointer (some ⟨g,0,none⟩),.agg (az sp Ap np cp tp Bp mp dp),.agg #[.int .i64 F,.int .i64 S,.slice A n c,.int .i64 E,.int .i64 Y],.func (.func 186) #[] #[.pointer (some ⟨Pp+1,0,none⟩)],yv,rv,undef,undef,undef,undef,undef,undef,undef,undef],defers:=[]})) (fun pre x a'=>fun _ W W' row h hg hr=>AAx.grown W W' row h hg hr) ?assign ?body ?done ?stop
 case assign=>
  rintro l pre ⟨xk,xs,xA,xn,xc,xt,xB,xm,xd⟩ W K ⟨⟨hI,Hf⟩,hlk⟩ ⟨hxk,hxf⟩ hK
  dsimp only at hxk hxf
  subst hxk;have hIa:=rG.step hI ((aU W.heap.size W).alloc (aq _) (.cells (az xs xA xn xc xt xB xm xd) 29))
  have hkf:=(KeepsOthers.alloc W (.cells (az xs xA xn xc xt xB xm xd) 29)).from Wr.heap.size
  have hwl:w.heap.size<=W.heap.size:=by obtain⟨_,_,_,_,_,_,_,_,h⟩:=hI;exact h.ax.size
  have hkp:uB w.heap.size (Pp+1) W (W.alloc (.cells (az xs xA xn xc xt xB xm xd) 29)):=uB.grown hwl Hf (World.grownBy_alloc W _ none) (fun _ e=>by cases e);have qJ:=hxf.below ((aU W.heap.size W).alloc (aq _) (.cells (az xs xA xn xc xt xB xm xd) 29));have hba:=au.new W 29 (az xs xA xn xc xt xB xm xd)
  have eR:=fun a hax=>hK a _ hkf hkp ⟨⟨hIa,by simp;omega⟩,hlk⟩ ⟨rfl,W.heap.size,hax,by omega,by simp,qJ,hba⟩
  have HF:=af eR;clear eR hK hIa hkf hkp qJ hba hI hxf
  dsimp only[Yr.vals]
  gi_wp2
  exact HF.out _ rfl
 case body=>
  rintro l pre ⟨xk,xs,xA,xn,xc,xt,xB,xm,xd⟩ a' W ⟨⟨⟨sq,Aq,nq,cq,tq,Bq,mq,dq,hE⟩,Hf⟩,hlk⟩ ⟨hxk,g,rfl,Uo,zX,hxf,jw⟩ hlen
  dsimp only at hxk hxf jw
  subst hxk;have hE:=((hE.fv hxf).ag jw).trail (Trail.refl (B:=Wr.heap.size) (n₀:=w.heap.size) (Bs:=Pp+1) W Hf hE.ax.size);clear hxf jw
  have hmx: Tryz.prog.follows .mixedOrders=true:=by kernel_rfl
  have hM:=HhM.out;have lq:fl (pr f pre.length)<=256:=ay (aag JW.out (show pre.length<=200 by omega)) (by omega);have lx:fl (f pre.length)<=256:=ay (zj JW.out (show pre.length<200 by omega)) (by decide);have lo:fl (1-f pre.length)<=256:=ay (RV JW.out (show pre.length<200 by omega)) (by decide);have lr:fl (pr f pre.length*(1-f pre.length))<=256:=ay (aag (k:=pre.length+1) JW.out (show pre.length+1<=200 by omega)) (by omega)
  have JX:(pre++ [Yr.mk pre.length xs xA xn xc xt xB xm xd]).length=pre.length+1:=by simp
  clear hM
  by_cases he:pre.length=k
  ·
   have t1:((pre.length:Int)==(k:Int))=true:=by rw[beq_iff_eq];omega
   have HE:=af he;clear he;have LU:=af lq;clear lq;have LV:=af lx;clear lx;have uC:=af lo;clear lo;have LW:=af lr;clear lr;have qy:=af JX;clear JX;have k0:=(hE.h6).c1
   gi_wp2
   have hI2:rG w k (w.heap.size+1) (w.heap.size+1+1) Pp (pr f pre.length) W:=⟨_,_,_,_,_,_,_,_,((((Env.again hE.ax).ag (hE.h6)).ag (hE.h5)).fv (hE.h4)).ag (hE.h3)⟩;rw[HE.out] at hI2;exact⟨KeepsFrom.refl _ _,rfl,hI2⟩
  ·
   have t1:((pre.length:Int)==(k:Int))=false:=by rw[gh];omega
   have HE:=af he;clear he;have LU:=af lq;clear lq;have LV:=af lx;clear lx;have uC:=af lo;clear lo;have LW:=af lr;clear lr;have qy:=af JX;clear JX;have k0:=(hE.h6).c1
   gi_wp2
   clear k0 t1;refine wpIn_region_any (by assumption) ?_;replace hE:=hE.drew;change wpAnyIn _ _ _ _ _ _ _ _ _ (W.drew);generalize W.drew=wd at hE⊢;refine cI (rs:=[0,1]) (by kernel_rfl) (by simp) ?_;refine bD rfl (fun K hK=> ?_) ?_
   ·
    obtain⟨k1,k2,k3,k4⟩:=(hE.h3).c4;obtain⟨k5,k6,k7,k8⟩:=(hE.g1).c4;go_simp;refine hK _ _ ?_;clear hK K;try simp only[PL]
    clear k1 k2 k3 k4 k5 k6 k7 k8;refine cI (rs:=[1]) (by kernel_rfl) (by simp) ?_;refine bD rfl (fun K hK=> ?_) ?_
    ·
     obtain⟨k9,fU,dX,dY⟩:=(hE.h3).c4;obtain⟨eu,eF,iA,kz⟩:=(hE.g1).c4;go_simp;refine hK _ _ ?_;clear hK K;try simp only[PL]
     clear k9 fU dX dY eu eF iA kz;refine cI (rs:=[2]) (by kernel_rfl) (by simp) ?_;refine bD rfl (fun K hK=> ?_) ?_
     ·
      go_simp;skip
      first|refine⟨trivial,fun _=>by omega,(eC l (cG.2 (fE (ca:=xc) (da:=xd) hE.h2 LV.out uC.out))).mono ?_⟩|refine⟨trivial,(eC l (cG.2 (fE (ca:=xc) (da:=xd) hE.h2 LV.out uC.out))).mono ?_⟩|refine⟨trivial,trivial,(eC l (cG.2 (fE (ca:=xc) (da:=xd) hE.h2 LV.out uC.out))).mono ?_⟩|refine⟨trivial,trivial,fun _=>by omega,(eC l (cG.2 (fE (ca:=xc) (da:=xd) hE.h2 LV.out uC.out))).mono ?_⟩
      rintro e Gc ⟨so,Ao,no,co,ti,Bo,mo,JY,rfl,ho,hb⟩
      replace hE:=hE.step hb;clear hb;replace hE:=hE.fv ho;clear ho;refine hK _ _ ?_;clear hK K;try simp only[PL]
      refine cI (rs:=[3]) (by kernel_rfl) (by simp) ?_;refine bD rfl (fun K hK=> ?_) ?_
      ·
       go_simp;skip
       first|refine⟨trivial,fun _=>by omega,(eC l (cG.2 (fD (ca:=cq) (da:=dq) (cb:=co) (db:=JY) hE.h5 hE.g0 LU.out uC.out LW.out))).mono ?_⟩|refine⟨trivial,(eC l (cG.2 (fD (ca:=cq) (da:=dq) (cb:=co) (db:=JY) hE.h5 hE.g0 LU.out uC.out LW.out))).mono ?_⟩|refine⟨trivial,trivial,(eC l (cG.2 (fD (ca:=cq) (da:=dq) (cb:=co) (db:=JY) hE.h5 hE.g0 LU.out uC.out LW.out))).mono ?_⟩|refine⟨trivial,trivial,fun _=>by omega,(eC l (cG.2 (fD (ca:=cq) (da:=dq) (cb:=co) (db:=JY) hE.h5 hE.g0 LU.out uC.out LW.out))).mono ?_⟩
       rintro e TL ⟨sz,Az,nz,cz,tz,Bz,mz,dz,rfl,hz,hb⟩
       replace hE:=hE.step hb;clear hb;replace hE:=hE.fv hz;clear hz;refine hK _ _ ?_;clear hK K;try simp only[PL]
       refine cI (rs:=[4]) (by kernel_rfl) (by simp) ?_;refine bD rfl (fun K hK=> ?_) ?_
       ·
        have DF:w.heap.size<=Pp:=by omega
        obtain⟨Py,Pz,PB,PD⟩:=(hE.h5).c4;obtain⟨PE,PF,PG,PI⟩:=hE.h5.f4;replace hE:=((((((((((Env.again (bW hE.ax DF (.bool sz) (.slice Az nz cz) (.bool tz) (.slice Bz mz dz))).ag ((hE.h8).aj (by omega) _ _ _ _)).ag ((hE.h7).aj (by omega) _ _ _ _)).fv ((hE.h6).ak hE.h5 rfl _ _ _ _ rfl rfl rfl)).ag ((hE.h5).s4 _ _ _ _)).fv ((hE.h4).ak hE.h5 rfl _ _ _ _ rfl rfl rfl)).ag ((hE.h3).aj (by omega) _ _ _ _)).trail ((hE.h2).cQ ⟨by omega,by omega,by omega⟩ _ _ _ _)).fv ((hE.g1).ak hE.h5 rfl _ _ _ _ rfl rfl rfl)).fv ((hE.g0).ak hE.h5 rfl _ _ _ _ rfl rfl rfl));go_simp;clear Py Pz PB PD PE PF PG PI DF;generalize ((((TL.setCell ⟨Pp,0,none⟩ (.bool sz)).setCell ⟨Pp,1,none⟩ (.slice Az nz cz)).setCell ⟨Pp,2,none⟩ (.bool tz)).setCell ⟨Pp,3,none⟩ (.slice Bz mz dz))=ZE at hE⊢;refine hK _ _ ?_;clear hK K;try simp only[PL]
        refine gE (by kernel_rfl) ?_ _;refine⟨(hE.h2).keeps,(hE.h2).kp,⟨?_,(hE.h2).hs⟩, ?_⟩
        ·
         show rG _ _ _ _ _ (pr f (pre++ [Yr.mk pre.length xs xA xn xc xt xB xm xd]).length) _;rw[qy.out];exact⟨_,_,_,_,_,_,_,_,((((Env.again hE.ax).ag (hE.h8)).ag (hE.h7)).fv (hE.g0)).ag (hE.h5)⟩
        ·
         show(pre++ [Yr.mk pre.length xs xA xn xc xt xB xm xd]).length<=k;rw[qy.out];have:=HE.out;omega
       exact cJ
      exact cJ
     exact cJ
    exact cJ
   refine bD rfl (fun K hK=> ?_) ?_
   ·
    obtain⟨kB,lV,lW,nC⟩:=(hE.h3).c4;obtain⟨rP,pU,nQ,qH⟩:=(hE.g1).c4;go_simp;refine hK _ _ ?_;clear hK K;try simp only[PL]
    clear kB lV lW nC rP pU nQ qH;refine cI (rs:=[0,2]) (by kernel_rfl) (by simp) ?_;refine bD rfl (fun K hK=> ?_) ?_
    ·
     obtain⟨pM,Fy,wW,uG⟩:=(hE.h3).c4;obtain⟨tC,tD,Oo,Un⟩:=(hE.g1).c4;go_simp;refine hK _ _ ?_;clear hK K;try simp only[PL]
     clear pM Fy wW uG tC tD Oo Un;refine cI (rs:=[2]) (by kernel_rfl) (by simp) ?_;refine bD rfl (fun K hK=> ?_) ?_
     ·
      go_simp;skip
      first|refine⟨trivial,fun _=>by omega,(eC l (cG.2 (fE (ca:=xc) (da:=xd) hE.h2 LV.out uC.out))).mono ?_⟩|refine⟨trivial,(eC l (cG.2 (fE (ca:=xc) (da:=xd) hE.h2 LV.out uC.out))).mono ?_⟩|refine⟨trivial,trivial,(eC l (cG.2 (fE (ca:=xc) (da:=xd) hE.h2 LV.out uC.out))).mono ?_⟩|refine⟨trivial,trivial,fun _=>by omega,(eC l (cG.2 (fE (ca:=xc) (da:=xd) hE.h2 LV.out uC.out))).mono ?_⟩
      rintro e w36 ⟨so,Ao,no,co,ti,Bo,mo,JY,rfl,ho,hb⟩
      replace hE:=hE.step hb;clear hb;replace hE:=hE.fv ho;clear ho;refine hK _ _ ?_;clear hK K;try simp only[PL]
      refine cI (rs:=[3]) (by kernel_rfl) (by simp) ?_;refine bD rfl (fun K hK=> ?_) ?_
      ·
       go_simp;skip
       first|refine⟨trivial,fun _=>by omega,(eC l (cG.2 (fD (ca:=cq) (da:=dq) (cb:=co) (db:=JY) hE.h5 hE.g0 LU.out uC.out LW.out))).mono ?_⟩|refine⟨trivial,(eC l (cG.2 (fD (ca:=cq) (da:=dq) (cb:=co) (db:=JY) hE.h5 hE.g0 LU.out uC.out LW.out))).mono ?_⟩|refine⟨trivial,trivial,(eC l (cG.2 (fD (ca:=cq) (da:=dq) (cb:=co) (db:=JY) hE.h5 hE.g0 LU.out uC.out LW.out))).mono ?_⟩|refine⟨trivial,trivial,fun _=>by omega,(eC l (cG.2 (fD (ca:=cq) (da:=dq) (cb:=co) (db:=JY) hE.h5 hE.g0 LU.out uC.out LW.out))).mono ?_⟩
       rintro e w37 ⟨sz,Az,nz,cz,tz,Bz,mz,dz,rfl,hz,hb⟩
       replace hE:=hE.step hb;clear hb;replace hE:=hE.fv hz;clear hz;refine hK _ _ ?_;clear hK K;try simp only[PL]
       refine cI (rs:=[4]) (by kernel_rfl) (by simp) ?_;refine bD rfl (fun K hK=> ?_) ?_
       ·
        have CB:w.heap.size<=Pp:=by omega
        obtain⟨MP,MQ,MR,MS⟩:=(hE.h5).c4;obtain⟨MT,MU,MV,MW⟩:=hE.h5.f4;replace hE:=((((((((((Env.again (bW hE.ax CB (.bool sz) (.slice Az nz cz) (.bool tz) (.slice Bz mz dz))).ag ((hE.h8).aj (by omega) _ _ _ _)).ag ((hE.h7).aj (by omega) _ _ _ _)).fv ((hE.h6).ak hE.h5 rfl _ _ _ _ rfl rfl rfl)).ag ((hE.h5).s4 _ _ _ _)).fv ((hE.h4).ak hE.h5 rfl _ _ _ _ rfl rfl rfl)).ag ((hE.h3).aj (by omega) _ _ _ _)).trail ((hE.h2).cQ ⟨by omega,by omega,by omega⟩ _ _ _ _)).fv ((hE.g1).ak hE.h5 rfl _ _ _ _ rfl rfl rfl)).fv ((hE.g0).ak hE.h5 rfl _ _ _ _ rfl rfl rfl));go_simp;clear MP MQ MR MS MT MU MV MW CB;generalize ((((w37.setCell ⟨Pp,0,none⟩ (.bool sz)).setCell ⟨Pp,1,none⟩ (.slice Az nz cz)).setCell ⟨Pp,2,none⟩ (.bool tz)).setCell ⟨Pp,3,none⟩ (.slice Bz mz dz))=W38 at hE⊢;refine hK _ _ ?_;clear hK K;try simp only[PL]
        refine gE (by kernel_rfl) ?_ _;refine⟨(hE.h2).keeps,(hE.h2).kp,⟨?_,(hE.h2).hs⟩, ?_⟩
        ·
         show rG _ _ _ _ _ (pr f (pre++ [Yr.mk pre.length xs xA xn xc xt xB xm xd]).length) _;rw[qy.out];exact⟨_,_,_,_,_,_,_,_,((((Env.again hE.ax).ag (hE.h8)).ag (hE.h7)).fv (hE.g0)).ag (hE.h5)⟩
        ·
         show(pre++ [Yr.mk pre.length xs xA xn xc xt xB xm xd]).length<=k;rw[qy.out];have:=HE.out;omega
       exact cJ
      exact cJ
     exact cJ
    refine bD rfl (fun K hK=> ?_) ?_
    ·
     go_simp;skip
     first|refine⟨trivial,fun _=>by omega,(eC l (cG.2 (fE (ca:=xc) (da:=xd) hE.h2 LV.out uC.out))).mono ?_⟩|refine⟨trivial,(eC l (cG.2 (fE (ca:=xc) (da:=xd) hE.h2 LV.out uC.out))).mono ?_⟩|refine⟨trivial,trivial,(eC l (cG.2 (fE (ca:=xc) (da:=xd) hE.h2 LV.out uC.out))).mono ?_⟩|refine⟨trivial,trivial,fun _=>by omega,(eC l (cG.2 (fE (ca:=xc) (da:=xd) hE.h2 LV.out uC.out))).mono ?_⟩
     rintro e w39 ⟨so,Ao,no,co,ti,Bo,mo,JY,rfl,ho,hb⟩
     replace hE:=hE.step hb;clear hb;replace hE:=hE.fv ho;clear ho;refine hK _ _ ?_;clear hK K;try simp only[PL]
     refine cI (rs:=[0]) (by kernel_rfl) (by simp) ?_;refine bD rfl (fun K hK=> ?_) ?_
     ·
      obtain⟨Cq,Fz,Iw,zl⟩:=(hE.h4).c4;obtain⟨CC,zm,CM,Ky⟩:=(hE.h2).c4;go_simp;refine hK _ _ ?_;clear hK K;try simp only[PL]
      clear Cq Fz Iw zl CC zm CM Ky;refine cI (rs:=[3]) (by kernel_rfl) (by simp) ?_;refine bD rfl (fun K hK=> ?_) ?_
      ·
       go_simp;skip
       first|refine⟨trivial,fun _=>by omega,(eC l (cG.2 (fD (ca:=cq) (da:=dq) (cb:=co) (db:=JY) hE.h5 hE.g0 LU.out uC.out LW.out))).mono ?_⟩|refine⟨trivial,(eC l (cG.2 (fD (ca:=cq) (da:=dq) (cb:=co) (db:=JY) hE.h5 hE.g0 LU.out uC.out LW.out))).mono ?_⟩|refine⟨trivial,trivial,(eC l (cG.2 (fD (ca:=cq) (da:=dq) (cb:=co) (db:=JY) hE.h5 hE.g0 LU.out uC.out LW.out))).mono ?_⟩|refine⟨trivial,trivial,fun _=>by omega,(eC l (cG.2 (fD (ca:=cq) (da:=dq) (cb:=co) (db:=JY) hE.h5 hE.g0 LU.out uC.out LW.out))).mono ?_⟩
       rintro e w48 ⟨sz,Az,nz,cz,tz,Bz,mz,dz,rfl,hz,hb⟩
       replace hE:=hE.step hb;clear hb;replace hE:=hE.fv hz;clear hz;refine hK _ _ ?_;clear hK K;try simp only[PL]
       refine cI (rs:=[4]) (by kernel_rfl) (by simp) ?_;refine bD rfl (fun K hK=> ?_) ?_
       ·
        have aal:w.heap.size<=Pp:=by omega
        obtain⟨aiT,aiU,aiV,aiW⟩:=(hE.h5).c4;obtain⟨aiX,aiY,aiZ,ai0⟩:=hE.h5.f4;replace hE:=((((((((((Env.again (bW hE.ax aal (.bool sz) (.slice Az nz cz) (.bool tz) (.slice Bz mz dz))).ag ((hE.h8).aj (by omega) _ _ _ _)).ag ((hE.h7).aj (by omega) _ _ _ _)).fv ((hE.h6).ak hE.h5 rfl _ _ _ _ rfl rfl rfl)).ag ((hE.h5).s4 _ _ _ _)).fv ((hE.h4).ak hE.h5 rfl _ _ _ _ rfl rfl rfl)).ag ((hE.h3).aj (by omega) _ _ _ _)).trail ((hE.h2).cQ ⟨by omega,by omega,by omega⟩ _ _ _ _)).fv ((hE.g1).ak hE.h5 rfl _ _ _ _ rfl rfl rfl)).fv ((hE.g0).ak hE.h5 rfl _ _ _ _ rfl rfl rfl));go_simp;clear aiT aiU aiV aiW aiX aiY aiZ ai0 aal;generalize ((((w48.setCell ⟨Pp,0,none⟩ (.bool sz)).setCell ⟨Pp,1,none⟩ (.slice Az nz cz)).setCell ⟨Pp,2,none⟩ (.bool tz)).setCell ⟨Pp,3,none⟩ (.slice Bz mz dz))=W49 at hE⊢;refine hK _ _ ?_;clear hK K;try simp only[PL]
        refine gE (by kernel_rfl) ?_ _;refine⟨(hE.h2).keeps,(hE.h2).kp,⟨?_,(hE.h2).hs⟩, ?_⟩
        ·
         show rG _ _ _ _ _ (pr f (pre++ [Yr.mk pre.length xs xA xn xc xt xB xm xd]).length) _;rw[qy.out];exact⟨_,_,_,_,_,_,_,_,((((Env.again hE.ax).ag (hE.h8)).ag (hE.h7)).fv (hE.g0)).ag (hE.h5)⟩
        ·
         show(pre++ [Yr.mk pre.length xs xA xn xc xt xB xm xd]).length<=k;rw[qy.out];have:=HE.out;omega
       exact cJ
      exact cJ
     exact cJ
    exact cJ
   exact cJ
 case done=>
  rintro D ys W hD hS ⟨⟨hI,Hf⟩,hlk⟩ hK
  have hz:pr f ys.length=pr f k:=by
   rw[hS.length] at hlk⊢;rw[BU aiS.out (M+1) (by omega),BU aiS.out k (by omega)]
  rw[hz] at hI;obtain⟨sq,Aq,nq,cq,tq,Bq,mq,dq,hE⟩:=hI;have hE:=hE.Ya hK;clear hK;obtain⟨k1,k2,k3,k4⟩:=(hE.g1).c4
  have aam:w.heap.size<=w.heap.size+1+1:=by omega
  obtain⟨ai1,ai2,ai3,ai4⟩:=(hE.h3).c4;obtain⟨ai5,ai6,ai7,ai8⟩:=hE.h3.f4;replace hE:=((((((Env.again (bW hE.ax aam (.bool sq) (.slice Aq nq cq) (.bool tq) (.slice Bq mq dq))).ag ((hE.h4).aj (R:=w.heap.size+1+1) (by omega) _ _ _ _)).ag ((hE.h3).s4 _ _ _ _)).fv ((hE.h2).ak hE.h3 rfl _ _ _ _ rfl rfl rfl)).ag ((hE.g1).aj (R:=w.heap.size+1+1) (by omega) _ _ _ _)).Ya ((yN (by omega) _ _ _ _).trans (hE.g0)))
  gi_wp2
  clear ai1 ai2 ai3 ai4 ai5 ai6 ai7 ai8 aam;generalize ((((W.setCell ⟨w.heap.size+1+1,0,none⟩ (.bool sq)).setCell ⟨w.heap.size+1+1,1,none⟩ (.slice Aq nq cq)).setCell ⟨w.heap.size+1+1,2,none⟩ (.bool tq)).setCell ⟨w.heap.size+1+1,3,none⟩ (.slice Bq mq dq))=W50 at hE⊢;clear k1 k2 k3 k4;obtain⟨FA,hV2,eS⟩:=wE (hE.h3) (hE.h2) hE.ax (show w.heap.size<=D by omega) (show D≠w.heap.size+1+1 by omega) (hE.g0) (.deferred none);refine⟨by simp,.inl ⟨_,_,rfl,run_takeDeferred (hE.g0), ?_⟩⟩;obtain⟨y0,y1,y2,y3⟩:=FA.c4;exact⟨.agg (az sq Aq nq cq tq Bq mq dq),by simp[results,Tryz.results167,go_sem,y0,y1,y2,y3],sq,Aq,nq,cq,tq,Bq,mq,dq,rfl,hV2,eS⟩
 case stop=>
  rintro D c pre W hD _ ⟨rfl,hI⟩ hK
  obtain⟨sq,Aq,nq,cq,tq,Bq,mq,dq,hE⟩:=hI;have hE:=hE.Ya hK;clear hK;obtain⟨k1,k2,k3,k4⟩:=(hE.g1).c4
  have aan:w.heap.size<=w.heap.size+1+1:=by omega
  obtain⟨ai9,aja,ajb,ajc⟩:=(hE.h3).c4;obtain⟨ajd,aje,ajf,ajg⟩:=hE.h3.f4;replace hE:=((((((Env.again (bW hE.ax aan (.bool sq) (.slice Aq nq cq) (.bool tq) (.slice Bq mq dq))).ag ((hE.h4).aj (R:=w.heap.size+1+1) (by omega) _ _ _ _)).ag ((hE.h3).s4 _ _ _ _)).fv ((hE.h2).ak hE.h3 rfl _ _ _ _ rfl rfl rfl)).ag ((hE.g1).aj (R:=w.heap.size+1+1) (by omega) _ _ _ _)).Ya ((yN (by omega) _ _ _ _).trans (hE.g0)))
  gi_wp2
  clear ai9 aja ajb ajc ajd aje ajf ajg aan;generalize ((((W.setCell ⟨w.heap.size+1+1,0,none⟩ (.bool sq)).setCell ⟨w.heap.size+1+1,1,none⟩ (.slice Aq nq cq)).setCell ⟨w.heap.size+1+1,2,none⟩ (.bool tq)).setCell ⟨w.heap.size+1+1,3,none⟩ (.slice Bq mq dq))=W51 at hE⊢;clear k1 k2 k3 k4;obtain⟨FA,hV2,eS⟩:=wE (hE.h3) (hE.h2) hE.ax (show w.heap.size<=D by omega) (show D≠w.heap.size+1+1 by omega) (hE.g0) (.deferred none);refine⟨by simp,.inl ⟨_,_,rfl,run_takeDeferred (hE.g0), ?_⟩⟩;obtain⟨y0,y1,y2,y3⟩:=FA.c4;exact⟨.agg (az sq Aq nq cq tq Bq mq dq),by simp[results,Tryz.results167,go_sem,y0,y1,y2,y3],sq,Aq,nq,cq,tq,Bq,mq,dq,rfl,hV2,eS⟩
end
section

end
end Go.Proofs.YtclbiihcbfnjmaaGreat
