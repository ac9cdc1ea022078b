/-
  Parts.
-/
import Derived.Test.YtclbiihcbfnjmaaGreatK8
import Derived.Test.YtclbiihcbfnjmaaGreatC2
import Derived.Test.YtclbiihcbfnjmaaGreatC3
import Derived.Test.YtclbiihcbfnjmaaGreatK17
import Derived.Test.YtclbiihcbfnjmaaGreatK18
import Derived.RangeFuncCalls
import Derived.RangeFuncLeaves
import Derived.RangeFuncBox
import Derived.Shelf.Abstract
import Derived.Shelf.RegionOpen
import Derived.OwnWalkIn
import Derived.TacticsInMore
import Derived.LoopNIn
import Derived.LoopIn
import Derived.Deep.MidRow
import Derived.Test.YtclbiihcbfnjmaaGreatK15
import Derived.Test.YtclbiihcbfnjmaaGreatK2
import Derived.Test.YtclbiihcbfnjmaaGreatK19
import Derived.Test.YtclbiihcbfnjmaaGreatK14
set_option maxRecDepth 100000
set_option linter.unusedSimpArgs false
set_option maxHeartbeats 8000000
namespace Go.Proofs.YtclbiihcbfnjmaaGreat
section
open Go.RowKit

def ColsQ (w:World)(N:Nat)(J:Nat->Nat->Prop)(q:Nat->Nat->Rat)(e:Ending)(w':World):Prop:=
 ∃cv h,e= .returned (.tuple #[cv,.int .i64 0])/\ColV w.heap.size cv N h w'/\ColQ h N J q w'/\Below w.heap.size w w'
def Jp (i:Nat)(_ j:Nat):Prop:=i=3\/(1<=i/\(j=0\/j=3))\/(2<=i/\(j=1\/j=4))
theorem passes3 (p:Value)(w:World):Calls Tryz.prog 56 #[p] w fun e w'=>e= .returned (.slice (some ⟨w.heap.size,0,none⟩) 3 3)/\w'=w.alloc (.cells #[.func (.func 57) #[p] #[],.func (.func 58) #[p] #[],.func (.func 59) #[p] #[]] 1):=by
 go_enter Tryz.func56,Tryz.ntmps56
 go_wp2_with fail
 go_ret
 exact⟨rfl,rfl⟩
theorem ccols3_v {F S E Y:Int}{A:Option Addr}{n c:Nat}{r:Nat->RH}{si ti:Bool}{Ai Bi:Option Addr}{ni ci mi di:Nat}{fi gi:Nat->Nat}{w:World}(hT:TabM w A n r)(hB:TabB n r)(hr:FRd w Ai ni fi Bi mi gi)(hn:ni<=1000000)(hm:mi<=1000000)(hbk:BOK F S n r si ni fi ti mi gi)(hR:RightP F S n r E Y)(N:Nat)(hN:Cnt (1/(1+qOf si ni fi mi gi)) (fr F S n r E Y) N)(h80:N<=80):
  Calls Tryz.prog 55 #[.agg (qb7 F S A n c si Ai ni ci ti Bi mi di),.agg #[.int .i64 E,.int .i64 Y],.func (.func 56) #[] #[]] w (ColsQ w N (fun _ _=>True) (colq (1/(1+qOf si ni fi mi gi)) (fr F S n r E Y) N)):=by
 obtain⟨hqv,hi⟩:=intB_rti hr hbk.2;have hN0:0<N:=hN.pos;have hdis:=hi.dis;have hrts:=rt_rates hT hR N
 obtain⟨Z,hZ⟩:∃z,z=qOf si ni fi mi gi:=⟨_,rfl⟩
 obtain⟨f,hf⟩:∃f,f=fr F S n r E Y:=⟨_,rfl⟩
 rw[<-hZ] at hqv hi hdis;rw[<-hZ,<-hf] at hN⊢
 have hrf:Rts f N:=by rw[hf];exact hrts
 clear hrts;have HhT:=Lib.hid hT;clear hT;have HhB:=Lib.hid hB;clear hB;have Hhr:=Lib.hid hr;clear hr;have Hhbk:=Lib.hid hbk;clear hbk;have HhR:=Lib.hid hR;clear hR;have HhN:=Lib.hid hN;clear hN;have Hhqv:=Lib.hid hqv;clear hqv;have Hhi:=Lib.hid hi;clear hi;have Hhdis:=Lib.hid hdis;clear hdis;have Hhrf:=Lib.hid hrf;clear hrf;have HhZ:=Lib.hid hZ;clear hZ;have Hhf:=Lib.hid hf;clear hf;have hE:=((Env.start w).blk 31 (qb7 F S A n c si Ai ni ci ti Bi mi di) (g:=w.heap.size) rfl).blk 33 #[.int .i64 E,.int .i64 Y] (g:=w.heap.size+1) (by simp)
 obtain⟨W0,hW0⟩:∃W0,W0=((w.alloc (.cells (qb7 F S A n c si Ai ni ci ti Bi mi di) 31)).alloc (.cells #[.int .i64 E,.int .i64 Y] 33)):=⟨_,rfl⟩
 rw[<-hW0] at hE;have HW0:=Lib.hid hW0;clear hW0
 go_enter Tryz.func55,Tryz.ntmps55
 go_upto_region 1 with(fail)
 rw[<-HW0.out];obtain⟨k1,k2,k3,k4,k5,k6,k7⟩:=(hE.here.1.2).c7;obtain⟨k8,k9⟩:=(hE.here.2).c2;go_wp2_with fail
 refine hE.br (cvalid_t (c:=c) (ci:=ci) (di:=di) (HhT.out.below hE.bel) HhB.out (Hhr.out.below hE.bel) hn hm Hhbk.out) ?_;clear hE k1 k2 k3 k4 k5 k6 k7 k8 k9;intro w10 hE;obtain⟨k11,k12,k13,k14,k15,k16,k17⟩:=(hE.here.1.2).c7;obtain⟨k18,k19⟩:=(hE.here.2).c2;go_wp2_with fail
 refine hE.br (lright_t (c:=c) (HhT.out.below hE.bel) HhB.out HhR.out) ?_;clear hE k11 k12 k13 k14 k15 k16 k17 k18 k19;intro w20 hE;obtain⟨k21,k22,k23,k24,k25,k26,k27⟩:=(hE.here.1.2).c7;obtain⟨k28,k29⟩:=(hE.here.2).c2
 go_upto_region 4 with(fail)
 clear k21 k22 k23 k24 k25 k26 k27 k28 k29
 obtain⟨g30,hg30⟩:∃g30,g30=w20.heap.size:=⟨_,rfl⟩
 have hl30_0:w.heap.size<g30:=by rw[hg30];exact(hE.here.1.2).lt
 have hl30_1:w.heap.size+1<g30:=by rw[hg30];exact(hE.here.2).lt
 replace hE:=hE.blk 133 #[.int .i64 F,.int .i64 S,.slice A n c,.bool si,.slice Ai ni ci,.bool ti,.slice Bi mi di,.int .i64 E,.int .i64 Y,.slice none 0 0] (g:=g30) hg30.symm;generalize w20.alloc (.cells #[.int .i64 F,.int .i64 S,.slice A n c,.bool si,.slice Ai ni ci,.bool ti,.slice Bi mi di,.int .i64 E,.int .i64 Y,.slice none 0 0] 133)=W30 at hE⊢;rw[<-hg30];clear hg30;go_wp2_with fail
 refine(passes3 _ _).mono ?_
 rintro e w31 ⟨rfl,rfl⟩
 obtain⟨g32,hg32⟩:∃g32,g32=W30.heap.size:=⟨_,rfl⟩
 have hl32_0:w.heap.size<g32:=by rw[hg32];exact(hE.h2).lt
 have hl32_1:w.heap.size+1<g32:=by rw[hg32];exact(hE.here.1.2).lt
 have hl32_2:g30<g32:=by rw[hg32];exact(hE.here.2).lt
 replace hE:=hE.blk 1 #[.func (.func 57) #[.pointer (some ⟨g30,0,none⟩)] #[],.func (.func 58) #[.pointer (some ⟨g30,0,none⟩)] #[],.func (.func 59) #[.pointer (some ⟨g30,0,none⟩)] #[]] (g:=g32) hg32.symm;generalize W30.alloc (.cells #[.func (.func 57) #[.pointer (some ⟨g30,0,none⟩)] #[],.func (.func 58) #[.pointer (some ⟨g30,0,none⟩)] #[],.func (.func 59) #[.pointer (some ⟨g30,0,none⟩)] #[]] 1)=W32 at hE⊢;rw[<-hg32];clear hg32;go_wp2_with fail
 have hgw:w.heap.size<=g30:=by omega
 go_loopw [29] (fun x wr=>∃(z:Int) (i m:Nat) (cs0:Value) (h:Nat->Nat->Q8),x= .int .i64 z/\z=(i:Int)/\i<=3/\((i=0/\m=0/\cs0= .slice none 0 0)\/(0<i/\m=N))/\Env w (fun V=>((((True/\Blk 133 (g30) #[.int .i64 F,.int .i64 S,.slice A n c,.bool si,.slice Ai ni ci,.bool ti,.slice Bi mi di,.int .i64 E,.int .i64 Y,cs0] V)/\Blk 1 (g32) #[.func (.func 57) #[.pointer (some ⟨g30,0,none⟩)] #[],.func (.func 58) #[.pointer (some ⟨g30,0,none⟩)] #[],.func (.func 59) #[.pointer (some ⟨g30,0,none⟩)] #[]] V)/\ColV w.heap.size cs0 m h V)/\ColQ h m (Jp i) (colq (1/(1+Z)) f N) V)) wr) (fun x _=>(3-intOf x).toNat)
 case atStart=>
  exact⟨0,0,0,.slice none 0 0,fun _ _=>Q8.z,rfl,rfl,by decide,.inl ⟨rfl,rfl,rfl⟩,(((((Env.again hE.bel).blkI (hE.here.1.2)).blkI (hE.here.2)).colv (.inl ⟨rfl,rfl⟩)).colq (fun k hk=>absurd hk (Nat.not_lt_zero _)))⟩
 case round=>
  clear hE;obtain⟨z,i,m,cs0,h,rfl,hz,hi3,him,hE⟩:=hrel
  rcases(show i=0\/i=1\/i=2\/i=3 by omega) with rfl|rfl|rfl|rfl
  ·
   obtain rfl:z=0:=hz;obtain⟨rfl,rfl⟩:m=0/\cs0= .slice none 0 0:=him.elim (fun h=>h.2) (fun h=>absurd h.1 (by decide));have k0_0:=(hE.h2).cell 0;have k0_1:=(hE.h2).cell 1;have k0_2:=(hE.h2).cell 2;replace k0_0:wr.cell? ⟨g32,0,none⟩=some (.func (.func 57) #[.pointer (some ⟨g30,0,none⟩)] #[]):=k0_0;replace k0_1:wr.cell? ⟨g32,1,none⟩=some (.func (.func 58) #[.pointer (some ⟨g30,0,none⟩)] #[]):=k0_1;replace k0_2:wr.cell? ⟨g32,2,none⟩=some (.func (.func 59) #[.pointer (some ⟨g30,0,none⟩)] #[]):=k0_2;go_wp2_with fail
   refine(cpaid_v (w:=w) (u:=wr) hE.bel HhT.out HhB.out Hhqv.out Hhi.out HhR.out N (Hhf.out▸HhN.out) h80 g30 hgw (hE.h3)).mono ?_
   rintro e w9 ⟨⟨x,rfl⟩,cs1,h1,hb1,hv1,hq1,hk1,hbel1⟩
   rw[<-Hhf.out] at hq1;replace hE:=(((((Env.again hbel1).blkI (hb1)).blkI ((hE.h2).kept hk1 (by omega))).colv (hv1.mono hE.bel.size)).colq (ColQ.sub (J':=Jp 1) hq1 (fun _ _ _ _ hj=>by(try dsimp only);unfold Jp at hj;omega)));clear hb1 hv1 hq1 hk1 hbel1;clear k0_0 k0_1 k0_2;go_wp2_with fail
   go_roundw
   case rel=>exact⟨1,1,_,_,_,rfl,rfl,by decide,.inr ⟨by decide,rfl⟩,hE⟩
   case measure=>simp[intOf]
  ·
   obtain rfl:z=1:=hz;obtain rfl:m=N:=him.elim (fun h=>absurd h.1 (by decide)) (fun h=>h.2);have hCV:ColV w.heap.size cs0 m h wr:=hE.here.1.2
   rcases hCV with⟨rfl,h0⟩|⟨gc,cap,rfl,hgc,hCB⟩
   ·omega
   have k1_0:=(hE.h2).cell 0;have k1_1:=(hE.h2).cell 1;have k1_2:=(hE.h2).cell 2;replace k1_0:wr.cell? ⟨g32,0,none⟩=some (.func (.func 57) #[.pointer (some ⟨g30,0,none⟩)] #[]):=k1_0;replace k1_1:wr.cell? ⟨g32,1,none⟩=some (.func (.func 58) #[.pointer (some ⟨g30,0,none⟩)] #[]):=k1_1;replace k1_2:wr.cell? ⟨g32,2,none⟩=some (.func (.func 59) #[.pointer (some ⟨g30,0,none⟩)] #[]):=k1_2;go_wp2_with fail
   refine(csums_v (w:=w) (u:=wr) hE.bel Hhdis.out Hhrf.out h80 hN0 hgw hgc (hE.h3) hCB (ColQ.sub (hE.here.2) (fun _ _ _ _ hj=>by(try dsimp only at hj);unfold Jp;omega))).mono ?_
   rintro e w9 ⟨⟨x,rfl⟩,h1,hc1,hq1,hk1,hbel1⟩
   replace hE:=(((((Env.again hbel1).blkI ((hE.h3).kept hk1 (Blk.ne_col (hE.h3) hCB (by decide)))).blkI ((hE.h2).kept hk1 (Blk.ne_col (hE.h2) hCB (by decide)))).colv (.inr ⟨gc,cap,rfl,hgc,hc1⟩)).colq (ColQ.sub (J':=Jp 2) hq1 (fun _ _ _ _ hj=>by(try dsimp only);unfold Jp at hj;omega)));clear hc1 hq1 hk1 hbel1 hCB;clear k1_0 k1_1 k1_2;go_wp2_with fail
   go_roundw
   case rel=>exact⟨2,2,_,_,_,rfl,rfl,by decide,.inr ⟨by decide,rfl⟩,hE⟩
   case measure=>simp[intOf]
  ·
   obtain rfl:z=2:=hz;obtain rfl:m=N:=him.elim (fun h=>absurd h.1 (by decide)) (fun h=>h.2);have hCV:ColV w.heap.size cs0 m h wr:=hE.here.1.2
   rcases hCV with⟨rfl,h0⟩|⟨gc,cap,rfl,hgc,hCB⟩
   ·omega
   have k2_0:=(hE.h2).cell 0;have k2_1:=(hE.h2).cell 1;have k2_2:=(hE.h2).cell 2;replace k2_0:wr.cell? ⟨g32,0,none⟩=some (.func (.func 57) #[.pointer (some ⟨g30,0,none⟩)] #[]):=k2_0;replace k2_1:wr.cell? ⟨g32,1,none⟩=some (.func (.func 58) #[.pointer (some ⟨g30,0,none⟩)] #[]):=k2_1;replace k2_2:wr.cell? ⟨g32,2,none⟩=some (.func (.func 59) #[.pointer (some ⟨g30,0,none⟩)] #[]):=k2_2;go_wp2_with fail
   refine(csumsS_v (w:=w) (u:=wr) hE.bel Hhdis.out Hhrf.out h80 hN0 hgw hgc (hE.h3) hCB (ColQ.sub (hE.here.2) (fun _ _ _ _ hj=>by(try dsimp only at hj);unfold Jp;omega))).mono ?_
   rintro e w9 ⟨⟨x,rfl⟩,h1,hc1,hq1,hk1,hbel1⟩
   replace hE:=(((((Env.again hbel1).blkI ((hE.h3).kept hk1 (Blk.ne_col (hE.h3) hCB (by decide)))).blkI ((hE.h2).kept hk1 (Blk.ne_col (hE.h2) hCB (by decide)))).colv (.inr ⟨gc,cap,rfl,hgc,hc1⟩)).colq (ColQ.sub (J':=Jp 3) hq1 (fun _ _ _ _ hj=>trivial)));clear hc1 hq1 hk1 hbel1 hCB;clear k2_0 k2_1 k2_2;go_wp2_with fail
   go_roundw
   case rel=>exact⟨3,3,_,_,_,rfl,rfl,by decide,.inr ⟨by decide,rfl⟩,hE⟩
   case measure=>simp[intOf]
  ·
   obtain rfl:z=3:=hz;obtain rfl:m=N:=him.elim (fun h=>absurd h.1 (by decide)) (fun h=>h.2);obtain⟨k33,k34,k35,k36,k37,k38,k39,k40,k41,k42⟩:=(hE.h3).c10;go_wp2_with fail
   refine bodyPost_ret (v:= .tuple #[cs0,.int .i64 0]) (by simp[results,Tryz.results55,go_sem]) rfl ?_;exact⟨cs0,h,rfl,hE.here.1.2,ColQ.sub (hE.here.2) (fun _ _ _ _ hj=> .inl rfl),hE.bel⟩
theorem cColumns_v {F S E Y:Int}{A:Option Addr}{n c:Nat}{r:Nat->RH}{si ti:Bool}{Ai Bi:Option Addr}{ni ci mi di:Nat}{fi gi:Nat->Nat}{w:World}(hT:TabM w A n r)(hB:TabB n r)(hr:FRd w Ai ni fi Bi mi gi)(hn:ni<=1000000)(hm:mi<=1000000)(hbk:BOK F S n r si ni fi ti mi gi)(hR:RightP F S n r E Y)(N:Nat)(hN:Cnt (1/(1+qOf si ni fi mi gi)) (fr F S n r E Y) N)(h80:N<=80):
  Calls Tryz.prog 17 #[.agg (qb7 F S A n c si Ai ni ci ti Bi mi di),.agg #[.int .i64 E,.int .i64 Y]] w (ColsQ w N (fun _ _=>True) (colq (1/(1+qOf si ni fi mi gi)) (fr F S n r E Y) N)):=by
 have HhT:=Lib.hid hT;clear hT;have HhB:=Lib.hid hB;clear hB;have Hhr:=Lib.hid hr;clear hr;have Hhbk:=Lib.hid hbk;clear hbk;have HhR:=Lib.hid hR;clear hR;have HhN:=Lib.hid hN;clear hN;have hE:=((Env.start w).blk 31 (qb7 F S A n c si Ai ni ci ti Bi mi di) (g:=w.heap.size) rfl).blk 33 #[.int .i64 E,.int .i64 Y] (g:=w.heap.size+1) (by simp)
 obtain⟨W0,hW0⟩:∃W0,W0=((w.alloc (.cells (qb7 F S A n c si Ai ni ci ti Bi mi di) 31)).alloc (.cells #[.int .i64 E,.int .i64 Y] 33)):=⟨_,rfl⟩
 rw[<-hW0] at hE;have HW0:=Lib.hid hW0;clear hW0
 go_enter Tryz.func17,Tryz.ntmps17
 go_upto_region 1 with(fail)
 rw[<-HW0.out];obtain⟨k1,k2,k3,k4,k5,k6,k7⟩:=(hE.here.1.2).c7;obtain⟨k8,k9⟩:=(hE.here.2).c2;go_wp2_with fail
 refine(ccols3_v (c:=c) (ci:=ci) (di:=di) (HhT.out.below hE.bel) HhB.out (Hhr.out.below hE.bel) hn hm Hhbk.out HhR.out N HhN.out h80).mono ?_;clear k1 k2 k3 k4 k5 k6 k7 k8 k9
 rintro e w9 ⟨cv,h,rfl,hv,hq,hb⟩
 have hsz:=hE.bel.size;replace hE:=hE.step hb;go_wp2_with fail
 refine bodyPost_ret (v:= .tuple #[cv,.int .i64 0]) (by simp[results,Tryz.results17,go_sem]) rfl ?_;exact⟨cv,h,rfl,hv.mono hsz,hq,hE.bel⟩
end
section
open Go.RowKit

structure Bh where
 F:Int
 S:Int
 A:Option Addr
 n:Nat
 c:Nat
 r:Nat->RH
 i:FH
abbrev Bh.C (b:Bh):Array Value:=#[.int .i64 b.F,.int .i64 b.S,.slice b.A b.n b.c,.bool b.i.s,.slice b.i.A b.i.n b.i.c,.bool b.i.t,.slice b.i.B b.i.m b.i.d]
def Bh.rd (b:Bh)(w:World):Prop:=TabM w b.A b.n b.r/\b.i.rd w
def Bh.bd (b:Bh):Prop:=TabB b.n b.r/\b.i.n<=1000000/\b.i.m<=1000000
def Bh.ok (b:Bh):Prop:=BOK b.F b.S b.n b.r b.i.s b.i.n b.i.f b.i.t b.i.m b.i.g
def Bh.v (b:Bh):Rat:=1/(1+b.i.q)
def Bh.rt (b:Bh)(E Y:Int):Nat->Rat:=fr b.F b.S b.n b.r E Y
def Bh.right (b:Bh)(E Y:Int):Prop:=RightP b.F b.S b.n b.r E Y
theorem Bh.rd_below {b:Bh}{w w':World}(h:b.rd w)(hb:Below w.heap.size w w'):b.rd w':=⟨h.1.below hb,FRd.below h.2 hb⟩
theorem Bh.fv {b:Bh}{w:World}(h:b.rd w)(ho:b.ok):FV w b.i.q b.i.s b.i.A b.i.n b.i.t b.i.B b.i.m/\Rti b.i.q:=intB_rti h.2 ho.2
theorem Bh.dis {b:Bh}{w:World}(h:b.rd w)(ho:b.ok):Dis b.v:=(Bh.fv h ho).2.dis
theorem Bh.v_i {b:Bh}{w:World}(h:b.rd w)(ho:b.ok):b.v*(1+b.i.q)=1:=by
 have h0:=(Bh.fv h ho).2.1;unfold Bh.v;exact Rat.div_mul_cancel (by grind)
def RdI (A:Option Addr)(n:Nat)(l:Nat->Int)(w:World):Prop:=∀k,k<n->∃b o,A=some ⟨b,o,none⟩/\At b (o+k) (.int .i64 (l k)) w
theorem RdI.stable (A:Option Addr)(n:Nat)(l:Nat->Int):Stable (RdI A n l):=fun _ _ hb h k hk=>by
 obtain⟨b,o,e,ha⟩:=h k hk;exact⟨b,o,e,At.stable _ _ _ _ _ hb ha⟩
theorem RdI.below {A:Option Addr}{n:Nat}{l:Nat->Int}{w w':World}(h:RdI A n l w)(hb:Below w.heap.size w w'):RdI A n l w':=RdI.stable _ _ _ _ _ hb h
theorem RdI.nil {l:Nat->Int}{w:World}(A:Option Addr):RdI A 0 l w:=fun _ h=>absurd h (by omega)
structure Ct where
 E:Int
 Y:Int
 T:Int
 p:FH
 A:Option Addr
 n:Nat
 c:Nat
 l:Nat->Int
 B:Option Addr
 m:Nat
 d:Nat
 k:Nat->Int
abbrev Ct.Q (x:Ct)(g n c:Nat):Array Value:=#[.int .i64 x.E,.int .i64 x.Y,.int .i64 x.T,.bool x.p.s,.slice x.p.A x.p.n x.p.c,.bool x.p.t,.slice x.p.B x.p.m x.p.d,.slice x.A x.n x.c,.slice x.B x.m x.d,.slice (some ⟨g,0,none⟩) n c]
abbrev Ct.C (x:Ct):Array Value:=#[.int .i64 x.E,.int .i64 x.Y,.int .i64 x.T,.bool x.p.s,.slice x.p.A x.p.n x.p.c,.bool x.p.t,.slice x.p.B x.p.m x.p.d,.slice x.A x.n x.c,.slice x.B x.m x.d]
def Ct.rd (x:Ct)(w:World):Prop:=x.p.rd w/\RdI x.A x.n x.l w/\RdI x.B x.m x.k w
def Ct.bd (x:Ct):Prop:=(-9223372036854775808<=x.T/\x.T<=9223372036854775807)/\(x.p.n<=1000000/\x.p.m<=1000000)/\(x.n<=1000000/\x.m<=1000000)
theorem Ct.rd_below {x:Ct}{w w':World}(h:x.rd w)(hb:Below w.heap.size w w'):x.rd w':=⟨FRd.below h.1 hb,h.2.1.below hb,h.2.2.below hb⟩
def Amts (n:Nat)(l:Nat->Int):Prop:=n<=120/\∀k,k<n->0<=l k/\l k<=1099511627776
def Ct.ok (x:Ct)(b:Bh):Prop:=b.ok/\b.right x.E x.Y/\(0<=x.T/\x.T<=120)/\(okF x.p.s x.p.n x.p.f x.p.t x.p.m x.p.g=true/\x.p.s=false/\x.p.n<=4/\x.p.m<=4)/\Amts x.n x.l/\Amts x.m x.k
theorem Ct.prem {x:Ct}{b:Bh}{w:World}(h:x.rd w)(ho:x.ok b):FV w x.p.q x.p.s x.p.A x.p.n x.p.t x.p.B x.p.m/\0<=x.p.q/\x.p.q.num.natAbs<=b16^4/\x.p.q.den<=b16^4:=by
 obtain⟨-,-,-,⟨h1,h2,h3,h4⟩,-,-⟩:=ho;obtain⟨hv,-,-,-⟩:=okF_q h.1 h1;have e:x.p.q=qOf x.p.s x.p.n x.p.f x.p.m x.p.g:=rfl;rw[<-e] at hv;refine⟨hv, ?_, ?_, ?_⟩
 ·
  have:=hv.1.sgn;rw[h2] at this;have:=of_decide_eq_false this.symm;exact Rat.num_nonneg.1 (by omega)
 ·
  have:=hv.1.len;exact Nat.le_of_lt ((ln_le b16_two).1 (by omega))
 ·
  have:=hv.2.len;rw[Int.natAbs_natCast] at this;exact Nat.le_of_lt ((ln_le b16_two).1 (by omega))
def PayC (p:Value)(L:Nat->Rat)(N:Nat)(w:World):Prop:=
 ∃g caps,p= .func (.func g) #[] caps/\(∀args W,(callFunc g args).run Tryz.prog W= .ok (.enter g args) W)/\
  ∀W,Below w.heap.size w W->∀k:Nat,k<=N->Calls Tryz.prog g (#[.int .i64 (k:Int)]++caps) W (FR (L k) W)
theorem PayC.below {p:Value}{L:Nat->Rat}{N:Nat}{w w':World}(h:PayC p L N w)(hb:Below w.heap.size w w'):PayC p L N w':=by
 obtain⟨g,caps,e,eg,hc⟩:=h;exact⟨g,caps,e,eg,fun W hW k hk=>hc W (hb.trans (hW.mono hb.size)) k hk⟩
theorem setCell_self {W:World}{b o:Nat}{v:Value}(h:W.cell? ⟨b,o,none⟩=some v):W.setCell ⟨b,o,none⟩ v=W:=by
 have e:W.heap.modify b (fun
   | .cells c elem frozen=> .cells (if(none:Option Nat).isSome then c else c.setIfInBounds o v) elem frozen
   |o=>o)=W.heap:=by
  apply Array.ext (by simp);intro i h1 h2;rw[Array.getElem_modify]
  split
  ·
   rename_i e;subst e;unfold World.cell? at h;rw[Array.getElem?_eq_getElem h2] at h
   split at h
   ·
    rename_i c t f e2;rw[Option.some.inj e2];simp only[Option.isSome_none,Bool.false_eq_true,if_false] at h⊢
    congr 1
    apply Array.ext (by simp);intro j h3 h4;rw[Array.getElem_setIfInBounds]
    split
    ·
     rename_i e3;subst e3;rw[Array.getElem?_eq_getElem h4] at h;exact(Option.some.inj h).symm
    ·rfl
   ·cases h
  ·rfl
 exact congrArg (fun h=>({W with heap:=h}:World)) e
end
section
open Go.ChangeShapes Go.WideShapes Go.ChangeAt Go.RowKit Go.Deep

theorem cContract : Tryz.prog.cellsOf 36=9:=by kernel_rfl
theorem cInts : Tryz.prog.cellsOf 34=1:=by kernel_rfl
theorem nine_of_len {α:Type}{l:List α}(h:l.length=9):∃a b c d e f g i j,l=[a,b,c,d,e,f,g,i,j]:=by
 match l,h with
 |[a,b,c,d,e,f,g,i,j],_=>exact⟨a,b,c,d,e,f,g,i,j,rfl⟩
theorem five_of_len {α:Type}{l:List α}(h:l.length=5):∃a b c d e,l=[a,b,c,d,e]:=by
 match l,h with
 |[a,b,c,d,e],_=>exact⟨a,b,c,d,e,rfl⟩
def Ct.cells (x:Ct):List Value:=[.int .i64 x.E,.int .i64 x.Y,.int .i64 x.T,.bool x.p.s,.slice x.p.A x.p.n x.p.c,.bool x.p.t,.slice x.p.B x.p.m x.p.d,.slice x.A x.n x.c,.slice x.B x.m x.d]
def I64 (z:Int):Prop:=-9223372036854775808<=z/\z<=9223372036854775807
section
variable {H:Type} {enc:TypeId×Value->H} {W:World}
theorem ints_open {fuel:Nat}{cs:List Value}{x:DataW H×List MemPlace}(h:DataW.trod enc Tryz.prog W 0 (fun _=>true) true fuel 34 cs=some x):
  ∃A n c l,cs=[.slice A n c]/\RdI A n l W/\∀k,I64 (l k):=by
 rcases open_ints Tryz.underlying34 Tryz.underlying3 cInt h with⟨e1,-⟩|⟨a,len,cap,zs,e1,-,hlc,hcm,hzl,-,hc,hwf⟩
 ·exact⟨none,0,0,fun _=>0,e1,RdI.nil none,fun _=>show I64 0 from⟨by decide,by decide⟩⟩
 ·
  replace hzl:zs.length=cap:=by simpa using hzl
  refine⟨some a,len,cap,fun j=>zs.getD j 0,e1,fun k hk=> ?_,fun k=> ?_⟩
  ·
   obtain⟨b,o,rfl,hcell⟩:=ints_at hc (by omega);have h1:=hcell k (by omega);exact⟨b,o,rfl,cell_in h1,h1⟩
  ·
   show I64 (zs.getD k 0);rw[List.getD_eq_getElem?_getD];exact range_i64 hwf k
theorem lcells_open {fuel:Nat}{cs:List Value}{x:DataW H×List MemPlace}(h:DataW.trod enc Tryz.prog W 0 (fun _=>true) true fuel 33 cs=some x):
  ∃E Y,cs=[.int .i64 E,.int .i64 Y]:=by
 obtain⟨xs,k,-,-,hl,hx,hi⟩:=DataW.trod_struct Tryz.underlying33 h;obtain⟨c0,c1,rfl⟩:=two_of_len (hl.trans cLife);obtain⟨x0,x1,rfl⟩:=two_of_len hx;have h0:DataW.trod enc Tryz.prog W 0 (fun _=>true) true k 3 (([c0,c1].drop 0).take (Tryz.prog.cellsOf 3))=some x0:=hi 0 _ rfl;have h1:DataW.trod enc Tryz.prog W 0 (fun _=>true) true k 3 (([c0,c1].drop 1).take (Tryz.prog.cellsOf 3))=some x1:=hi 1 _ rfl;rw[cInt] at h0 h1;simp only[List.drop_zero,List.take_succ_cons,List.take_zero,List.drop_succ_cons] at h0 h1;obtain⟨E,e0,-,-⟩:=DataW.trod_int Tryz.underlying3 h0;obtain⟨Y,e1,-,-⟩:=DataW.trod_int Tryz.underlying3 h1
 injection e0 with e0
 injection e1 with e1
 exact⟨E,Y,by rw[e0,e1]⟩
theorem ccells_open {fuel:Nat}{cs:List Value}{x:DataW H×List MemPlace}(h:DataW.trod enc Tryz.prog W 0 (fun _=>true) true fuel 36 cs=some x):
  ∃x:Ct,cs=x.cells/\x.rd W/\I64 x.T/\(∀k,I64 (x.l k))/\∀k,I64 (x.k k):=by
 obtain⟨xs,k,-,-,hl,hx,hi⟩:=DataW.trod_struct Tryz.underlying36 h;obtain⟨c0,c1,c2,c3,c4,c5,c6,c7,c8,rfl⟩:=nine_of_len (hl.trans cContract);obtain⟨x0,x1,x2,x3,x4,rfl⟩:=five_of_len hx;have h0:DataW.trod enc Tryz.prog W 0 (fun _=>true) true k 33 (([c0,c1,c2,c3,c4,c5,c6,c7,c8].drop 0).take (Tryz.prog.cellsOf 33))=some x0:=hi 0 _ rfl;have h1:DataW.trod enc Tryz.prog W 0 (fun _=>true) true k 3 (([c0,c1,c2,c3,c4,c5,c6,c7,c8].drop 2).take (Tryz.prog.cellsOf 3))=some x1:=hi 1 _ rfl;have h2:DataW.trod enc Tryz.prog W 0 (fun _=>true) true k 29 (([c0,c1,c2,c3,c4,c5,c6,c7,c8].drop 3).take (Tryz.prog.cellsOf 29))=some x2:=hi 2 _ rfl;have h3:DataW.trod enc Tryz.prog W 0 (fun _=>true) true k 34 (([c0,c1,c2,c3,c4,c5,c6,c7,c8].drop 7).take (Tryz.prog.cellsOf 34))=some x3:=hi 3 _ rfl;have h4:DataW.trod enc Tryz.prog W 0 (fun _=>true) true k 34 (([c0,c1,c2,c3,c4,c5,c6,c7,c8].drop 8).take (Tryz.prog.cellsOf 34))=some x4:=hi 4 _ rfl;rw[cLife] at h0;rw[cInt] at h1;rw[cFrac] at h2;rw[cInts] at h3 h4;simp only[List.drop_zero,List.take_succ_cons,List.take_zero,List.drop_succ_cons] at h0 h1 h2 h3 h4;obtain⟨E,Y,e0⟩:=lcells_open h0;obtain⟨T,e1,-,hT⟩:=DataW.trod_int Tryz.underlying3 h1;obtain⟨q,e2,hq⟩:=fcells_open h2;obtain⟨A,n,c,l,e3,hA,hl3⟩:=ints_open h3;obtain⟨B,m,d,kk,e4,hB,hl4⟩:=ints_open h4;simp only[List.cons.injEq,and_true] at e0 e1 e2 e3 e4;obtain⟨rfl,rfl⟩:=e0;obtain⟨rfl,rfl,rfl,rfl⟩:=e2;subst e1 e3 e4;exact⟨⟨E,Y,T,q,A,n,c,l,B,m,d,kk⟩,rfl,⟨hq,hA,hB⟩,int_in hT,hl3,hl4⟩
theorem contract_open {b0:Nat}{v:Value}{d:DataW H}{p:List MemPlace}(hv:Value.okWide Tryz.prog W .any b0 36 v)(h:DataW.Trod enc Tryz.prog W 0 (fun _=>true) true 36 v d p):
  ∃x:Ct,v= .agg x.C/\x.rd W/\I64 x.T/\(∀k,I64 (x.l k))/\∀k,I64 (x.k k):=by
 obtain⟨cs,rfl,-⟩:=okWide_struct Tryz.underlying36 hv;obtain⟨fuel,hf⟩:=h;have hf2:DataW.trod enc Tryz.prog W 0 (fun _=>true) true fuel 36 cs.toList=some (d,p):=hf;obtain⟨x,e,hx⟩:=ccells_open hf2;exact⟨x,by rw[show cs=x.cells.toArray from Array.toList_inj.1 e];rfl,hx⟩
theorem bh_open {b0:Nat}{v:Value}{d:DataW H}{p:List MemPlace}(hv:Value.okWide Tryz.prog W .any b0 31 v)(h:DataW.Trod enc Tryz.prog W 0 (fun _=>true) true 31 v d p):
  ∃b:Bh,v= .agg b.C/\b.rd W:=by
 obtain⟨F,S,A,n,c,r,s,Ai,ni,ci,fi,t,Bi,mi,di,gi,rfl,h1,h2⟩:=basis_open hv h;exact⟨⟨F,S,A,n,c,r,⟨s,Ai,ni,ci,fi,t,Bi,mi,di,gi⟩⟩,rfl,h1,h2⟩
end
end
section
open Go.RowKit Go.Shelf
attribute [local go_sem] Oper.semAt_some

theorem col_desc :∃d,Tryz.prog.underlying 98=some d/\d.isRow=true:=⟨_,Tryz.underlying98,rfl⟩
theorem col_size (x:Nat->Q8):(Tryz.prog.info? 98).map (·.size)=some (cols1 x).length:=by
 obtain⟨i,hi,-,hs,-⟩:=info_parts info_col;rw[hi,cols1_len,<-hs];rfl
theorem col_load {g N cap k:Nat}{h:Nat->Nat->Q8}{W:World}(hB:ColB g N cap h W)(hk:k<N):(Instr.loadAt 98 (.pointer (some ⟨g,k*24,none⟩))).run Tryz.prog W= .ok (.agg (cols1 (h k)).toArray) W:=by
 obtain⟨d,h1,h2⟩:=col_desc;refine run_loadAt_mid W g (k*24) 98 (cols1 (h k)) d (fun j v hv=> ?_) h1 h2 (col_size _)
 have hj:j<24:=by have:=(List.getElem?_eq_some_iff.1 hv).1;rwa [cols1_len] at this
 rw[cols1_at _ hj] at hv;exact hB.at2 (j:=j/4) (i:=j%4) hk (by omega) (by omega) (by omega) (Option.some.inj hv)
end
section
open Go.RowKit

theorem Blk.col {g o j i:Nat}{x:Nat->Q8}{W:World}{v:Value}(hB:Blk 98 g (cols1 x).toArray W)(hj:j<6)(hi:i<4)(ho:o=j*4+i)(hv:(x j).cell i=v):W.cell? ⟨g,o,none⟩=some v:=by
 subst ho hv;rw[hB.cell,List.getElem?_toArray,cols1_at x (by omega)];rw[show(j*4+i)/4=j by omega,show(j*4+i)%4=i by omega]
end
section
open Go.RowKit Go.Shelf
attribute [local go_sem] Oper.semAt_some

section
variable {v:Rat} {f:Nat->Rat} {N:Nat} (hv:Dis v) (hf:Rts f N) (h80:N<=80)
include hv hf h80
end
end
section
open Go.RowKit

end
section
open Go.RowKit

end
section
open Go.RowKit

section
variable {r:Nat->RH} (h:((r 0).h 0).q=Rat.divInt 1 10/\((r 0).h 1).q=Rat.divInt 1 5/\((r 1).h 0).q=Rat.divInt 1 8/\((r 1).h 1).q=Rat.divInt 1 2/\((r 2).h 0).q=Rat.divInt 1 4/\((r 2).h 1).q=Rat.divInt 1 1)
include h
theorem exB_0 :fr 60 1 3 r 60 0 0=Rat.divInt 1 10:=by
 show rt 60 1 3 r 60 0 0=_;unfold rt;rw[if_neg (by decide),if_pos (by decide)];exact h.1
theorem exB_1 :fr 60 1 3 r 60 0 1=Rat.divInt 1 2:=by
 show rt 60 1 3 r 60 0 1=_;unfold rt;rw[if_neg (by decide),if_neg (by decide)];exact h.2.2.2.1
theorem exB_2 :fr 60 1 3 r 60 0 2=Rat.divInt 1 1:=by
 show rt 60 1 3 r 60 0 2=_;unfold rt;rw[if_neg (by decide),if_neg (by decide)];exact h.2.2.2.2.2
end
def exf (k:Nat):Rat:=if k=0 then Rat.divInt 1 10 else if k=1 then Rat.divInt 1 2 else Rat.divInt 1 1
theorem exf_eq {r:Nat->RH}(h:((r 0).h 0).q=Rat.divInt 1 10/\((r 0).h 1).q=Rat.divInt 1 5/\((r 1).h 0).q=Rat.divInt 1 8/\((r 1).h 1).q=Rat.divInt 1 2/\((r 2).h 0).q=Rat.divInt 1 4/\((r 2).h 1).q=Rat.divInt 1 1):∀k,k<3->fr 60 1 3 r 60 0 k=exf k:=fun k hk=>by
 rcases(show k=0\/k=1\/k=2 by omega) with rfl|rfl|rfl
 ·exact exB_0 h
 ·exact exB_1 h
 ·exact exB_2 h
theorem intB_of {W:World}{q:Rat}{s t:Bool}{A B:Option Addr}{n m:Nat}(h:FV W q s A n t B m)(hi:Rti q):intB s n (dgt b16 q.num.natAbs) t m (dgt b16 q.den)=true:=by
 obtain⟨l1,l2⟩:=h.ln hi.fl
 have hs:s=false:=by rw[h.1.sgn];exact decide_eq_false (by have:=Rat.num_nonneg.2 hi.1;omega)
 unfold intB;rw[okF_of h (Nat.le_trans hi.fl (by decide)),hs,decide_eq_true l1,decide_eq_true l2];rfl
theorem dd_ext {v:Rat}{f g:Nat->Rat}(h:∀k,k<3->f k=g k):∀k,k<=3->dd v f k=dd v g k:=fun k hk=>dd_congr fun i hi=>h i (by omega)
theorem cc_ext {v:Rat}{f g:Nat->Rat}(h:∀k,k<3->f k=g k):∀k,k<3->cc v f k=cc v g k:=fun k hk=>by
 unfold cc;rw[dd_ext h k (by omega),h k hk]
def exv :Rat:=1/(1+Rat.divInt 1 4)
theorem ex_cnt :Cnt exv exf 3:=by
 refine⟨by decide+kernel,fun k hk=> ?_⟩
 rcases(show k=0\/k=1\/k=2 by omega) with rfl|rfl|rfl<;>decide+kernel
end
section
open Go.RowKit

def SmB (n:Nat)(r:Nat->RH)(N:Int)(ni mi:Nat):Prop:=TabS n r N 8 2/\ni<=2/\mi<=2
theorem largeB_any (F S N:Int)(A:Option Addr)(n c:Nat)(r:Nat->RH)(si ti:Bool)(Ai Bi:Option Addr)(ni mi ci di:Nat)(w:World)(hT:TabM w A n r)(h1:0<=N)(h2:N<=1000000):
  Calls Tryz.prog 101 #[.agg (qb7 F S A n c si Ai ni ci ti Bi mi di),.int .i64 N] w fun e w'=>∃v,e= .returned (.bool v)/\(v=false↔SmB n r N ni mi)/\Below w.heap.size w w':=by
 by_cases hs:TabS n r N 8 2
 ·
  by_cases hn:ni<=2
  ·
   have t1:decide ((2:Int)<(ni:Int))=false:=decide_eq_false (by omega)
   by_cases hm:mi<=2
   ·
    have t2:decide ((2:Int)<(mi:Int))=false:=decide_eq_false (by omega);have HN:Hid (SmB n r N ni mi):=Lib.hid ⟨hs,hn,hm⟩;have hE:=((Env.start w).tab hT).blk 31 (qb7 F S A n c si Ai ni ci ti Bi mi di) (g:=w.heap.size) rfl
    obtain⟨W0,hW0⟩:∃W0,W0=(w.alloc (.cells (qb7 F S A n c si Ai ni ci ti Bi mi di) 31)):=⟨_,rfl⟩
    rw[<-hW0] at hE;have HW0:=Lib.hid hW0;clear hW0
    go_enter Tryz.func101,Tryz.ntmps101
    go_upto_region 1 with(fail)
    rw[<-HW0.out];obtain⟨k1,k2,k3,k4,k5,k6,k7⟩:=(hE.here.2).c7;go_wp2_with fail
    refine(large_iff F S N 8 2 A n c r _ (hE.here.1.2) h1 h2 (by decide) (by decide)).mono ?_;clear k1 k2 k3 k4 k5 k6 k7
    rintro e w9 ⟨v,rfl,hv,hb⟩
    obtain rfl:v=false:=hv.2 hs;clear hv;replace hE:=hE.step hb;clear hb;obtain⟨k8,k9,k10,k11,k12,k13,k14⟩:=(hE.here.2).c7;go_wp2_with fail
    go_ret
    exact⟨false,rfl,⟨fun _=>HN.out,fun _=>rfl⟩,hE.bel⟩
   ·
    have t2:decide ((2:Int)<(mi:Int))=true:=decide_eq_true (by omega);have HN:Hid (¬SmB n r N ni mi):=Lib.hid (fun h=>hm h.2.2);have hE:=((Env.start w).tab hT).blk 31 (qb7 F S A n c si Ai ni ci ti Bi mi di) (g:=w.heap.size) rfl
    obtain⟨W0,hW0⟩:∃W0,W0=(w.alloc (.cells (qb7 F S A n c si Ai ni ci ti Bi mi di) 31)):=⟨_,rfl⟩
    rw[<-hW0] at hE;have HW0:=Lib.hid hW0;clear hW0
    go_enter Tryz.func101,Tryz.ntmps101
    go_upto_region 1 with(fail)
    rw[<-HW0.out];obtain⟨k1,k2,k3,k4,k5,k6,k7⟩:=(hE.here.2).c7;go_wp2_with fail
    refine(large_iff F S N 8 2 A n c r _ (hE.here.1.2) h1 h2 (by decide) (by decide)).mono ?_;clear k1 k2 k3 k4 k5 k6 k7
    rintro e w9 ⟨v,rfl,hv,hb⟩
    obtain rfl:v=false:=hv.2 hs;clear hv;replace hE:=hE.step hb;clear hb;obtain⟨k8,k9,k10,k11,k12,k13,k14⟩:=(hE.here.2).c7;go_wp2_with fail
    go_ret
    exact⟨true,rfl,no_tab HN.out,hE.bel⟩
  ·
   have t1:decide ((2:Int)<(ni:Int))=true:=decide_eq_true (by omega);have HN:Hid (¬SmB n r N ni mi):=Lib.hid (fun h=>hn h.2.1);have hE:=((Env.start w).tab hT).blk 31 (qb7 F S A n c si Ai ni ci ti Bi mi di) (g:=w.heap.size) rfl
   obtain⟨W0,hW0⟩:∃W0,W0=(w.alloc (.cells (qb7 F S A n c si Ai ni ci ti Bi mi di) 31)):=⟨_,rfl⟩
   rw[<-hW0] at hE;have HW0:=Lib.hid hW0;clear hW0
   go_enter Tryz.func101,Tryz.ntmps101
   go_upto_region 1 with(fail)
   rw[<-HW0.out];obtain⟨k1,k2,k3,k4,k5,k6,k7⟩:=(hE.here.2).c7;go_wp2_with fail
   refine(large_iff F S N 8 2 A n c r _ (hE.here.1.2) h1 h2 (by decide) (by decide)).mono ?_;clear k1 k2 k3 k4 k5 k6 k7
   rintro e w9 ⟨v,rfl,hv,hb⟩
   obtain rfl:v=false:=hv.2 hs;clear hv;replace hE:=hE.step hb;clear hb;obtain⟨k8,k9,k10,k11,k12,k13,k14⟩:=(hE.here.2).c7;go_wp2_with fail
   go_ret
   exact⟨true,rfl,no_tab HN.out,hE.bel⟩
 ·
  have HN:Hid (¬SmB n r N ni mi):=Lib.hid (fun h=>hs h.1);have hE:=((Env.start w).tab hT).blk 31 (qb7 F S A n c si Ai ni ci ti Bi mi di) (g:=w.heap.size) rfl
  obtain⟨W0,hW0⟩:∃W0,W0=(w.alloc (.cells (qb7 F S A n c si Ai ni ci ti Bi mi di) 31)):=⟨_,rfl⟩
  rw[<-hW0] at hE;have HW0:=Lib.hid hW0;clear hW0
  go_enter Tryz.func101,Tryz.ntmps101
  go_upto_region 1 with(fail)
  rw[<-HW0.out];obtain⟨k1,k2,k3,k4,k5,k6,k7⟩:=(hE.here.2).c7;go_wp2_with fail
  refine(large_iff F S N 8 2 A n c r _ (hE.here.1.2) h1 h2 (by decide) (by decide)).mono ?_;clear k1 k2 k3 k4 k5 k6 k7
  rintro e w9 ⟨v,rfl,hv,hb⟩
  obtain rfl:v=true:=by cases v with|true=>rfl|false=>exact absurd (hv.1 rfl) hs
  clear hv;replace hE:=hE.step hb;clear hb;go_wp2_with fail
  go_ret
  exact⟨true,rfl,no_tab HN.out,hE.bel⟩
end
section
open Go.RowKit

theorem vplus_v {a b:Rat}{sa ta sb tb:Bool}{Aa Ba Ab Bb:Option Addr}{na ca ma da nb cb mb db:Nat}{w:World}(ha:FV w a sa Aa na ta Ba ma)(hb:FV w b sb Ab nb tb Bb mb)(la:fl a<=256)(lb:fl b<=256)(lr:fl (a+b)<=256):
  Calls Tryz.prog 102 #[.agg (qf4 sa Aa na ca ta Ba ma da),.agg (qf4 sb Ab nb cb tb Bb mb db)] w (FR (a+b) w):=by
 have hE:=((((Env.start w).fv ha).fv hb).blk 29 (qf4 sa Aa na ca ta Ba ma da) (g:=w.heap.size) rfl).blk 29 (qf4 sb Ab nb cb tb Bb mb db) (g:=w.heap.size+1) (by simp);have hE:=hE.blk 29 qz4 (g:=w.heap.size+1+1) (by simp)
 obtain⟨W0,hW0⟩:∃W0,W0=(((w.alloc (.cells (qf4 sa Aa na ca ta Ba ma da) 29)).alloc (.cells (qf4 sb Ab nb cb tb Bb mb db) 29)).alloc (.cells qz4 29)):=⟨_,rfl⟩
 rw[<-hW0] at hE;have HW0:=Lib.hid hW0;clear hW0
 go_enter Tryz.func102,Tryz.ntmps102
 go_upto_region 1 with(fail)
 rw[<-HW0.out];obtain⟨k1,k2,k3,k4⟩:=(hE.h2).c4;obtain⟨k5,k6,k7,k8⟩:=(hE.here.1.2).c4;go_wp2_with fail
 refine hE.fr (fadd_v (ca:=ca) (da:=da) (cb:=cb) (db:=db) hE.h4 hE.h3 la lb lr) ?_;clear hE k1 k2 k3 k4 k5 k6 k7 k8;intro sr Ar nr cr tr Br mr dr w9 hE
 go_upto_region 2 with(fail)
 obtain⟨g10,hg10⟩:∃g10,g10=w9.heap.size:=⟨_,rfl⟩
 have hl10_2:w.heap.size<g10:=by rw[hg10];exact(hE.h3).lt
 have hl10_3:w.heap.size+1<g10:=by rw[hg10];exact(hE.h2).lt
 have hl10_4:w.heap.size+1+1<g10:=by rw[hg10];exact(hE.here.1.2).lt
 replace hE:=hE.blk 29 (qf4 sr Ar nr cr tr Br mr dr) (g:=g10) hg10.symm;generalize w9.alloc (.cells (qf4 sr Ar nr cr tr Br mr dr) 29)=W10 at hE⊢;rw[<-hg10];clear hg10;obtain⟨k11,k12,k13,k14⟩:=(hE.here.2).c4
 have hRl:w.heap.size<=w.heap.size+1+1:=by omega
 obtain⟨WW,hWW,hB,hV,hBel⟩:=ret_frac hE hE.h2 hRl hE.here.1.2 cr dr;obtain⟨x0,x1,x2,x3⟩:=(hE.h2).c4;obtain⟨fz0,fz1,fz2,fz3⟩:=hE.h2.f4;have HWW:=Lib.hid hWW;clear hWW;go_wp2_with fail
 clear k11 k12 k13 k14;rw[<-HWW.out];obtain⟨y0,y1,y2,y3⟩:=hB.c4;refine bodyPost_ret (v:= .agg (qf4 sr Ar nr cr tr Br mr dr)) (by simp[results,Tryz.results102,go_sem,y0,y1,y2,y3]) rfl ?_;exact⟨sr,Ar,nr,cr,tr,Br,mr,dr,rfl,hV,hBel⟩
theorem vminus_v {a b:Rat}{sa ta sb tb:Bool}{Aa Ba Ab Bb:Option Addr}{na ca ma da nb cb mb db:Nat}{w:World}(ha:FV w a sa Aa na ta Ba ma)(hb:FV w b sb Ab nb tb Bb mb)(la:fl a<=256)(lb:fl b<=256)(lr:fl (a-b)<=256):
  Calls Tryz.prog 65 #[.agg (qf4 sa Aa na ca ta Ba ma da),.agg (qf4 sb Ab nb cb tb Bb mb db)] w (FR (a-b) w):=by
 have hE:=((((Env.start w).fv ha).fv hb).blk 29 (qf4 sa Aa na ca ta Ba ma da) (g:=w.heap.size) rfl).blk 29 (qf4 sb Ab nb cb tb Bb mb db) (g:=w.heap.size+1) (by simp);have hE:=hE.blk 29 qz4 (g:=w.heap.size+1+1) (by simp)
 obtain⟨W0,hW0⟩:∃W0,W0=(((w.alloc (.cells (qf4 sa Aa na ca ta Ba ma da) 29)).alloc (.cells (qf4 sb Ab nb cb tb Bb mb db) 29)).alloc (.cells qz4 29)):=⟨_,rfl⟩
 rw[<-hW0] at hE;have HW0:=Lib.hid hW0;clear hW0
 go_enter Tryz.func65,Tryz.ntmps65
 go_upto_region 1 with(fail)
 rw[<-HW0.out];obtain⟨k1,k2,k3,k4⟩:=(hE.h2).c4;obtain⟨k5,k6,k7,k8⟩:=(hE.here.1.2).c4;go_wp2_with fail
 refine hE.fr (fsub_v (ca:=ca) (da:=da) (cb:=cb) (db:=db) hE.h4 hE.h3 la lb lr) ?_;clear hE k1 k2 k3 k4 k5 k6 k7 k8;intro sr Ar nr cr tr Br mr dr w9 hE
 go_upto_region 2 with(fail)
 obtain⟨g10,hg10⟩:∃g10,g10=w9.heap.size:=⟨_,rfl⟩
 have hl10_2:w.heap.size<g10:=by rw[hg10];exact(hE.h3).lt
 have hl10_3:w.heap.size+1<g10:=by rw[hg10];exact(hE.h2).lt
 have hl10_4:w.heap.size+1+1<g10:=by rw[hg10];exact(hE.here.1.2).lt
 replace hE:=hE.blk 29 (qf4 sr Ar nr cr tr Br mr dr) (g:=g10) hg10.symm;generalize w9.alloc (.cells (qf4 sr Ar nr cr tr Br mr dr) 29)=W10 at hE⊢;rw[<-hg10];clear hg10;obtain⟨k11,k12,k13,k14⟩:=(hE.here.2).c4
 have hRl:w.heap.size<=w.heap.size+1+1:=by omega
 obtain⟨WW,hWW,hB,hV,hBel⟩:=ret_frac hE hE.h2 hRl hE.here.1.2 cr dr;obtain⟨x0,x1,x2,x3⟩:=(hE.h2).c4;obtain⟨fz0,fz1,fz2,fz3⟩:=hE.h2.f4;have HWW:=Lib.hid hWW;clear hWW;go_wp2_with fail
 clear k11 k12 k13 k14;rw[<-HWW.out];obtain⟨y0,y1,y2,y3⟩:=hB.c4;refine bodyPost_ret (v:= .agg (qf4 sr Ar nr cr tr Br mr dr)) (by simp[results,Tryz.results65,go_sem,y0,y1,y2,y3]) rfl ?_;exact⟨sr,Ar,nr,cr,tr,Br,mr,dr,rfl,hV,hBel⟩
theorem vtimes_v {a b:Rat}{sa ta sb tb:Bool}{Aa Ba Ab Bb:Option Addr}{na ca ma da nb cb mb db:Nat}{w:World}(ha:FV w a sa Aa na ta Ba ma)(hb:FV w b sb Ab nb tb Bb mb)(la:fl a<=256)(lb:fl b<=256)(lr:fl (a*b)<=256):
  Calls Tryz.prog 110 #[.agg (qf4 sa Aa na ca ta Ba ma da),.agg (qf4 sb Ab nb cb tb Bb mb db)] w (FR (a*b) w):=by
 have hE:=((((Env.start w).fv ha).fv hb).blk 29 (qf4 sa Aa na ca ta Ba ma da) (g:=w.heap.size) rfl).blk 29 (qf4 sb Ab nb cb tb Bb mb db) (g:=w.heap.size+1) (by simp);have hE:=hE.blk 29 qz4 (g:=w.heap.size+1+1) (by simp)
 obtain⟨W0,hW0⟩:∃W0,W0=(((w.alloc (.cells (qf4 sa Aa na ca ta Ba ma da) 29)).alloc (.cells (qf4 sb Ab nb cb tb Bb mb db) 29)).alloc (.cells qz4 29)):=⟨_,rfl⟩
 rw[<-hW0] at hE;have HW0:=Lib.hid hW0;clear hW0
 go_enter Tryz.func110,Tryz.ntmps110
 go_upto_region 1 with(fail)
 rw[<-HW0.out];obtain⟨k1,k2,k3,k4⟩:=(hE.h2).c4;obtain⟨k5,k6,k7,k8⟩:=(hE.here.1.2).c4;go_wp2_with fail
 refine hE.fr (fmul_v (ca:=ca) (da:=da) (cb:=cb) (db:=db) hE.h4 hE.h3 la lb lr) ?_;clear hE k1 k2 k3 k4 k5 k6 k7 k8;intro sr Ar nr cr tr Br mr dr w9 hE
 go_upto_region 2 with(fail)
 obtain⟨g10,hg10⟩:∃g10,g10=w9.heap.size:=⟨_,rfl⟩
 have hl10_2:w.heap.size<g10:=by rw[hg10];exact(hE.h3).lt
 have hl10_3:w.heap.size+1<g10:=by rw[hg10];exact(hE.h2).lt
 have hl10_4:w.heap.size+1+1<g10:=by rw[hg10];exact(hE.here.1.2).lt
 replace hE:=hE.blk 29 (qf4 sr Ar nr cr tr Br mr dr) (g:=g10) hg10.symm;generalize w9.alloc (.cells (qf4 sr Ar nr cr tr Br mr dr) 29)=W10 at hE⊢;rw[<-hg10];clear hg10;obtain⟨k11,k12,k13,k14⟩:=(hE.here.2).c4
 have hRl:w.heap.size<=w.heap.size+1+1:=by omega
 obtain⟨WW,hWW,hB,hV,hBel⟩:=ret_frac hE hE.h2 hRl hE.here.1.2 cr dr;obtain⟨x0,x1,x2,x3⟩:=(hE.h2).c4;obtain⟨fz0,fz1,fz2,fz3⟩:=hE.h2.f4;have HWW:=Lib.hid hWW;clear hWW;go_wp2_with fail
 clear k11 k12 k13 k14;rw[<-HWW.out];obtain⟨y0,y1,y2,y3⟩:=hB.c4;refine bodyPost_ret (v:= .agg (qf4 sr Ar nr cr tr Br mr dr)) (by simp[results,Tryz.results110,go_sem,y0,y1,y2,y3]) rfl ?_;exact⟨sr,Ar,nr,cr,tr,Br,mr,dr,rfl,hV,hBel⟩
theorem vover_v {a b:Rat}{sa ta sb tb:Bool}{Aa Ba Ab Bb:Option Addr}{na ca ma da nb cb mb db:Nat}{w:World}(ha:FV w a sa Aa na ta Ba ma)(hb:FV w b sb Ab nb tb Bb mb)(la:fl a<=256)(lb:fl b<=256)(h0:b.num≠0)(lr:fl (a/b)<=256):
  Calls Tryz.prog 67 #[.agg (qf4 sa Aa na ca ta Ba ma da),.agg (qf4 sb Ab nb cb tb Bb mb db)] w (FR (a/b) w):=by
 have hE:=((((Env.start w).fv ha).fv hb).blk 29 (qf4 sa Aa na ca ta Ba ma da) (g:=w.heap.size) rfl).blk 29 (qf4 sb Ab nb cb tb Bb mb db) (g:=w.heap.size+1) (by simp);have hE:=hE.blk 29 qz4 (g:=w.heap.size+1+1) (by simp)
 obtain⟨W0,hW0⟩:∃W0,W0=(((w.alloc (.cells (qf4 sa Aa na ca ta Ba ma da) 29)).alloc (.cells (qf4 sb Ab nb cb tb Bb mb db) 29)).alloc (.cells qz4 29)):=⟨_,rfl⟩
 rw[<-hW0] at hE;have HW0:=Lib.hid hW0;clear hW0
 go_enter Tryz.func67,Tryz.ntmps67
 go_upto_region 1 with(fail)
 rw[<-HW0.out];obtain⟨k1,k2,k3,k4⟩:=(hE.h2).c4;obtain⟨k5,k6,k7,k8⟩:=(hE.here.1.2).c4;go_wp2_with fail
 refine hE.fr (fdiv_v (ca:=ca) (da:=da) (cb:=cb) (db:=db) hE.h4 hE.h3 la lb h0 lr) ?_;clear hE k1 k2 k3 k4 k5 k6 k7 k8;intro sr Ar nr cr tr Br mr dr w9 hE
 go_upto_region 2 with(fail)
 obtain⟨g10,hg10⟩:∃g10,g10=w9.heap.size:=⟨_,rfl⟩
 have hl10_2:w.heap.size<g10:=by rw[hg10];exact(hE.h3).lt
 have hl10_3:w.heap.size+1<g10:=by rw[hg10];exact(hE.h2).lt
 have hl10_4:w.heap.size+1+1<g10:=by rw[hg10];exact(hE.here.1.2).lt
 replace hE:=hE.blk 29 (qf4 sr Ar nr cr tr Br mr dr) (g:=g10) hg10.symm;generalize w9.alloc (.cells (qf4 sr Ar nr cr tr Br mr dr) 29)=W10 at hE⊢;rw[<-hg10];clear hg10;obtain⟨k11,k12,k13,k14⟩:=(hE.here.2).c4
 have hRl:w.heap.size<=w.heap.size+1+1:=by omega
 obtain⟨WW,hWW,hB,hV,hBel⟩:=ret_frac hE hE.h2 hRl hE.here.1.2 cr dr;obtain⟨x0,x1,x2,x3⟩:=(hE.h2).c4;obtain⟨fz0,fz1,fz2,fz3⟩:=hE.h2.f4;have HWW:=Lib.hid hWW;clear hWW;go_wp2_with fail
 clear k11 k12 k13 k14;rw[<-HWW.out];obtain⟨y0,y1,y2,y3⟩:=hB.c4;refine bodyPost_ret (v:= .agg (qf4 sr Ar nr cr tr Br mr dr)) (by simp[results,Tryz.results67,go_sem,y0,y1,y2,y3]) rfl ?_;exact⟨sr,Ar,nr,cr,tr,Br,mr,dr,rfl,hV,hBel⟩
end
end Go.Proofs.YtclbiihcbfnjmaaGreat
