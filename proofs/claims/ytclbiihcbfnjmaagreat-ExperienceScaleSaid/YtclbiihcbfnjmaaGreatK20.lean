/-
  Parts.
-/
import Derived.Test.YtclbiihcbfnjmaaGreatC2
import Derived.Test.YtclbiihcbfnjmaaGreatC3
set_option maxRecDepth 100000
set_option linter.unusedSimpArgs false
set_option maxHeartbeats 8000000
namespace Go.Proofs.YtclbiihcbfnjmaaGreat
section
open Go.RowKit

def Xm (w:World)(N:Nat)(J:Nat->Nat->Prop)(q:Nat->Nat->Rat)(e:Ending)(w':World):Prop:=
 ∃cv h,e= .returned (.tuple #[cv,.int .i64 0])/\eV w.heap.size cv N h w'/\bH h N J q w'/\Below w.heap.size w w'
def Jp (i:Nat)(_ j:Nat):Prop:=i=3\/(1<=i/\(j=0\/j=3))\/(2<=i/\(j=1\/j=4))
theorem U5 (p:Value)(w:World):Calls Tryz.prog 56 #[p] w fun e w'=>e= .returned (.slice (some ⟨w.heap.size,0,none⟩) 3 3)/\w'=w.alloc (.cells #[.func (.func 57) #[p] #[],.func (.func 58) #[p] #[],.func (.func 59) #[p] #[]] 1):=by
 go_enter Tryz.func56,Tryz.ntmps56
 go_wp2_with fail
 go_ret
 exact⟨rfl,rfl⟩
theorem PF {F S E Y:Int}{A:Option Addr}{n c:Nat}{r:Nat->RH}{si ti:Bool}{Ai Bi:Option Addr}{ni ci mi di:Nat}{fi gi:Nat->Nat}{w:World}(hT:dA w A n r)(hB:kL n r)(hr:oT w Ai ni fi Bi mi gi)(hn:ni<=1000000)(hm:mi<=1000000)(tN:Pz F S n r si ni fi ti mi gi)(hR:cB F S n r E Y)(N:Nat)(hN:kH (1/(1+wC si ni fi mi gi)) (fr F S n r E Y) N)(kM:N<=80):
  Calls Tryz.prog 55 #[.agg (nS F S A n c si Ai ni ci ti Bi mi di),.agg #[.int .i64 E,.int .i64 Y],.func (.func 56) #[] #[]] w (Xm w N (fun _ _=>True) (bu (1/(1+wC si ni fi mi gi)) (fr F S n r E Y) N)):=by
 obtain⟨QJ,hi⟩:=Dh hr tN.2;have Kq:0<N:=hN.pos;have abd:=hi.KD;have xo:=fU hT hR N
 obtain⟨Z,hZ⟩:∃z,z=wC si ni fi mi gi:=⟨_,rfl⟩
 obtain⟨f,hf⟩:∃f,f=fr F S n r E Y:=⟨_,rfl⟩
 rw[<-hZ] at QJ hi abd;rw[<-hZ,<-hf] at hN⊢
 have hrf:sN f N:=by rw[hf];exact xo
 clear xo;have zK:=Lib.hid hT;clear hT;have QE:=Lib.hid hB;clear hB;have Hhr:=Lib.hid hr;clear hr;have My:=Lib.hid tN;clear tN;have D8:=Lib.hid hR;clear hR;have p6:=Lib.hid hN;clear hN;have Zj:=Lib.hid QJ;clear QJ;have mP:=Lib.hid hi;clear hi;have Xn:=Lib.hid abd;clear abd;have aha:=Lib.hid hrf;clear hrf;have HhZ:=Lib.hid hZ;clear hZ;have VL:=Lib.hid hf;clear hf;have hE:=((Env.start w).blk 31 (nS F S A n c si Ai ni ci ti Bi mi di) (g:=w.heap.size) rfl).blk 33 #[.int .i64 E,.int .i64 Y] (g:=w.heap.size+1) (by simp)
 obtain⟨W0,aC⟩:∃W0,W0=((w.alloc (.cells (nS F S A n c si Ai ni ci ti Bi mi di) 31)).alloc (.cells #[.int .i64 E,.int .i64 Y] 33)):=⟨_,rfl⟩
 rw[<-aC] at hE;have aU:=Lib.hid aC;clear aC
 go_enter Tryz.func55,Tryz.ntmps55
 go_upto_region 1 with(fail)
 rw[<-aU.out];obtain⟨k1,k2,k3,k4,k5,k6,k7⟩:=(hE.here.1.2).c7;obtain⟨k8,k9⟩:=(hE.here.2).c2;go_wp2_with fail
 refine hE.br (PB (c:=c) (ci:=ci) (di:=di) (zK.out.below hE.av) QE.out (Hhr.out.below hE.av) hn hm My.out) ?_;clear hE k1 k2 k3 k4 k5 k6 k7 k8 k9;intro yx hE;obtain⟨cS,cZ,dG,dN,fP,lC,nL⟩:=(hE.here.1.2).c7;obtain⟨jx,lO⟩:=(hE.here.2).c2;go_wp2_with fail
 refine hE.br (uI (c:=c) (zK.out.below hE.av) QE.out D8.out) ?_;clear hE cS cZ dG dN fP lC nL jx lO;intro w20 hE;obtain⟨og,mQ,oh,oU,mS,lW,oV⟩:=(hE.here.1.2).c7;obtain⟨om,FP⟩:=(hE.here.2).c2
 go_upto_region 4 with(fail)
 clear og mQ oh oU mS lW oV om FP
 obtain⟨nD,sJ⟩:∃nD,nD=w20.heap.size:=⟨_,rfl⟩
 have anZ:w.heap.size<nD:=by rw[sJ];exact(hE.here.1.2).lt
 have an0:w.heap.size+1<nD:=by rw[sJ];exact(hE.here.2).lt
 replace hE:=hE.blk 133 #[.int .i64 F,.int .i64 S,.slice A n c,.bool si,.slice Ai ni ci,.bool ti,.slice Bi mi di,.int .i64 E,.int .i64 Y,.slice none 0 0] (g:=nD) sJ.symm;generalize w20.alloc (.cells #[.int .i64 F,.int .i64 S,.slice A n c,.bool si,.slice Ai ni ci,.bool ti,.slice Bi mi di,.int .i64 E,.int .i64 Y,.slice none 0 0] 133)=W30 at hE⊢;rw[<-sJ];clear sJ;go_wp2_with fail
 refine(U5 _ _).mono ?_
 rintro e w31 ⟨rfl,rfl⟩
 obtain⟨D6,JU⟩:∃D6,D6=W30.heap.size:=⟨_,rfl⟩
 have an1:w.heap.size<D6:=by rw[JU];exact(hE.h2).lt
 have an2:w.heap.size+1<D6:=by rw[JU];exact(hE.here.1.2).lt
 have an3:nD<D6:=by rw[JU];exact(hE.here.2).lt
 replace hE:=hE.blk 1 #[.func (.func 57) #[.pointer (some ⟨nD,0,none⟩)] #[],.func (.func 58) #[.pointer (some ⟨nD,0,none⟩)] #[],.func (.func 59) #[.pointer (some ⟨nD,0,none⟩)] #[]] (g:=D6) JU.symm;generalize W30.alloc (.cells #[.func (.func 57) #[.pointer (some ⟨nD,0,none⟩)] #[],.func (.func 58) #[.pointer (some ⟨nD,0,none⟩)] #[],.func (.func 59) #[.pointer (some ⟨nD,0,none⟩)] #[]] 1)=QT at hE⊢;rw[<-JU];clear JU;go_wp2_with fail
 have tE:w.heap.size<=nD:=by omega
 go_loopw [29] (fun x wr=>∃(z:Int) (i m:Nat) (cs0:Value) (h:Nat->Nat->Q8),x= .int .i64 z/\z=(i:Int)/\i<=3/\((i=0/\m=0/\cs0= .slice none 0 0)\/(0<i/\m=N))/\Env w (fun V=>((((True/\ak 133 (nD) #[.int .i64 F,.int .i64 S,.slice A n c,.bool si,.slice Ai ni ci,.bool ti,.slice Bi mi di,.int .i64 E,.int .i64 Y,cs0] V)/\ak 1 (D6) #[.func (.func 57) #[.pointer (some ⟨nD,0,none⟩)] #[],.func (.func 58) #[.pointer (some ⟨nD,0,none⟩)] #[],.func (.func 59) #[.pointer (some ⟨nD,0,none⟩)] #[]] V)/\eV w.heap.size cs0 m h V)/\bH h m (Jp i) (bu (1/(1+Z)) f N) V)) wr) (fun x _=>(3-intOf x).toNat)
 case atStart=>
  exact⟨0,0,0,.slice none 0 0,fun _ _=>Q8.z,rfl,rfl,by decide,.inl ⟨rfl,rfl,rfl⟩,(((((Env.again hE.av).af (hE.here.1.2)).af (hE.here.2)).fe (.inl ⟨rfl,rfl⟩)).bu (fun k hk=>absurd hk (Nat.not_lt_zero _)))⟩
 case round=>
  clear hE;obtain⟨z,i,m,cs0,h,rfl,hz,hi3,him,hE⟩:=hrel
  rcases(show i=0\/i=1\/i=2\/i=3 by omega) with rfl|rfl|rfl|rfl
  ·
   obtain rfl:z=0:=hz;obtain⟨rfl,rfl⟩:m=0/\cs0= .slice none 0 0:=him.elim (fun h=>h.2) (fun h=>absurd h.1 (by decide));have abe:=(hE.h2).cell 0;have abf:=(hE.h2).cell 1;have abg:=(hE.h2).cell 2;replace abe:wr.cell? ⟨D6,0,none⟩=some (.func (.func 57) #[.pointer (some ⟨nD,0,none⟩)] #[]):=abe;replace abf:wr.cell? ⟨D6,1,none⟩=some (.func (.func 58) #[.pointer (some ⟨nD,0,none⟩)] #[]):=abf;replace abg:wr.cell? ⟨D6,2,none⟩=some (.func (.func 59) #[.pointer (some ⟨nD,0,none⟩)] #[]):=abg;go_wp2_with fail
   refine(Rc (w:=w) (u:=wr) hE.av zK.out QE.out Zj.out mP.out D8.out N (VL.out▸p6.out) kM nD tE (hE.h3)).mono ?_
   rintro e w9 ⟨⟨x,rfl⟩,cs1,h1,dI,QW,hq1,Q0,kB⟩
   rw[<-VL.out] at hq1;replace hE:=(((((Env.again kB).af (dI)).af ((hE.h2).kept Q0 (by omega))).fe (QW.mono hE.av.size)).bu (bH.sub (J':=Jp 1) hq1 (fun _ _ _ _ hj=>by(try dsimp only);unfold Jp at hj;omega)));clear dI QW hq1 Q0 kB;clear abe abf abg;go_wp2_with fail
   go_roundw
   case rel=>exact⟨1,1,_,_,_,rfl,rfl,by decide,.inr ⟨by decide,rfl⟩,hE⟩
   case measure=>simp[intOf]
  ·
   obtain rfl:z=1:=hz;obtain rfl:m=N:=him.elim (fun h=>absurd h.1 (by decide)) (fun h=>h.2);have dB:eV w.heap.size cs0 m h wr:=hE.here.1.2
   rcases dB with⟨rfl,h0⟩|⟨gc,cap,rfl,TX,oP⟩
   ·omega
   have abh:=(hE.h2).cell 0;have abj:=(hE.h2).cell 1;have abk:=(hE.h2).cell 2;replace abh:wr.cell? ⟨D6,0,none⟩=some (.func (.func 57) #[.pointer (some ⟨nD,0,none⟩)] #[]):=abh;replace abj:wr.cell? ⟨D6,1,none⟩=some (.func (.func 58) #[.pointer (some ⟨nD,0,none⟩)] #[]):=abj;replace abk:wr.cell? ⟨D6,2,none⟩=some (.func (.func 59) #[.pointer (some ⟨nD,0,none⟩)] #[]):=abk;go_wp2_with fail
   refine(Rl (w:=w) (u:=wr) hE.av Xn.out aha.out kM Kq tE TX (hE.h3) oP (bH.sub (hE.here.2) (fun _ _ _ _ hj=>by(try dsimp only at hj);unfold Jp;omega))).mono ?_
   rintro e w9 ⟨⟨x,rfl⟩,h1,oR,hq1,Q0,kB⟩
   replace hE:=(((((Env.again kB).af ((hE.h3).kept Q0 (ak.kO (hE.h3) oP (by decide)))).af ((hE.h2).kept Q0 (ak.kO (hE.h2) oP (by decide)))).fe (.inr ⟨gc,cap,rfl,TX,oR⟩)).bu (bH.sub (J':=Jp 2) hq1 (fun _ _ _ _ hj=>by(try dsimp only);unfold Jp at hj;omega)));clear oR hq1 Q0 kB oP;clear abh abj abk;go_wp2_with fail
   go_roundw
   case rel=>exact⟨2,2,_,_,_,rfl,rfl,by decide,.inr ⟨by decide,rfl⟩,hE⟩
   case measure=>simp[intOf]
  ·
   obtain rfl:z=2:=hz;obtain rfl:m=N:=him.elim (fun h=>absurd h.1 (by decide)) (fun h=>h.2);have dB:eV w.heap.size cs0 m h wr:=hE.here.1.2
   rcases dB with⟨rfl,h0⟩|⟨gc,cap,rfl,TX,oP⟩
   ·omega
   have abl:=(hE.h2).cell 0;have abm:=(hE.h2).cell 1;have abn:=(hE.h2).cell 2;replace abl:wr.cell? ⟨D6,0,none⟩=some (.func (.func 57) #[.pointer (some ⟨nD,0,none⟩)] #[]):=abl;replace abm:wr.cell? ⟨D6,1,none⟩=some (.func (.func 58) #[.pointer (some ⟨nD,0,none⟩)] #[]):=abm;replace abn:wr.cell? ⟨D6,2,none⟩=some (.func (.func 59) #[.pointer (some ⟨nD,0,none⟩)] #[]):=abn;go_wp2_with fail
   refine(Mb (w:=w) (u:=wr) hE.av Xn.out aha.out kM Kq tE TX (hE.h3) oP (bH.sub (hE.here.2) (fun _ _ _ _ hj=>by(try dsimp only at hj);unfold Jp;omega))).mono ?_
   rintro e w9 ⟨⟨x,rfl⟩,h1,oR,hq1,Q0,kB⟩
   replace hE:=(((((Env.again kB).af ((hE.h3).kept Q0 (ak.kO (hE.h3) oP (by decide)))).af ((hE.h2).kept Q0 (ak.kO (hE.h2) oP (by decide)))).fe (.inr ⟨gc,cap,rfl,TX,oR⟩)).bu (bH.sub (J':=Jp 3) hq1 (fun _ _ _ _ hj=>trivial)));clear oR hq1 Q0 kB oP;clear abl abm abn;go_wp2_with fail
   go_roundw
   case rel=>exact⟨3,3,_,_,_,rfl,rfl,by decide,.inr ⟨by decide,rfl⟩,hE⟩
   case measure=>simp[intOf]
  ·
   obtain rfl:z=3:=hz;obtain rfl:m=N:=him.elim (fun h=>absurd h.1 (by decide)) (fun h=>h.2);obtain⟨vH,Md,Rq,YX,Kr,Ek,DT,zN,QH,VP⟩:=(hE.h3).bF;go_wp2_with fail
   refine bodyPost_ret (v:= .tuple #[cs0,.int .i64 0]) (by simp[results,Tryz.results55,go_sem]) rfl ?_;exact⟨cs0,h,rfl,hE.here.1.2,bH.sub (hE.here.2) (fun _ _ _ _ hj=> .inl rfl),hE.av⟩
theorem Fu {F S E Y:Int}{A:Option Addr}{n c:Nat}{r:Nat->RH}{si ti:Bool}{Ai Bi:Option Addr}{ni ci mi di:Nat}{fi gi:Nat->Nat}{w:World}(hT:dA w A n r)(hB:kL n r)(hr:oT w Ai ni fi Bi mi gi)(hn:ni<=1000000)(hm:mi<=1000000)(tN:Pz F S n r si ni fi ti mi gi)(hR:cB F S n r E Y)(N:Nat)(hN:kH (1/(1+wC si ni fi mi gi)) (fr F S n r E Y) N)(kM:N<=80):
  Calls Tryz.prog 17 #[.agg (nS F S A n c si Ai ni ci ti Bi mi di),.agg #[.int .i64 E,.int .i64 Y]] w (Xm w N (fun _ _=>True) (bu (1/(1+wC si ni fi mi gi)) (fr F S n r E Y) N)):=by
 have zK:=Lib.hid hT;clear hT;have QE:=Lib.hid hB;clear hB;have Hhr:=Lib.hid hr;clear hr;have My:=Lib.hid tN;clear tN;have D8:=Lib.hid hR;clear hR;have p6:=Lib.hid hN;clear hN;have hE:=((Env.start w).blk 31 (nS F S A n c si Ai ni ci ti Bi mi di) (g:=w.heap.size) rfl).blk 33 #[.int .i64 E,.int .i64 Y] (g:=w.heap.size+1) (by simp)
 obtain⟨W0,aC⟩:∃W0,W0=((w.alloc (.cells (nS F S A n c si Ai ni ci ti Bi mi di) 31)).alloc (.cells #[.int .i64 E,.int .i64 Y] 33)):=⟨_,rfl⟩
 rw[<-aC] at hE;have aU:=Lib.hid aC;clear aC
 go_enter Tryz.func17,Tryz.ntmps17
 go_upto_region 1 with(fail)
 rw[<-aU.out];obtain⟨k1,k2,k3,k4,k5,k6,k7⟩:=(hE.here.1.2).c7;obtain⟨k8,k9⟩:=(hE.here.2).c2;go_wp2_with fail
 refine(PF (c:=c) (ci:=ci) (di:=di) (zK.out.below hE.av) QE.out (Hhr.out.below hE.av) hn hm My.out D8.out N p6.out kM).mono ?_;clear k1 k2 k3 k4 k5 k6 k7 k8 k9
 rintro e w9 ⟨cv,h,rfl,hv,hq,hb⟩
 have hsz:=hE.av.size;replace hE:=hE.step hb;go_wp2_with fail
 refine bodyPost_ret (v:= .tuple #[cv,.int .i64 0]) (by simp[results,Tryz.results17,go_sem]) rfl ?_;exact⟨cv,h,rfl,hv.mono hsz,hq,hE.av⟩
end
section
open Go.RowKit

structure Bh where
 F:Int
 S:Int
 A:Option Addr
 n:Nat
 c:Nat
 r:Nat->RH
 i:FH
abbrev Bh.C (b:Bh):Array Value:=#[.int .i64 b.F,.int .i64 b.S,.slice b.A b.n b.c,.bool b.i.s,.slice b.i.A b.i.n b.i.c,.bool b.i.t,.slice b.i.B b.i.m b.i.d]
def Bh.rd (b:Bh)(w:World):Prop:=dA w b.A b.n b.r/\b.i.rd w
def Bh.bd (b:Bh):Prop:=kL b.n b.r/\b.i.n<=1000000/\b.i.m<=1000000
def Bh.ok (b:Bh):Prop:=Pz b.F b.S b.n b.r b.i.s b.i.n b.i.f b.i.t b.i.m b.i.g
def Bh.v (b:Bh):Rat:=1/(1+b.i.q)
def Bh.rt (b:Bh)(E Y:Int):Nat->Rat:=fr b.F b.S b.n b.r E Y
def Bh.right (b:Bh)(E Y:Int):Prop:=cB b.F b.S b.n b.r E Y
theorem Bh.aA {b:Bh}{w w':World}(h:b.rd w)(hb:Below w.heap.size w w'):b.rd w':=⟨h.1.below hb,oT.below h.2 hb⟩
theorem Bh.fv {b:Bh}{w:World}(h:b.rd w)(ho:b.ok):FV w b.i.q b.i.s b.i.A b.i.n b.i.t b.i.B b.i.m/\zJ b.i.q:=Dh h.2 ho.2
theorem Bh.KD {b:Bh}{w:World}(h:b.rd w)(ho:b.ok):xj b.v:=(Bh.fv h ho).2.KD
theorem Bh.v_i {b:Bh}{w:World}(h:b.rd w)(ho:b.ok):b.v*(1+b.i.q)=1:=by
 have h0:=(Bh.fv h ho).2.1;unfold Bh.v;exact Rat.div_mul_cancel (by grind)
def pZ (A:Option Addr)(n:Nat)(l:Nat->Int)(w:World):Prop:=∀k,k<n->∃b o,A=some ⟨b,o,none⟩/\At b (o+k) (.int .i64 (l k)) w
theorem pZ.stable (A:Option Addr)(n:Nat)(l:Nat->Int):bq (pZ A n l):=fun _ _ hb h k hk=>by
 obtain⟨b,o,e,ha⟩:=h k hk;exact⟨b,o,e,At.stable _ _ _ _ _ hb ha⟩
theorem pZ.below {A:Option Addr}{n:Nat}{l:Nat->Int}{w w':World}(h:pZ A n l w)(hb:Below w.heap.size w w'):pZ A n l w':=pZ.stable _ _ _ _ _ hb h
theorem pZ.nil {l:Nat->Int}{w:World}(A:Option Addr):pZ A 0 l w:=fun _ h=>absurd h (by omega)
structure Ct where
 E:Int
 Y:Int
 T:Int
 p:FH
 A:Option Addr
 n:Nat
 c:Nat
 l:Nat->Int
 B:Option Addr
 m:Nat
 d:Nat
 k:Nat->Int
abbrev Ct.Q (x:Ct)(g n c:Nat):Array Value:=#[.int .i64 x.E,.int .i64 x.Y,.int .i64 x.T,.bool x.p.s,.slice x.p.A x.p.n x.p.c,.bool x.p.t,.slice x.p.B x.p.m x.p.d,.slice x.A x.n x.c,.slice x.B x.m x.d,.slice (some ⟨g,0,none⟩) n c]
abbrev Ct.C (x:Ct):Array Value:=#[.int .i64 x.E,.int .i64 x.Y,.int .i64 x.T,.bool x.p.s,.slice x.p.A x.p.n x.p.c,.bool x.p.t,.slice x.p.B x.p.m x.p.d,.slice x.A x.n x.c,.slice x.B x.m x.d]
def Ct.rd (x:Ct)(w:World):Prop:=x.p.rd w/\pZ x.A x.n x.l w/\pZ x.B x.m x.k w
def Ct.bd (x:Ct):Prop:=(-9223372036854775808<=x.T/\x.T<=9223372036854775807)/\(x.p.n<=1000000/\x.p.m<=1000000)/\(x.n<=1000000/\x.m<=1000000)
theorem Ct.aA {x:Ct}{w w':World}(h:x.rd w)(hb:Below w.heap.size w w'):x.rd w':=⟨oT.below h.1 hb,h.2.1.below hb,h.2.2.below hb⟩
def Cm (n:Nat)(l:Nat->Int):Prop:=n<=120/\∀k,k<n->0<=l k/\l k<=1099511627776
def Ct.ok (x:Ct)(b:Bh):Prop:=b.ok/\b.right x.E x.Y/\(0<=x.T/\x.T<=120)/\(okF x.p.s x.p.n x.p.f x.p.t x.p.m x.p.g=true/\x.p.s=false/\x.p.n<=4/\x.p.m<=4)/\Cm x.n x.l/\Cm x.m x.k
theorem Ct.Es {x:Ct}{b:Bh}{w:World}(h:x.rd w)(ho:x.ok b):FV w x.p.q x.p.s x.p.A x.p.n x.p.t x.p.B x.p.m/\0<=x.p.q/\x.p.q.num.natAbs<=aj^4/\x.p.q.den<=aj^4:=by
 obtain⟨-,-,-,⟨h1,h2,h3,h4⟩,-,-⟩:=ho;obtain⟨hv,-,-,-⟩:=CF h.1 h1;have e:x.p.q=wC x.p.s x.p.n x.p.f x.p.m x.p.g:=rfl;rw[<-e] at hv;refine⟨hv, ?_, ?_, ?_⟩
 ·
  have:=hv.1.EA;rw[h2] at this;have:=of_decide_eq_false this.symm;exact Rat.num_nonneg.1 (by omega)
 ·
  have:=hv.1.len;exact Nat.le_of_lt ((bf aD).1 (by omega))
 ·
  have:=hv.2.len;rw[Int.natAbs_natCast] at this;exact Nat.le_of_lt ((bf aD).1 (by omega))
def jQ (p:Value)(L:Nat->Rat)(N:Nat)(w:World):Prop:=
 ∃g caps,p= .func (.func g) #[] caps/\(∀args W,(callFunc g args).run Tryz.prog W= .ok (.enter g args) W)/\
  ∀W,Below w.heap.size w W->∀k:Nat,k<=N->Calls Tryz.prog g (#[.int .i64 (k:Int)]++caps) W (FR (L k) W)
theorem jQ.below {p:Value}{L:Nat->Rat}{N:Nat}{w w':World}(h:jQ p L N w)(hb:Below w.heap.size w w'):jQ p L N w':=by
 obtain⟨g,caps,e,eg,hc⟩:=h;exact⟨g,caps,e,eg,fun W hW k hk=>hc W (hb.trans (hW.mono hb.size)) k hk⟩
theorem fW {W:World}{b o:Nat}{v:Value}(h:W.cell? ⟨b,o,none⟩=some v):W.setCell ⟨b,o,none⟩ v=W:=by
 have e:W.heap.modify b (fun
   | .cells c elem frozen=> .cells (if(none:Option Nat).isSome then c else c.setIfInBounds o v) elem frozen
   |o=>o)=W.heap:=by
  apply Array.ext (by simp);intro i h1 h2;rw[Array.getElem_modify]
  split
  ·
   rename_i e;subst e;unfold World.cell? at h;rw[Array.getElem?_eq_getElem h2] at h
   split at h
   ·
    rename_i c t f e2;rw[Option.some.inj e2];simp only[Option.isSome_none,Bool.false_eq_true,if_false] at h⊢
    congr 1
    apply Array.ext (by simp);intro j h3 h4;rw[Array.getElem_setIfInBounds]
    split
    ·
     rename_i e3;subst e3;rw[Array.getElem?_eq_getElem h4] at h;exact(Option.some.inj h).symm
    ·rfl
   ·cases h
  ·rfl
 exact congrArg (fun h=>({W with heap:=h}:World)) e
end
section
open Go.ChangeShapes Go.WideShapes Go.ChangeAt Go.RowKit Go.Deep

theorem wS : Tryz.prog.cellsOf 36=9:=by kernel_rfl
theorem ahb : Tryz.prog.cellsOf 34=1:=by kernel_rfl
theorem Dl {α:Type}{l:List α}(h:l.length=9):∃a b c d e f g i j,l=[a,b,c,d,e,f,g,i,j]:=by
 match l,h with
 |[a,b,c,d,e,f,g,i,j],_=>exact⟨a,b,c,d,e,f,g,i,j,rfl⟩
theorem Dm {α:Type}{l:List α}(h:l.length=5):∃a b c d e,l=[a,b,c,d,e]:=by
 match l,h with
 |[a,b,c,d,e],_=>exact⟨a,b,c,d,e,rfl⟩
def Ct.cells (x:Ct):List Value:=[.int .i64 x.E,.int .i64 x.Y,.int .i64 x.T,.bool x.p.s,.slice x.p.A x.p.n x.p.c,.bool x.p.t,.slice x.p.B x.p.m x.p.d,.slice x.A x.n x.c,.slice x.B x.m x.d]
def U6 (z:Int):Prop:=-9223372036854775808<=z/\z<=9223372036854775807
section
variable {H:Type} {enc:TypeId×Value->H} {W:World}
theorem wT {fuel:Nat}{cs:List Value}{x:DataW H×List MemPlace}(h:DataW.trod enc Tryz.prog W 0 (fun _=>true) true fuel 34 cs=some x):
  ∃A n c l,cs=[.slice A n c]/\pZ A n l W/\∀k,U6 (l k):=by
 rcases open_ints Tryz.underlying34 Tryz.underlying3 Pt h with⟨e1,-⟩|⟨a,len,cap,zs,e1,-,hlc,NH,hzl,-,hc,hwf⟩
 ·exact⟨none,0,0,fun _=>0,e1,pZ.nil none,fun _=>show U6 0 from⟨by decide,by decide⟩⟩
 ·
  replace hzl:zs.length=cap:=by simpa using hzl
  refine⟨some a,len,cap,fun j=>zs.getD j 0,e1,fun k hk=> ?_,fun k=> ?_⟩
  ·
   obtain⟨b,o,rfl,hcell⟩:=ints_at hc (by omega);have h1:=hcell k (by omega);exact⟨b,o,rfl,pQ h1,h1⟩
  ·
   show U6 (zs.getD k 0);rw[List.getD_eq_getElem?_getD];exact range_i64 hwf k
theorem Dn {fuel:Nat}{cs:List Value}{x:DataW H×List MemPlace}(h:DataW.trod enc Tryz.prog W 0 (fun _=>true) true fuel 33 cs=some x):
  ∃E Y,cs=[.int .i64 E,.int .i64 Y]:=by
 obtain⟨xs,k,-,-,hl,hx,hi⟩:=DataW.trod_struct Tryz.underlying33 h;obtain⟨c0,c1,rfl⟩:=iz (hl.trans Xd);obtain⟨x0,x1,rfl⟩:=iz hx;have h0:DataW.trod enc Tryz.prog W 0 (fun _=>true) true k 3 (([c0,c1].drop 0).take (Tryz.prog.cellsOf 3))=some x0:=hi 0 _ rfl;have h1:DataW.trod enc Tryz.prog W 0 (fun _=>true) true k 3 (([c0,c1].drop 1).take (Tryz.prog.cellsOf 3))=some x1:=hi 1 _ rfl;rw[Pt] at h0 h1;simp only[List.drop_zero,List.take_succ_cons,List.take_zero,List.drop_succ_cons] at h0 h1;obtain⟨E,e0,-,-⟩:=DataW.trod_int Tryz.underlying3 h0;obtain⟨Y,e1,-,-⟩:=DataW.trod_int Tryz.underlying3 h1
 injection e0 with e0
 injection e1 with e1
 exact⟨E,Y,by rw[e0,e1]⟩
theorem rT {fuel:Nat}{cs:List Value}{x:DataW H×List MemPlace}(h:DataW.trod enc Tryz.prog W 0 (fun _=>true) true fuel 36 cs=some x):
  ∃x:Ct,cs=x.cells/\x.rd W/\U6 x.T/\(∀k,U6 (x.l k))/\∀k,U6 (x.k k):=by
 obtain⟨xs,k,-,-,hl,hx,hi⟩:=DataW.trod_struct Tryz.underlying36 h;obtain⟨c0,c1,c2,c3,c4,c5,c6,c7,c8,rfl⟩:=Dl (hl.trans wS);obtain⟨x0,x1,x2,x3,x4,rfl⟩:=Dm hx;have h0:DataW.trod enc Tryz.prog W 0 (fun _=>true) true k 33 (([c0,c1,c2,c3,c4,c5,c6,c7,c8].drop 0).take (Tryz.prog.cellsOf 33))=some x0:=hi 0 _ rfl;have h1:DataW.trod enc Tryz.prog W 0 (fun _=>true) true k 3 (([c0,c1,c2,c3,c4,c5,c6,c7,c8].drop 2).take (Tryz.prog.cellsOf 3))=some x1:=hi 1 _ rfl;have h2:DataW.trod enc Tryz.prog W 0 (fun _=>true) true k 29 (([c0,c1,c2,c3,c4,c5,c6,c7,c8].drop 3).take (Tryz.prog.cellsOf 29))=some x2:=hi 2 _ rfl;have h3:DataW.trod enc Tryz.prog W 0 (fun _=>true) true k 34 (([c0,c1,c2,c3,c4,c5,c6,c7,c8].drop 7).take (Tryz.prog.cellsOf 34))=some x3:=hi 3 _ rfl;have h4:DataW.trod enc Tryz.prog W 0 (fun _=>true) true k 34 (([c0,c1,c2,c3,c4,c5,c6,c7,c8].drop 8).take (Tryz.prog.cellsOf 34))=some x4:=hi 4 _ rfl;rw[Xd] at h0;rw[Pt] at h1;rw[uF] at h2;rw[ahb] at h3 h4;simp only[List.drop_zero,List.take_succ_cons,List.take_zero,List.drop_succ_cons] at h0 h1 h2 h3 h4;obtain⟨E,Y,e0⟩:=Dn h0;obtain⟨T,e1,-,hT⟩:=DataW.trod_int Tryz.underlying3 h1;obtain⟨q,e2,hq⟩:=eL h2;obtain⟨A,n,c,l,e3,hA,IW⟩:=wT h3;obtain⟨B,m,d,kk,e4,hB,Rs⟩:=wT h4;simp only[List.cons.injEq,and_true] at e0 e1 e2 e3 e4;obtain⟨rfl,rfl⟩:=e0;obtain⟨rfl,rfl,rfl,rfl⟩:=e2;subst e1 e3 e4;exact⟨⟨E,Y,T,q,A,n,c,l,B,m,d,kk⟩,rfl,⟨hq,hA,hB⟩,zm hT,IW,Rs⟩
theorem Q4 {b0:Nat}{v:Value}{d:DataW H}{p:List MemPlace}(hv:Value.okWide Tryz.prog W .any b0 36 v)(h:DataW.Trod enc Tryz.prog W 0 (fun _=>true) true 36 v d p):
  ∃x:Ct,v= .agg x.C/\x.rd W/\U6 x.T/\(∀k,U6 (x.l k))/\∀k,U6 (x.k k):=by
 obtain⟨cs,rfl,-⟩:=okWide_struct Tryz.underlying36 hv;obtain⟨fuel,hf⟩:=h;have hf2:DataW.trod enc Tryz.prog W 0 (fun _=>true) true fuel 36 cs.toList=some (d,p):=hf;obtain⟨x,e,hx⟩:=rT hf2;exact⟨x,by rw[show cs=x.cells.toArray from Array.toList_inj.1 e];rfl,hx⟩
theorem GR {b0:Nat}{v:Value}{d:DataW H}{p:List MemPlace}(hv:Value.okWide Tryz.prog W .any b0 31 v)(h:DataW.Trod enc Tryz.prog W 0 (fun _=>true) true 31 v d p):
  ∃b:Bh,v= .agg b.C/\b.rd W:=by
 obtain⟨F,S,A,n,c,r,s,Ai,ni,ci,fi,t,Bi,mi,di,gi,rfl,h1,h2⟩:=Fs hv h;exact⟨⟨F,S,A,n,c,r,⟨s,Ai,ni,ci,fi,t,Bi,mi,di,gi⟩⟩,rfl,h1,h2⟩
end
end
section
open Go.RowKit Go.Shelf
attribute [local go_sem] Oper.semAt_some

theorem PG :∃d,Tryz.prog.underlying 98=some d/\d.isRow=true:=⟨_,Tryz.underlying98,rfl⟩
theorem PI (x:Nat->Q8):(Tryz.prog.info? 98).map (·.size)=some (eM x).length:=by
 obtain⟨i,hi,-,hs,-⟩:=info_parts Df;rw[hi,eS,<-hs];rfl
theorem PJ {g N cap k:Nat}{h:Nat->Nat->Q8}{W:World}(hB:fE g N cap h W)(hk:k<N):(Instr.loadAt 98 (.pointer (some ⟨g,k*24,none⟩))).run Tryz.prog W= .ok (.agg (eM (h k)).toArray) W:=by
 obtain⟨d,h1,h2⟩:=PG;refine run_loadAt_mid W g (k*24) 98 (eM (h k)) d (fun j v hv=> ?_) h1 h2 (PI _)
 have hj:j<24:=by have:=(List.getElem?_eq_some_iff.1 hv).1;rwa [eS] at this
 rw[uK _ hj] at hv;exact hB.nN (j:=j/4) (i:=j%4) hk (by omega) (by omega) (by omega) (Option.some.inj hv)
end
section
open Go.RowKit

theorem ak.col {g o j i:Nat}{x:Nat->Q8}{W:World}{v:Value}(hB:ak 98 g (eM x).toArray W)(hj:j<6)(hi:i<4)(ho:o=j*4+i)(hv:(x j).cell i=v):W.cell? ⟨g,o,none⟩=some v:=by
 subst ho hv;rw[hB.cell,List.getElem?_toArray,uK x (by omega)];rw[show(j*4+i)/4=j by omega,show(j*4+i)%4=i by omega]
end
section
open Go.RowKit Go.Shelf
attribute [local go_sem] Oper.semAt_some

section
variable {v:Rat} {f:Nat->Rat} {N:Nat} (hv:xj v) (hf:sN f N) (kM:N<=80)
include hv hf kM
end
end
section
open Go.RowKit

end
section
open Go.RowKit

end
section
open Go.RowKit

section
variable {r:Nat->RH} (h:((r 0).h 0).q=Rat.divInt 1 10/\((r 0).h 1).q=Rat.divInt 1 5/\((r 1).h 0).q=Rat.divInt 1 8/\((r 1).h 1).q=Rat.divInt 1 2/\((r 2).h 0).q=Rat.divInt 1 4/\((r 2).h 1).q=Rat.divInt 1 1)
include h
theorem ahc :fr 60 1 3 r 60 0 0=Rat.divInt 1 10:=by
 show rt 60 1 3 r 60 0 0=_;unfold rt;rw[if_neg (by decide),if_pos (by decide)];exact h.1
theorem ahd :fr 60 1 3 r 60 0 1=Rat.divInt 1 2:=by
 show rt 60 1 3 r 60 0 1=_;unfold rt;rw[if_neg (by decide),if_neg (by decide)];exact h.2.2.2.1
theorem ahe :fr 60 1 3 r 60 0 2=Rat.divInt 1 1:=by
 show rt 60 1 3 r 60 0 2=_;unfold rt;rw[if_neg (by decide),if_neg (by decide)];exact h.2.2.2.2.2
end
def exf (k:Nat):Rat:=if k=0 then Rat.divInt 1 10 else if k=1 then Rat.divInt 1 2 else Rat.divInt 1 1
theorem aam {r:Nat->RH}(h:((r 0).h 0).q=Rat.divInt 1 10/\((r 0).h 1).q=Rat.divInt 1 5/\((r 1).h 0).q=Rat.divInt 1 8/\((r 1).h 1).q=Rat.divInt 1 2/\((r 2).h 0).q=Rat.divInt 1 4/\((r 2).h 1).q=Rat.divInt 1 1):∀k,k<3->fr 60 1 3 r 60 0 k=exf k:=fun k hk=>by
 rcases(show k=0\/k=1\/k=2 by omega) with rfl|rfl|rfl
 ·exact ahc h
 ·exact ahd h
 ·exact ahe h
theorem Tj {W:World}{q:Rat}{s t:Bool}{A B:Option Addr}{n m:Nat}(h:FV W q s A n t B m)(hi:zJ q):vC s n (aB aj q.num.natAbs) t m (aB aj q.den)=true:=by
 obtain⟨l1,l2⟩:=h.ln hi.fl
 have hs:s=false:=by rw[h.1.EA];exact decide_eq_false (by have:=Rat.num_nonneg.2 hi.1;omega)
 unfold vC;rw[qy h (Nat.le_trans hi.fl (by decide)),hs,decide_eq_true l1,decide_eq_true l2];rfl
theorem tY {v:Rat}{f g:Nat->Rat}(h:∀k,k<3->f k=g k):∀k,k<=3->dd v f k=dd v g k:=fun k hk=>Dc fun i hi=>h i (by omega)
theorem aal {v:Rat}{f g:Nat->Rat}(h:∀k,k<3->f k=g k):∀k,k<3->cc v f k=cc v g k:=fun k hk=>by
 unfold cc;rw[tY h k (by omega),h k hk]
def exv :Rat:=1/(1+Rat.divInt 1 4)
theorem Ny :kH exv exf 3:=by
 refine⟨by decide+kernel,fun k hk=> ?_⟩
 rcases(show k=0\/k=1\/k=2 by omega) with rfl|rfl|rfl<;>decide+kernel
end
section
open Go.RowKit

def Tl (n:Nat)(r:Nat->RH)(N:Int)(ni mi:Nat):Prop:=zk n r N 8 2/\ni<=2/\mi<=2
theorem eJ (F S N:Int)(A:Option Addr)(n c:Nat)(r:Nat->RH)(si ti:Bool)(Ai Bi:Option Addr)(ni mi ci di:Nat)(w:World)(hT:dA w A n r)(h1:0<=N)(h2:N<=1000000):
  Calls Tryz.prog 101 #[.agg (nS F S A n c si Ai ni ci ti Bi mi di),.int .i64 N] w fun e w'=>∃v,e= .returned (.bool v)/\(v=false↔Tl n r N ni mi)/\Below w.heap.size w w':=by
 by_cases hs:zk n r N 8 2
 ·
  by_cases hn:ni<=2
  ·
   have t1:decide ((2:Int)<(ni:Int))=false:=decide_eq_false (by omega)
   by_cases hm:mi<=2
   ·
    have t2:decide ((2:Int)<(mi:Int))=false:=decide_eq_false (by omega);have HN:Hid (Tl n r N ni mi):=Lib.hid ⟨hs,hn,hm⟩;have hE:=((Env.start w).sK hT).blk 31 (nS F S A n c si Ai ni ci ti Bi mi di) (g:=w.heap.size) rfl
    obtain⟨W0,aC⟩:∃W0,W0=(w.alloc (.cells (nS F S A n c si Ai ni ci ti Bi mi di) 31)):=⟨_,rfl⟩
    rw[<-aC] at hE;have aU:=Lib.hid aC;clear aC
    go_enter Tryz.func101,Tryz.ntmps101
    go_upto_region 1 with(fail)
    rw[<-aU.out];obtain⟨k1,k2,k3,k4,k5,k6,k7⟩:=(hE.here.2).c7;go_wp2_with fail
    refine(nH F S N 8 2 A n c r _ (hE.here.1.2) h1 h2 (by decide) (by decide)).mono ?_;clear k1 k2 k3 k4 k5 k6 k7
    rintro e w9 ⟨v,rfl,hv,hb⟩
    obtain rfl:v=false:=hv.2 hs;clear hv;replace hE:=hE.step hb;clear hb;obtain⟨k8,k9,eG,cS,cZ,dG,dN⟩:=(hE.here.2).c7;go_wp2_with fail
    go_ret
    exact⟨false,rfl,⟨fun _=>HN.out,fun _=>rfl⟩,hE.av⟩
   ·
    have t2:decide ((2:Int)<(mi:Int))=true:=decide_eq_true (by omega);have HN:Hid (¬Tl n r N ni mi):=Lib.hid (fun h=>hm h.2.2);have hE:=((Env.start w).sK hT).blk 31 (nS F S A n c si Ai ni ci ti Bi mi di) (g:=w.heap.size) rfl
    obtain⟨W0,aC⟩:∃W0,W0=(w.alloc (.cells (nS F S A n c si Ai ni ci ti Bi mi di) 31)):=⟨_,rfl⟩
    rw[<-aC] at hE;have aU:=Lib.hid aC;clear aC
    go_enter Tryz.func101,Tryz.ntmps101
    go_upto_region 1 with(fail)
    rw[<-aU.out];obtain⟨k1,k2,k3,k4,k5,k6,k7⟩:=(hE.here.2).c7;go_wp2_with fail
    refine(nH F S N 8 2 A n c r _ (hE.here.1.2) h1 h2 (by decide) (by decide)).mono ?_;clear k1 k2 k3 k4 k5 k6 k7
    rintro e w9 ⟨v,rfl,hv,hb⟩
    obtain rfl:v=false:=hv.2 hs;clear hv;replace hE:=hE.step hb;clear hb;obtain⟨k8,k9,eG,cS,cZ,dG,dN⟩:=(hE.here.2).c7;go_wp2_with fail
    go_ret
    exact⟨true,rfl,iZ HN.out,hE.av⟩
  ·
   have t1:decide ((2:Int)<(ni:Int))=true:=decide_eq_true (by omega);have HN:Hid (¬Tl n r N ni mi):=Lib.hid (fun h=>hn h.2.1);have hE:=((Env.start w).sK hT).blk 31 (nS F S A n c si Ai ni ci ti Bi mi di) (g:=w.heap.size) rfl
   obtain⟨W0,aC⟩:∃W0,W0=(w.alloc (.cells (nS F S A n c si Ai ni ci ti Bi mi di) 31)):=⟨_,rfl⟩
   rw[<-aC] at hE;have aU:=Lib.hid aC;clear aC
   go_enter Tryz.func101,Tryz.ntmps101
   go_upto_region 1 with(fail)
   rw[<-aU.out];obtain⟨k1,k2,k3,k4,k5,k6,k7⟩:=(hE.here.2).c7;go_wp2_with fail
   refine(nH F S N 8 2 A n c r _ (hE.here.1.2) h1 h2 (by decide) (by decide)).mono ?_;clear k1 k2 k3 k4 k5 k6 k7
   rintro e w9 ⟨v,rfl,hv,hb⟩
   obtain rfl:v=false:=hv.2 hs;clear hv;replace hE:=hE.step hb;clear hb;obtain⟨k8,k9,eG,cS,cZ,dG,dN⟩:=(hE.here.2).c7;go_wp2_with fail
   go_ret
   exact⟨true,rfl,iZ HN.out,hE.av⟩
 ·
  have HN:Hid (¬Tl n r N ni mi):=Lib.hid (fun h=>hs h.1);have hE:=((Env.start w).sK hT).blk 31 (nS F S A n c si Ai ni ci ti Bi mi di) (g:=w.heap.size) rfl
  obtain⟨W0,aC⟩:∃W0,W0=(w.alloc (.cells (nS F S A n c si Ai ni ci ti Bi mi di) 31)):=⟨_,rfl⟩
  rw[<-aC] at hE;have aU:=Lib.hid aC;clear aC
  go_enter Tryz.func101,Tryz.ntmps101
  go_upto_region 1 with(fail)
  rw[<-aU.out];obtain⟨k1,k2,k3,k4,k5,k6,k7⟩:=(hE.here.2).c7;go_wp2_with fail
  refine(nH F S N 8 2 A n c r _ (hE.here.1.2) h1 h2 (by decide) (by decide)).mono ?_;clear k1 k2 k3 k4 k5 k6 k7
  rintro e w9 ⟨v,rfl,hv,hb⟩
  obtain rfl:v=true:=by cases v with|true=>rfl|false=>exact absurd (hv.1 rfl) hs
  clear hv;replace hE:=hE.step hb;clear hb;go_wp2_with fail
  go_ret
  exact⟨true,rfl,iZ HN.out,hE.av⟩
end
section
open Go.RowKit

theorem zw {a b:Rat}{sa ta sb tb:Bool}{Aa Ba Ab Bb:Option Addr}{na ca ma da nb cb mb db:Nat}{w:World}(ha:FV w a sa Aa na ta Ba ma)(hb:FV w b sb Ab nb tb Bb mb)(la:fl a<=256)(lb:fl b<=256)(lr:fl (a+b)<=256):
  Calls Tryz.prog 102 #[.agg (az sa Aa na ca ta Ba ma da),.agg (az sb Ab nb cb tb Bb mb db)] w (FR (a+b) w):=by
 have hE:=((((Env.start w).fv ha).fv hb).blk 29 (az sa Aa na ca ta Ba ma da) (g:=w.heap.size) rfl).blk 29 (az sb Ab nb cb tb Bb mb db) (g:=w.heap.size+1) (by simp);have hE:=hE.blk 29 aY (g:=w.heap.size+1+1) (by simp)
 obtain⟨W0,aC⟩:∃W0,W0=(((w.alloc (.cells (az sa Aa na ca ta Ba ma da) 29)).alloc (.cells (az sb Ab nb cb tb Bb mb db) 29)).alloc (.cells aY 29)):=⟨_,rfl⟩
 rw[<-aC] at hE;have aU:=Lib.hid aC;clear aC
 go_enter Tryz.func102,Tryz.ntmps102
 go_upto_region 1 with(fail)
 rw[<-aU.out];obtain⟨k1,k2,k3,k4⟩:=(hE.h2).c4;obtain⟨k5,k6,k7,k8⟩:=(hE.here.1.2).c4;go_wp2_with fail
 refine hE.fr (yl (ca:=ca) (da:=da) (cb:=cb) (db:=db) hE.h4 hE.h3 la lb lr) ?_;clear hE k1 k2 k3 k4 k5 k6 k7 k8;intro sr Ar nr cr tr Br mr dr w9 hE
 go_upto_region 2 with(fail)
 obtain⟨g10,aX⟩:∃g10,g10=w9.heap.size:=⟨_,rfl⟩
 have fG:w.heap.size<g10:=by rw[aX];exact(hE.h3).lt
 have eX:w.heap.size+1<g10:=by rw[aX];exact(hE.h2).lt
 have fV:w.heap.size+1+1<g10:=by rw[aX];exact(hE.here.1.2).lt
 replace hE:=hE.blk 29 (az sr Ar nr cr tr Br mr dr) (g:=g10) aX.symm;generalize w9.alloc (.cells (az sr Ar nr cr tr Br mr dr) 29)=uV at hE⊢;rw[<-aX];clear aX;obtain⟨cS,cZ,dG,dN⟩:=(hE.here.2).c4
 have cA:w.heap.size<=w.heap.size+1+1:=by omega
 obtain⟨WW,bn,hB,hV,aQ⟩:=aO hE hE.h2 cA hE.here.1.2 cr dr;obtain⟨x0,x1,x2,x3⟩:=(hE.h2).c4;obtain⟨fQ,fR,gJ,gK⟩:=hE.h2.f4;have bJ:=Lib.hid bn;clear bn;go_wp2_with fail
 clear cS cZ dG dN;rw[<-bJ.out];obtain⟨y0,y1,y2,y3⟩:=hB.c4;refine bodyPost_ret (v:= .agg (az sr Ar nr cr tr Br mr dr)) (by simp[results,Tryz.results102,go_sem,y0,y1,y2,y3]) rfl ?_;exact⟨sr,Ar,nr,cr,tr,Br,mr,dr,rfl,hV,aQ⟩
theorem PK {a b:Rat}{sa ta sb tb:Bool}{Aa Ba Ab Bb:Option Addr}{na ca ma da nb cb mb db:Nat}{w:World}(ha:FV w a sa Aa na ta Ba ma)(hb:FV w b sb Ab nb tb Bb mb)(la:fl a<=256)(lb:fl b<=256)(lr:fl (a-b)<=256):
  Calls Tryz.prog 65 #[.agg (az sa Aa na ca ta Ba ma da),.agg (az sb Ab nb cb tb Bb mb db)] w (FR (a-b) w):=by
 have hE:=((((Env.start w).fv ha).fv hb).blk 29 (az sa Aa na ca ta Ba ma da) (g:=w.heap.size) rfl).blk 29 (az sb Ab nb cb tb Bb mb db) (g:=w.heap.size+1) (by simp);have hE:=hE.blk 29 aY (g:=w.heap.size+1+1) (by simp)
 obtain⟨W0,aC⟩:∃W0,W0=(((w.alloc (.cells (az sa Aa na ca ta Ba ma da) 29)).alloc (.cells (az sb Ab nb cb tb Bb mb db) 29)).alloc (.cells aY 29)):=⟨_,rfl⟩
 rw[<-aC] at hE;have aU:=Lib.hid aC;clear aC
 go_enter Tryz.func65,Tryz.ntmps65
 go_upto_region 1 with(fail)
 rw[<-aU.out];obtain⟨k1,k2,k3,k4⟩:=(hE.h2).c4;obtain⟨k5,k6,k7,k8⟩:=(hE.here.1.2).c4;go_wp2_with fail
 refine hE.fr (tG (ca:=ca) (da:=da) (cb:=cb) (db:=db) hE.h4 hE.h3 la lb lr) ?_;clear hE k1 k2 k3 k4 k5 k6 k7 k8;intro sr Ar nr cr tr Br mr dr w9 hE
 go_upto_region 2 with(fail)
 obtain⟨g10,aX⟩:∃g10,g10=w9.heap.size:=⟨_,rfl⟩
 have fG:w.heap.size<g10:=by rw[aX];exact(hE.h3).lt
 have eX:w.heap.size+1<g10:=by rw[aX];exact(hE.h2).lt
 have fV:w.heap.size+1+1<g10:=by rw[aX];exact(hE.here.1.2).lt
 replace hE:=hE.blk 29 (az sr Ar nr cr tr Br mr dr) (g:=g10) aX.symm;generalize w9.alloc (.cells (az sr Ar nr cr tr Br mr dr) 29)=uV at hE⊢;rw[<-aX];clear aX;obtain⟨cS,cZ,dG,dN⟩:=(hE.here.2).c4
 have cA:w.heap.size<=w.heap.size+1+1:=by omega
 obtain⟨WW,bn,hB,hV,aQ⟩:=aO hE hE.h2 cA hE.here.1.2 cr dr;obtain⟨x0,x1,x2,x3⟩:=(hE.h2).c4;obtain⟨fQ,fR,gJ,gK⟩:=hE.h2.f4;have bJ:=Lib.hid bn;clear bn;go_wp2_with fail
 clear cS cZ dG dN;rw[<-bJ.out];obtain⟨y0,y1,y2,y3⟩:=hB.c4;refine bodyPost_ret (v:= .agg (az sr Ar nr cr tr Br mr dr)) (by simp[results,Tryz.results65,go_sem,y0,y1,y2,y3]) rfl ?_;exact⟨sr,Ar,nr,cr,tr,Br,mr,dr,rfl,hV,aQ⟩
theorem Dp {a b:Rat}{sa ta sb tb:Bool}{Aa Ba Ab Bb:Option Addr}{na ca ma da nb cb mb db:Nat}{w:World}(ha:FV w a sa Aa na ta Ba ma)(hb:FV w b sb Ab nb tb Bb mb)(la:fl a<=256)(lb:fl b<=256)(lr:fl (a*b)<=256):
  Calls Tryz.prog 110 #[.agg (az sa Aa na ca ta Ba ma da),.agg (az sb Ab nb cb tb Bb mb db)] w (FR (a*b) w):=by
 have hE:=((((Env.start w).fv ha).fv hb).blk 29 (az sa Aa na ca ta Ba ma da) (g:=w.heap.size) rfl).blk 29 (az sb Ab nb cb tb Bb mb db) (g:=w.heap.size+1) (by simp);have hE:=hE.blk 29 aY (g:=w.heap.size+1+1) (by simp)
 obtain⟨W0,aC⟩:∃W0,W0=(((w.alloc (.cells (az sa Aa na ca ta Ba ma da) 29)).alloc (.cells (az sb Ab nb cb tb Bb mb db) 29)).alloc (.cells aY 29)):=⟨_,rfl⟩
 rw[<-aC] at hE;have aU:=Lib.hid aC;clear aC
 go_enter Tryz.func110,Tryz.ntmps110
 go_upto_region 1 with(fail)
 rw[<-aU.out];obtain⟨k1,k2,k3,k4⟩:=(hE.h2).c4;obtain⟨k5,k6,k7,k8⟩:=(hE.here.1.2).c4;go_wp2_with fail
 refine hE.fr (tH (ca:=ca) (da:=da) (cb:=cb) (db:=db) hE.h4 hE.h3 la lb lr) ?_;clear hE k1 k2 k3 k4 k5 k6 k7 k8;intro sr Ar nr cr tr Br mr dr w9 hE
 go_upto_region 2 with(fail)
 obtain⟨g10,aX⟩:∃g10,g10=w9.heap.size:=⟨_,rfl⟩
 have fG:w.heap.size<g10:=by rw[aX];exact(hE.h3).lt
 have eX:w.heap.size+1<g10:=by rw[aX];exact(hE.h2).lt
 have fV:w.heap.size+1+1<g10:=by rw[aX];exact(hE.here.1.2).lt
 replace hE:=hE.blk 29 (az sr Ar nr cr tr Br mr dr) (g:=g10) aX.symm;generalize w9.alloc (.cells (az sr Ar nr cr tr Br mr dr) 29)=uV at hE⊢;rw[<-aX];clear aX;obtain⟨cS,cZ,dG,dN⟩:=(hE.here.2).c4
 have cA:w.heap.size<=w.heap.size+1+1:=by omega
 obtain⟨WW,bn,hB,hV,aQ⟩:=aO hE hE.h2 cA hE.here.1.2 cr dr;obtain⟨x0,x1,x2,x3⟩:=(hE.h2).c4;obtain⟨fQ,fR,gJ,gK⟩:=hE.h2.f4;have bJ:=Lib.hid bn;clear bn;go_wp2_with fail
 clear cS cZ dG dN;rw[<-bJ.out];obtain⟨y0,y1,y2,y3⟩:=hB.c4;refine bodyPost_ret (v:= .agg (az sr Ar nr cr tr Br mr dr)) (by simp[results,Tryz.results110,go_sem,y0,y1,y2,y3]) rfl ?_;exact⟨sr,Ar,nr,cr,tr,Br,mr,dr,rfl,hV,aQ⟩
theorem U7 {a b:Rat}{sa ta sb tb:Bool}{Aa Ba Ab Bb:Option Addr}{na ca ma da nb cb mb db:Nat}{w:World}(ha:FV w a sa Aa na ta Ba ma)(hb:FV w b sb Ab nb tb Bb mb)(la:fl a<=256)(lb:fl b<=256)(h0:b.num≠0)(lr:fl (a/b)<=256):
  Calls Tryz.prog 67 #[.agg (az sa Aa na ca ta Ba ma da),.agg (az sb Ab nb cb tb Bb mb db)] w (FR (a/b) w):=by
 have hE:=((((Env.start w).fv ha).fv hb).blk 29 (az sa Aa na ca ta Ba ma da) (g:=w.heap.size) rfl).blk 29 (az sb Ab nb cb tb Bb mb db) (g:=w.heap.size+1) (by simp);have hE:=hE.blk 29 aY (g:=w.heap.size+1+1) (by simp)
 obtain⟨W0,aC⟩:∃W0,W0=(((w.alloc (.cells (az sa Aa na ca ta Ba ma da) 29)).alloc (.cells (az sb Ab nb cb tb Bb mb db) 29)).alloc (.cells aY 29)):=⟨_,rfl⟩
 rw[<-aC] at hE;have aU:=Lib.hid aC;clear aC
 go_enter Tryz.func67,Tryz.ntmps67
 go_upto_region 1 with(fail)
 rw[<-aU.out];obtain⟨k1,k2,k3,k4⟩:=(hE.h2).c4;obtain⟨k5,k6,k7,k8⟩:=(hE.here.1.2).c4;go_wp2_with fail
 refine hE.fr (qM (ca:=ca) (da:=da) (cb:=cb) (db:=db) hE.h4 hE.h3 la lb h0 lr) ?_;clear hE k1 k2 k3 k4 k5 k6 k7 k8;intro sr Ar nr cr tr Br mr dr w9 hE
 go_upto_region 2 with(fail)
 obtain⟨g10,aX⟩:∃g10,g10=w9.heap.size:=⟨_,rfl⟩
 have fG:w.heap.size<g10:=by rw[aX];exact(hE.h3).lt
 have eX:w.heap.size+1<g10:=by rw[aX];exact(hE.h2).lt
 have fV:w.heap.size+1+1<g10:=by rw[aX];exact(hE.here.1.2).lt
 replace hE:=hE.blk 29 (az sr Ar nr cr tr Br mr dr) (g:=g10) aX.symm;generalize w9.alloc (.cells (az sr Ar nr cr tr Br mr dr) 29)=uV at hE⊢;rw[<-aX];clear aX;obtain⟨cS,cZ,dG,dN⟩:=(hE.here.2).c4
 have cA:w.heap.size<=w.heap.size+1+1:=by omega
 obtain⟨WW,bn,hB,hV,aQ⟩:=aO hE hE.h2 cA hE.here.1.2 cr dr;obtain⟨x0,x1,x2,x3⟩:=(hE.h2).c4;obtain⟨fQ,fR,gJ,gK⟩:=hE.h2.f4;have bJ:=Lib.hid bn;clear bn;go_wp2_with fail
 clear cS cZ dG dN;rw[<-bJ.out];obtain⟨y0,y1,y2,y3⟩:=hB.c4;refine bodyPost_ret (v:= .agg (az sr Ar nr cr tr Br mr dr)) (by simp[results,Tryz.results67,go_sem,y0,y1,y2,y3]) rfl ?_;exact⟨sr,Ar,nr,cr,tr,Br,mr,dr,rfl,hV,aQ⟩
end
end Go.Proofs.YtclbiihcbfnjmaaGreat
