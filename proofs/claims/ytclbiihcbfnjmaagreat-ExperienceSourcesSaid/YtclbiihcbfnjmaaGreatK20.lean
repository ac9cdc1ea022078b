/-
  Parts.
-/
import Derived.Test.YtclbiihcbfnjmaaGreatC2
import Derived.Test.YtclbiihcbfnjmaaGreatC3
set_option maxRecDepth 100000
set_option linter.unusedSimpArgs false
set_option maxHeartbeats 8000000
namespace Go.Proofs.YtclbiihcbfnjmaaGreat
section
open Go.RowKit

def aas (w:World)(N:Nat)(J:Nat->Nat->Prop)(q:Nat->Nat->Rat)(e:Ending)(w':World):Prop:=
 ∃cv h,e= .returned (.tuple #[cv,.int .i64 0])/\fY w.heap.size cv N h w'/\cK h N J q w'/\Below w.heap.size w w'
def Jp (i:Nat)(_ j:Nat):Prop:=i=3\/(1<=i/\(j=0\/j=3))\/(2<=i/\(j=1\/j=4))
theorem Yg (p:Value)(w:World):Calls Tryz.prog 56 #[p] w fun e w'=>e= .returned (.slice (some ⟨w.heap.size,0,none⟩) 3 3)/\w'=w.alloc (.cells #[.func (.func 57) #[p] #[],.func (.func 58) #[p] #[],.func (.func 59) #[p] #[]] 1):=by
 go_enter Tryz.func56,Tryz.ntmps56
 go_wp2_with fail
 go_ret
 exact⟨rfl,rfl⟩
theorem SE {F S E Y:Int}{A:Option Addr}{n c:Nat}{r:Nat->RH}{si ti:Bool}{Ai Bi:Option Addr}{ni ci mi di:Nat}{fi gi:Nat->Nat}{w:World}(hT:eZ w A n r)(hB:nJ n r)(hr:kA w Ai ni fi Bi mi gi)(hn:ni<=1000000)(hm:mi<=1000000)(vt:SB F S n r si ni fi ti mi gi)(hR:dH F S n r E Y)(N:Nat)(hN:lT (1/(1+yz si ni fi mi gi)) (fr F S n r E Y) N)(lZ:N<=80):
  Calls Tryz.prog 55 #[.agg (uW F S A n c si Ai ni ci ti Bi mi di),.agg #[.int .i64 E,.int .i64 Y],.func (.func 56) #[] #[]] w (aas w N (fun _ _=>True) (bP (1/(1+yz si ni fi mi gi)) (fr F S n r E Y) N)):=by
 obtain⟨TJ,hi⟩:=EM hr vt.2;have MC:0<N:=hN.pos;have ad7:=hi.MK;have zi:=iB hT hR N
 obtain⟨Z,hZ⟩:∃z,z=yz si ni fi mi gi:=⟨_,rfl⟩
 obtain⟨f,hf⟩:∃f,f=fr F S n r E Y:=⟨_,rfl⟩
 rw[<-hZ] at TJ hi ad7;rw[<-hZ,<-hf] at hN⊢
 have hrf:uE f N:=by rw[hf];exact zi
 clear zi;have Co:=af hT;clear hT;have TG:=af hB;clear hB;have Hhr:=af hr;clear hr;have OE:=af vt;clear vt;have FJ:=af hR;clear hR;have rV:=af hN;clear hN;have ab9:=af TJ;clear TJ;have YX:=af hi;clear hi;have aat:=af ad7;clear ad7;have ajp:=af hrf;clear hrf;have HhZ:=af hZ;clear hZ;have YW:=af hf;clear hf;have hE:=((Env.start w).blk 31 (uW F S A n c si Ai ni ci ti Bi mi di) (g:=w.heap.size) rfl).blk 33 #[.int .i64 E,.int .i64 Y] (g:=w.heap.size+1) (by simp)
 obtain⟨W0,aC⟩:∃W0,W0=((w.alloc (.cells (uW F S A n c si Ai ni ci ti Bi mi di) 31)).alloc (.cells #[.int .i64 E,.int .i64 Y] 33)):=⟨_,rfl⟩
 rw[<-aC] at hE;have aZ:=af aC;clear aC
 go_enter Tryz.func55,Tryz.ntmps55
 go_upto_region 1 with(fail)
 rw[<-aZ.out];obtain⟨k1,k2,k3,k4,k5,k6,k7⟩:=(hE.g1).c7;obtain⟨k8,k9⟩:=(hE.g0).c2;go_wp2_with fail
 refine hE.br (SC (c:=c) (ci:=ci) (di:=di) (Co.out.below hE.ax) TG.out (Hhr.out.below hE.ax) hn hm OE.out) ?_;clear hE k1 k2 k3 k4 k5 k6 k7 k8 k9;intro rU hE;obtain⟨dX,dY,eu,eF,iA,kz,lU⟩:=(hE.g1).c7;obtain⟨jS,kT⟩:=(hE.g0).c2;go_wp2_with fail
 refine hE.br (wF (c:=c) (Co.out.below hE.ax) TG.out FJ.out) ?_;clear hE dX dY eu eF iA kz lU jS kT;intro w20 hE;obtain⟨lV,lW,nC,rP,pU,nQ,qH⟩:=(hE.g1).c7;obtain⟨pM,Fy⟩:=(hE.g0).c2
 go_upto_region 4 with(fail)
 clear lV lW nC rP pU nQ qH pM Fy
 obtain⟨kr,uA⟩:∃kr,kr=w20.heap.size:=⟨_,rfl⟩
 have apV:w.heap.size<kr:=by rw[uA];exact(hE.g1).lt
 have apW:w.heap.size+1<kr:=by rw[uA];exact(hE.g0).lt
 replace hE:=hE.blk 133 #[.int .i64 F,.int .i64 S,.slice A n c,.bool si,.slice Ai ni ci,.bool ti,.slice Bi mi di,.int .i64 E,.int .i64 Y,.slice none 0 0] (g:=kr) uA.symm;generalize w20.alloc (.cells #[.int .i64 F,.int .i64 S,.slice A n c,.bool si,.slice Ai ni ci,.bool ti,.slice Bi mi di,.int .i64 E,.int .i64 Y,.slice none 0 0] 133)=W30 at hE⊢;rw[<-uA];clear uA;go_wp2_with fail
 refine(Yg _ _).mono ?_
 rintro e w31 ⟨rfl,rfl⟩
 obtain⟨FF,LY⟩:∃FF,FF=W30.heap.size:=⟨_,rfl⟩
 have apX:w.heap.size<FF:=by rw[LY];exact(hE.h2).lt
 have apY:w.heap.size+1<FF:=by rw[LY];exact(hE.g1).lt
 have apZ:kr<FF:=by rw[LY];exact(hE.g0).lt
 replace hE:=hE.blk 1 #[.func (.func 57) #[.pointer (some ⟨kr,0,none⟩)] #[],.func (.func 58) #[.pointer (some ⟨kr,0,none⟩)] #[],.func (.func 59) #[.pointer (some ⟨kr,0,none⟩)] #[]] (g:=FF) LY.symm;generalize W30.alloc (.cells #[.func (.func 57) #[.pointer (some ⟨kr,0,none⟩)] #[],.func (.func 58) #[.pointer (some ⟨kr,0,none⟩)] #[],.func (.func 59) #[.pointer (some ⟨kr,0,none⟩)] #[]] 1)=TM at hE⊢;rw[<-LY];clear LY;go_wp2_with fail
 have vg:w.heap.size<=kr:=by omega
 go_loopw [29] (fun x wr=>∃(z:Int) (i m:Nat) (cs0:Value) (h:Nat->Nat->Q8),x= .int .i64 z/\z=(i:Int)/\i<=3/\((i=0/\m=0/\cs0= .slice none 0 0)\/(0<i/\m=N))/\Env w (fun V=>((((True/\au 133 (kr) #[.int .i64 F,.int .i64 S,.slice A n c,.bool si,.slice Ai ni ci,.bool ti,.slice Bi mi di,.int .i64 E,.int .i64 Y,cs0] V)/\au 1 (FF) #[.func (.func 57) #[.pointer (some ⟨kr,0,none⟩)] #[],.func (.func 58) #[.pointer (some ⟨kr,0,none⟩)] #[],.func (.func 59) #[.pointer (some ⟨kr,0,none⟩)] #[]] V)/\fY w.heap.size cs0 m h V)/\cK h m (Jp i) (bP (1/(1+Z)) f N) V)) wr) (fun x _=>(3-intOf x).toNat)
 case atStart=>
  exact⟨0,0,0,.slice none 0 0,fun _ _=>Q8.z,rfl,rfl,by decide,.inl ⟨rfl,rfl,rfl⟩,(((((Env.again hE.ax).ag (hE.g1)).ag (hE.g0)).gF (.inl ⟨rfl,rfl⟩)).bP (fun k hk=>absurd hk (nY _)))⟩
 case round=>
  clear hE;obtain⟨z,i,m,cs0,h,rfl,hz,hi3,him,hE⟩:=hrel
  rcases(show i=0\/i=1\/i=2\/i=3 by omega) with rfl|rfl|rfl|rfl
  ·
   obtain rfl:z=0:=hz;obtain⟨rfl,rfl⟩:m=0/\cs0= .slice none 0 0:=him.elim (fun h=>h.2) (fun h=>absurd h.1 (by decide));have ad8:=(hE.h2).cell 0;have ad9:=(hE.h2).cell 1;have aea:=(hE.h2).cell 2;replace ad8:wr.cell? ⟨FF,0,none⟩=some (.func (.func 57) #[.pointer (some ⟨kr,0,none⟩)] #[]):=ad8;replace ad9:wr.cell? ⟨FF,1,none⟩=some (.func (.func 58) #[.pointer (some ⟨kr,0,none⟩)] #[]):=ad9;replace aea:wr.cell? ⟨FF,2,none⟩=some (.func (.func 59) #[.pointer (some ⟨kr,0,none⟩)] #[]):=aea;go_wp2_with fail
   refine(TY (w:=w) (u:=wr) hE.ax Co.out TG.out ab9.out YX.out FJ.out N (YW.out▸rV.out) lZ kr vg (hE.h3)).mono ?_
   rintro e w9 ⟨⟨x,rfl⟩,cs1,h1,eD,Lm,hq1,TS,lN⟩
   rw[<-YW.out] at hq1;replace hE:=(((((Env.again lN).ag (eD)).ag ((hE.h2).kept TS (by omega))).gF (Lm.mono hE.ax.size)).bP (cK.sub (J':=Jp 1) hq1 (fun _ _ _ _ hj=>by(try dsimp only);unfold Jp at hj;omega)));clear eD Lm hq1 TS lN;clear ad8 ad9 aea;go_wp2_with fail
   go_roundw
   case rel=>exact⟨1,1,_,_,_,rfl,rfl,by decide,.inr ⟨by decide,rfl⟩,hE⟩
   case measure=>simp[intOf]
  ·
   obtain rfl:z=1:=hz;obtain rfl:m=N:=him.elim (fun h=>absurd h.1 (by decide)) (fun h=>h.2);have eG:fY w.heap.size cs0 m h wr:=hE.g1
   rcases eG with⟨rfl,h0⟩|⟨gc,cap,rfl,WN,qI⟩
   ·omega
   have aeb:=(hE.h2).cell 0;have aec:=(hE.h2).cell 1;have aed:=(hE.h2).cell 2;replace aeb:wr.cell? ⟨FF,0,none⟩=some (.func (.func 57) #[.pointer (some ⟨kr,0,none⟩)] #[]):=aeb;replace aec:wr.cell? ⟨FF,1,none⟩=some (.func (.func 58) #[.pointer (some ⟨kr,0,none⟩)] #[]):=aec;replace aed:wr.cell? ⟨FF,2,none⟩=some (.func (.func 59) #[.pointer (some ⟨kr,0,none⟩)] #[]):=aed;go_wp2_with fail
   refine(Ui (w:=w) (u:=wr) hE.ax aat.out ajp.out lZ MC vg WN (hE.h3) qI (cK.sub (hE.g0) (fun _ _ _ _ hj=>by(try dsimp only at hj);unfold Jp;omega))).mono ?_
   rintro e w9 ⟨⟨x,rfl⟩,h1,qM,hq1,TS,lN⟩
   replace hE:=(((((Env.again lN).ag ((hE.h3).kept TS (au.mB (hE.h3) qI (by decide)))).ag ((hE.h2).kept TS (au.mB (hE.h2) qI (by decide)))).gF (.inr ⟨gc,cap,rfl,WN,qM⟩)).bP (cK.sub (J':=Jp 2) hq1 (fun _ _ _ _ hj=>by(try dsimp only);unfold Jp at hj;omega)));clear qM hq1 TS lN qI;clear aeb aec aed;go_wp2_with fail
   go_roundw
   case rel=>exact⟨2,2,_,_,_,rfl,rfl,by decide,.inr ⟨by decide,rfl⟩,hE⟩
   case measure=>simp[intOf]
  ·
   obtain rfl:z=2:=hz;obtain rfl:m=N:=him.elim (fun h=>absurd h.1 (by decide)) (fun h=>h.2);have eG:fY w.heap.size cs0 m h wr:=hE.g1
   rcases eG with⟨rfl,h0⟩|⟨gc,cap,rfl,WN,qI⟩
   ·omega
   have aee:=(hE.h2).cell 0;have aef:=(hE.h2).cell 1;have aeg:=(hE.h2).cell 2;replace aee:wr.cell? ⟨FF,0,none⟩=some (.func (.func 57) #[.pointer (some ⟨kr,0,none⟩)] #[]):=aee;replace aef:wr.cell? ⟨FF,1,none⟩=some (.func (.func 58) #[.pointer (some ⟨kr,0,none⟩)] #[]):=aef;replace aeg:wr.cell? ⟨FF,2,none⟩=some (.func (.func 59) #[.pointer (some ⟨kr,0,none⟩)] #[]):=aeg;go_wp2_with fail
   refine(Om (w:=w) (u:=wr) hE.ax aat.out ajp.out lZ MC vg WN (hE.h3) qI (cK.sub (hE.g0) (fun _ _ _ _ hj=>by(try dsimp only at hj);unfold Jp;omega))).mono ?_
   rintro e w9 ⟨⟨x,rfl⟩,h1,qM,hq1,TS,lN⟩
   replace hE:=(((((Env.again lN).ag ((hE.h3).kept TS (au.mB (hE.h3) qI (by decide)))).ag ((hE.h2).kept TS (au.mB (hE.h2) qI (by decide)))).gF (.inr ⟨gc,cap,rfl,WN,qM⟩)).bP (cK.sub (J':=Jp 3) hq1 (fun _ _ _ _ hj=>trivial)));clear qM hq1 TS lN qI;clear aee aef aeg;go_wp2_with fail
   go_roundw
   case rel=>exact⟨3,3,_,_,_,rfl,rfl,by decide,.inr ⟨by decide,rfl⟩,hE⟩
   case measure=>simp[intOf]
  ·
   obtain rfl:z=3:=hz;obtain rfl:m=N:=him.elim (fun h=>absurd h.1 (by decide)) (fun h=>h.2);obtain⟨tD,Oo,Un,KN,Cp,xj,xP,Cq,Fz,Iw⟩:=(hE.h3).cB;go_wp2_with fail
   refine aK (v:= .tuple #[cs0,.int .i64 0]) (by simp[results,Tryz.results55,go_sem]) rfl ?_;exact⟨cs0,h,rfl,hE.g1,cK.sub (hE.g0) (fun _ _ _ _ hj=> .inl rfl),hE.ax⟩
theorem Ho {F S E Y:Int}{A:Option Addr}{n c:Nat}{r:Nat->RH}{si ti:Bool}{Ai Bi:Option Addr}{ni ci mi di:Nat}{fi gi:Nat->Nat}{w:World}(hT:eZ w A n r)(hB:nJ n r)(hr:kA w Ai ni fi Bi mi gi)(hn:ni<=1000000)(hm:mi<=1000000)(vt:SB F S n r si ni fi ti mi gi)(hR:dH F S n r E Y)(N:Nat)(hN:lT (1/(1+yz si ni fi mi gi)) (fr F S n r E Y) N)(lZ:N<=80):
  Calls Tryz.prog 17 #[.agg (uW F S A n c si Ai ni ci ti Bi mi di),.agg #[.int .i64 E,.int .i64 Y]] w (aas w N (fun _ _=>True) (bP (1/(1+yz si ni fi mi gi)) (fr F S n r E Y) N)):=by
 have Co:=af hT;clear hT;have TG:=af hB;clear hB;have Hhr:=af hr;clear hr;have OE:=af vt;clear vt;have FJ:=af hR;clear hR;have rV:=af hN;clear hN;have hE:=((Env.start w).blk 31 (uW F S A n c si Ai ni ci ti Bi mi di) (g:=w.heap.size) rfl).blk 33 #[.int .i64 E,.int .i64 Y] (g:=w.heap.size+1) (by simp)
 obtain⟨W0,aC⟩:∃W0,W0=((w.alloc (.cells (uW F S A n c si Ai ni ci ti Bi mi di) 31)).alloc (.cells #[.int .i64 E,.int .i64 Y] 33)):=⟨_,rfl⟩
 rw[<-aC] at hE;have aZ:=af aC;clear aC
 go_enter Tryz.func17,Tryz.ntmps17
 go_upto_region 1 with(fail)
 rw[<-aZ.out];obtain⟨k1,k2,k3,k4,k5,k6,k7⟩:=(hE.g1).c7;obtain⟨k8,k9⟩:=(hE.g0).c2;go_wp2_with fail
 refine(SE (c:=c) (ci:=ci) (di:=di) (Co.out.below hE.ax) TG.out (Hhr.out.below hE.ax) hn hm OE.out FJ.out N rV.out lZ).mono ?_;clear k1 k2 k3 k4 k5 k6 k7 k8 k9
 rintro e w9 ⟨cv,h,rfl,hv,hq,hb⟩
 have hsz:=hE.ax.size;replace hE:=hE.step hb;go_wp2_with fail
 refine aK (v:= .tuple #[cv,.int .i64 0]) (by simp[results,Tryz.results17,go_sem]) rfl ?_;exact⟨cv,h,rfl,hv.mono hsz,hq,hE.ax⟩
end
section
open Go.RowKit

structure Bh where
 F:Int
 S:Int
 A:Option Addr
 n:Nat
 c:Nat
 r:Nat->RH
 i:FH
abbrev Bh.C (b:Bh):Array Value:=#[.int .i64 b.F,.int .i64 b.S,.slice b.A b.n b.c,.bool b.i.s,.slice b.i.A b.i.n b.i.c,.bool b.i.t,.slice b.i.B b.i.m b.i.d]
def Bh.rd (b:Bh)(w:World):Prop:=eZ w b.A b.n b.r/\b.i.rd w
def Bh.bd (b:Bh):Prop:=nJ b.n b.r/\b.i.n<=1000000/\b.i.m<=1000000
def Bh.ok (b:Bh):Prop:=SB b.F b.S b.n b.r b.i.s b.i.n b.i.f b.i.t b.i.m b.i.g
def Bh.v (b:Bh):Rat:=1/(1+b.i.q)
def Bh.rt (b:Bh)(E Y:Int):Nat->Rat:=fr b.F b.S b.n b.r E Y
def Bh.right (b:Bh)(E Y:Int):Prop:=dH b.F b.S b.n b.r E Y
theorem Bh.aN {b:Bh}{w w':World}(h:b.rd w)(hb:Below w.heap.size w w'):b.rd w':=⟨h.1.below hb,kA.below h.2 hb⟩
theorem Bh.fv {b:Bh}{w:World}(h:b.rd w)(ho:b.ok):FV w b.i.q b.i.s b.i.A b.i.n b.i.t b.i.B b.i.m/\Cn b.i.q:=EM h.2 ho.2
theorem Bh.MK {b:Bh}{w:World}(h:b.rd w)(ho:b.ok):zh b.v:=(Bh.fv h ho).2.MK
theorem Bh.v_i {b:Bh}{w:World}(h:b.rd w)(ho:b.ok):b.v*(1+b.i.q)=1:=by
 have h0:=(Bh.fv h ho).2.1;unfold Bh.v;exact Rat.div_mul_cancel (by grind)
def rR (A:Option Addr)(n:Nat)(l:Nat->Int)(w:World):Prop:=∀k,k<n->∃b o,A=some ⟨b,o,none⟩/\At b (o+k) (.int .i64 (l k)) w
theorem rR.stable (A:Option Addr)(n:Nat)(l:Nat->Int):ck (rR A n l):=fun _ _ hb h k hk=>by
 obtain⟨b,o,e,ha⟩:=h k hk;exact⟨b,o,e,At.stable _ _ _ _ _ hb ha⟩
theorem rR.below {A:Option Addr}{n:Nat}{l:Nat->Int}{w w':World}(h:rR A n l w)(hb:Below w.heap.size w w'):rR A n l w':=rR.stable _ _ _ _ _ hb h
theorem rR.nil {l:Nat->Int}{w:World}(A:Option Addr):rR A 0 l w:=fun _ h=>absurd h (by omega)
structure Ct where
 E:Int
 Y:Int
 T:Int
 p:FH
 A:Option Addr
 n:Nat
 c:Nat
 l:Nat->Int
 B:Option Addr
 m:Nat
 d:Nat
 k:Nat->Int
abbrev Ct.Q (x:Ct)(g n c:Nat):Array Value:=#[.int .i64 x.E,.int .i64 x.Y,.int .i64 x.T,.bool x.p.s,.slice x.p.A x.p.n x.p.c,.bool x.p.t,.slice x.p.B x.p.m x.p.d,.slice x.A x.n x.c,.slice x.B x.m x.d,.slice (some ⟨g,0,none⟩) n c]
abbrev Ct.C (x:Ct):Array Value:=#[.int .i64 x.E,.int .i64 x.Y,.int .i64 x.T,.bool x.p.s,.slice x.p.A x.p.n x.p.c,.bool x.p.t,.slice x.p.B x.p.m x.p.d,.slice x.A x.n x.c,.slice x.B x.m x.d]
def Ct.rd (x:Ct)(w:World):Prop:=x.p.rd w/\rR x.A x.n x.l w/\rR x.B x.m x.k w
def Ct.bd (x:Ct):Prop:=(-9223372036854775808<=x.T/\x.T<=9223372036854775807)/\(x.p.n<=1000000/\x.p.m<=1000000)/\(x.n<=1000000/\x.m<=1000000)
theorem Ct.aN {x:Ct}{w w':World}(h:x.rd w)(hb:Below w.heap.size w w'):x.rd w':=⟨kA.below h.1 hb,h.2.1.below hb,h.2.2.below hb⟩
def DS (n:Nat)(l:Nat->Int):Prop:=n<=120/\∀k,k<n->0<=l k/\l k<=1099511627776
def Ct.ok (x:Ct)(b:Bh):Prop:=b.ok/\b.right x.E x.Y/\(0<=x.T/\x.T<=120)/\(okF x.p.s x.p.n x.p.f x.p.t x.p.m x.p.g=true/\x.p.s=false/\x.p.n<=4/\x.p.m<=4)/\DS x.n x.l/\DS x.m x.k
theorem Ct.Ge {x:Ct}{b:Bh}{w:World}(h:x.rd w)(ho:x.ok b):FV w x.p.q x.p.s x.p.A x.p.n x.p.t x.p.B x.p.m/\0<=x.p.q/\x.p.q.num.natAbs<=ai^4/\x.p.q.den<=ai^4:=by
 obtain⟨-,-,-,⟨h1,h2,h3,h4⟩,-,-⟩:=ho;obtain⟨hv,-,-,-⟩:=Ed h.1 h1;have e:x.p.q=yz x.p.s x.p.n x.p.f x.p.m x.p.g:=rfl;rw[<-e] at hv;refine⟨hv, ?_, ?_, ?_⟩
 ·
  have:=hv.1.AM;rw[h2] at this;have:=qf this.symm;exact mN.1 (by omega)
 ·
  have:=hv.1.len;exact bG ((bJ aA).1 (by omega))
 ·
  have:=hv.2.len;rw[bV] at this;exact bG ((bJ aA).1 (by omega))
def kS (p:Value)(L:Nat->Rat)(N:Nat)(w:World):Prop:=
 ∃g caps,p= .func (.func g) #[] caps/\(∀args W,(callFunc g args).run Tryz.prog W= .ok (.enter g args) W)/\
  ∀W,Below w.heap.size w W->∀k:Nat,k<=N->Calls Tryz.prog g (#[.int .i64 (k:Int)]++caps) W (FR (L k) W)
theorem kS.below {p:Value}{L:Nat->Rat}{N:Nat}{w w':World}(h:kS p L N w)(hb:Below w.heap.size w w'):kS p L N w':=by
 obtain⟨g,caps,e,eg,hc⟩:=h;exact⟨g,caps,e,eg,fun W hW k hk=>hc W (hb.trans (hW.mono hb.size)) k hk⟩
theorem iG {W:World}{b o:Nat}{v:Value}(h:W.cell? ⟨b,o,none⟩=some v):W.setCell ⟨b,o,none⟩ v=W:=by
 have e:W.heap.modify b (fun
   | .cells c elem frozen=> .cells (if(none:Option Nat).isSome then c else c.setIfInBounds o v) elem frozen
   |o=>o)=W.heap:=by
  apply Array.ext (by simp);intro i h1 h2;rw[Array.getElem_modify]
  split
  ·
   rename_i e;subst e;unfold World.cell? at h;rw[qh h2] at h
   split at h
   ·
    rename_i c t f e2;rw[kC e2];simp only[Option.isSome_none,Bool.false_eq_true,if_false] at h⊢
    congr 1
    apply Array.ext (by simp);intro j h3 h4;rw[Array.getElem_setIfInBounds]
    split
    ·
     rename_i e3;subst e3;rw[qh h4] at h;exact(kC h).symm
    ·rfl
   ·cases h
  ·rfl
 exact gn (fun h=>({W with heap:=h}:World)) e
end
section
open Go.ChangeShapes Go.WideShapes Go.ChangeAt Go.RowKit Go.Deep

theorem yT : Tryz.prog.cellsOf 36=9:=by kernel_rfl
theorem ajq : Tryz.prog.cellsOf 34=1:=by kernel_rfl
theorem EO {α:Type}{l:List α}(h:l.length=9):∃a b c d e f g i j,l=[a,b,c,d,e,f,g,i,j]:=by
 match l,h with
 |[a,b,c,d,e,f,g,i,j],_=>exact⟨a,b,c,d,e,f,g,i,j,rfl⟩
theorem EP {α:Type}{l:List α}(h:l.length=5):∃a b c d e,l=[a,b,c,d,e]:=by
 match l,h with
 |[a,b,c,d,e],_=>exact⟨a,b,c,d,e,rfl⟩
def Ct.cells (x:Ct):List Value:=[.int .i64 x.E,.int .i64 x.Y,.int .i64 x.T,.bool x.p.s,.slice x.p.A x.p.n x.p.c,.bool x.p.t,.slice x.p.B x.p.m x.p.d,.slice x.A x.n x.c,.slice x.B x.m x.d]
def Yi (z:Int):Prop:=-9223372036854775808<=z/\z<=9223372036854775807
section
variable {H:Type} {enc:TypeId×Value->H} {W:World}
theorem yU {fuel:Nat}{cs:List Value}{x:DataW H×List MemPlace}(h:DataW.trod enc Tryz.prog W 0 (fun _=>true) true fuel 34 cs=some x):
  ∃A n c l,cs=[.slice A n c]/\rR A n l W/\∀k,Yi (l k):=by
 rcases open_ints Tryz.underlying34 Tryz.underlying3 Su h with⟨e1,-⟩|⟨a,len,cap,zs,e1,-,hlc,hcm,hzl,-,hc,hwf⟩
 ·exact⟨none,0,0,fun _=>0,e1,rR.nil none,fun _=>show Yi 0 from⟨by decide,by decide⟩⟩
 ·
  replace hzl:zs.length=cap:=by simpa using hzl
  refine⟨some a,len,cap,fun j=>zs.getD j 0,e1,fun k hk=> ?_,fun k=> ?_⟩
  ·
   obtain⟨b,o,rfl,hcell⟩:=ints_at hc (by omega);have h1:=hcell k (by omega);exact⟨b,o,rfl,rF h1,h1⟩
  ·
   show Yi (zs.getD k 0);rw[List.getD_eq_getElem?_getD];exact range_i64 hwf k
theorem ER {fuel:Nat}{cs:List Value}{x:DataW H×List MemPlace}(h:DataW.trod enc Tryz.prog W 0 (fun _=>true) true fuel 33 cs=some x):
  ∃E Y,cs=[.int .i64 E,.int .i64 Y]:=by
 obtain⟨xs,k,-,-,hl,hx,hi⟩:=nk Tryz.underlying33 h;obtain⟨c0,c1,rfl⟩:=jq (hl.trans aaj);obtain⟨x0,x1,rfl⟩:=jq hx;have h0:DataW.trod enc Tryz.prog W 0 (fun _=>true) true k 3 (([c0,c1].drop 0).take (Tryz.prog.cellsOf 3))=some x0:=hi 0 _ rfl;have h1:DataW.trod enc Tryz.prog W 0 (fun _=>true) true k 3 (([c0,c1].drop 1).take (Tryz.prog.cellsOf 3))=some x1:=hi 1 _ rfl;rw[Su] at h0 h1;simp only[List.drop_zero,List.take_succ_cons,List.take_zero,List.drop_succ_cons] at h0 h1;obtain⟨E,e0,-,-⟩:=kL Tryz.underlying3 h0;obtain⟨Y,e1,-,-⟩:=kL Tryz.underlying3 h1
 injection e0 with e0
 injection e1 with e1
 exact⟨E,Y,by rw[e0,e1]⟩
theorem uc {fuel:Nat}{cs:List Value}{x:DataW H×List MemPlace}(h:DataW.trod enc Tryz.prog W 0 (fun _=>true) true fuel 36 cs=some x):
  ∃x:Ct,cs=x.cells/\x.rd W/\Yi x.T/\(∀k,Yi (x.l k))/\∀k,Yi (x.k k):=by
 obtain⟨xs,k,-,-,hl,hx,hi⟩:=nk Tryz.underlying36 h;obtain⟨c0,c1,c2,c3,c4,c5,c6,c7,c8,rfl⟩:=EO (hl.trans yT);obtain⟨x0,x1,x2,x3,x4,rfl⟩:=EP hx;have h0:DataW.trod enc Tryz.prog W 0 (fun _=>true) true k 33 (([c0,c1,c2,c3,c4,c5,c6,c7,c8].drop 0).take (Tryz.prog.cellsOf 33))=some x0:=hi 0 _ rfl;have h1:DataW.trod enc Tryz.prog W 0 (fun _=>true) true k 3 (([c0,c1,c2,c3,c4,c5,c6,c7,c8].drop 2).take (Tryz.prog.cellsOf 3))=some x1:=hi 1 _ rfl;have h2:DataW.trod enc Tryz.prog W 0 (fun _=>true) true k 29 (([c0,c1,c2,c3,c4,c5,c6,c7,c8].drop 3).take (Tryz.prog.cellsOf 29))=some x2:=hi 2 _ rfl;have h3:DataW.trod enc Tryz.prog W 0 (fun _=>true) true k 34 (([c0,c1,c2,c3,c4,c5,c6,c7,c8].drop 7).take (Tryz.prog.cellsOf 34))=some x3:=hi 3 _ rfl;have h4:DataW.trod enc Tryz.prog W 0 (fun _=>true) true k 34 (([c0,c1,c2,c3,c4,c5,c6,c7,c8].drop 8).take (Tryz.prog.cellsOf 34))=some x4:=hi 4 _ rfl;rw[aaj] at h0;rw[Su] at h1;rw[wC] at h2;rw[ajq] at h3 h4;simp only[List.drop_zero,List.take_succ_cons,List.take_zero,List.drop_succ_cons] at h0 h1 h2 h3 h4;obtain⟨E,Y,e0⟩:=ER h0;obtain⟨T,e1,-,hT⟩:=kL Tryz.underlying3 h1;obtain⟨q,e2,hq⟩:=fO h2;obtain⟨A,n,c,l,e3,hA,hl3⟩:=yU h3;obtain⟨B,m,d,kk,e4,hB,hl4⟩:=yU h4;simp only[List.cons.injEq,and_true] at e0 e1 e2 e3 e4;obtain⟨rfl,rfl⟩:=e0;obtain⟨rfl,rfl,rfl,rfl⟩:=e2;subst e1 e3 e4;exact⟨⟨E,Y,T,q,A,n,c,l,B,m,d,kk⟩,rfl,⟨hq,hA,hB⟩,BS hT,hl3,hl4⟩
theorem TT {b0:Nat}{v:Value}{d:DataW H}{p:List MemPlace}(hv:Value.okWide Tryz.prog W .any b0 36 v)(h:DataW.Trod enc Tryz.prog W 0 (fun _=>true) true 36 v d p):
  ∃x:Ct,v= .agg x.C/\x.rd W/\Yi x.T/\(∀k,Yi (x.l k))/\∀k,Yi (x.k k):=by
 obtain⟨cs,rfl,-⟩:=okWide_struct Tryz.underlying36 hv;obtain⟨fuel,hf⟩:=h;have hf2:DataW.trod enc Tryz.prog W 0 (fun _=>true) true fuel 36 cs.toList=some (d,p):=hf;obtain⟨x,e,hx⟩:=uc hf2;exact⟨x,by rw[show cs=x.cells.toArray from Array.toList_inj.1 e];rfl,hx⟩
theorem ala {b0:Nat}{v:Value}{d:DataW H}{p:List MemPlace}(hv:Value.okWide Tryz.prog W .any b0 31 v)(h:DataW.Trod enc Tryz.prog W 0 (fun _=>true) true 31 v d p):
  ∃b:Bh,v= .agg b.C/\b.rd W:=by
 obtain⟨F,S,A,n,c,r,s,Ai,ni,ci,fi,t,Bi,mi,di,gi,rfl,h1,h2⟩:=Hi hv h;exact⟨⟨F,S,A,n,c,r,⟨s,Ai,ni,ci,fi,t,Bi,mi,di,gi⟩⟩,rfl,h1,h2⟩
end
end
section
open Go.RowKit Go.Shelf
attribute [local go_sem] Oper.semAt_some

theorem SF :∃d,Tryz.prog.underlying 98=some d/\d.isRow=true:=⟨_,Tryz.underlying98,rfl⟩
theorem SG (x:Nat->Q8):(Tryz.prog.info? 98).map (·.size)=some (fP x).length:=by
 obtain⟨i,hi,-,hs,-⟩:=info_parts EK;rw[hi,fT,<-hs];rfl
theorem SH {g N cap k:Nat}{h:Nat->Nat->Q8}{W:World}(hB:gO g N cap h W)(hk:k<N):(Instr.loadAt 98 (.pointer (some ⟨g,k*24,none⟩))).run Tryz.prog W= .ok (.agg (fP (h k)).toArray) W:=by
 obtain⟨d,h1,h2⟩:=SF;refine mF W g (k*24) 98 (fP (h k)) d (fun j v hv=> ?_) h1 h2 (SG _)
 have hj:j<24:=by have:=(mM.1 hv).1;rwa [fT] at this
 rw[wH _ hj] at hv;exact hB.pF (j:=j/4) (i:=j%4) hk (by omega) (by omega) (by omega) (kC hv)
end
section
open Go.RowKit

theorem au.col {g o j i:Nat}{x:Nat->Q8}{W:World}{v:Value}(hB:au 98 g (fP x).toArray W)(hj:j<6)(hi:i<4)(ho:o=j*4+i)(hv:(x j).cell i=v):W.cell? ⟨g,o,none⟩=some v:=by
 subst ho hv;rw[hB.cell,mI,wH x (by omega)];rw[show(j*4+i)/4=j by omega,show(j*4+i)%4=i by omega]
end
section
open Go.RowKit Go.Shelf
attribute [local go_sem] Oper.semAt_some

section
variable {v:Rat} {f:Nat->Rat} {N:Nat} (hv:zh v) (hf:uE f N) (lZ:N<=80)
include hv hf lZ
end
end
section
open Go.RowKit

end
section
open Go.RowKit

end
section
open Go.RowKit

section
variable {r:Nat->RH} (h:((r 0).h 0).q=Rat.divInt 1 10/\((r 0).h 1).q=Rat.divInt 1 5/\((r 1).h 0).q=Rat.divInt 1 8/\((r 1).h 1).q=Rat.divInt 1 2/\((r 2).h 0).q=Rat.divInt 1 4/\((r 2).h 1).q=Rat.divInt 1 1)
include h
theorem ajr :fr 60 1 3 r 60 0 0=Rat.divInt 1 10:=by
 show rt 60 1 3 r 60 0 0=_;unfold rt;rw[if_neg (by decide),if_pos (by decide)];exact h.1
theorem ajs :fr 60 1 3 r 60 0 1=Rat.divInt 1 2:=by
 show rt 60 1 3 r 60 0 1=_;unfold rt;rw[if_neg (by decide),if_neg (by decide)];exact h.2.2.2.1
theorem ajt :fr 60 1 3 r 60 0 2=Rat.divInt 1 1:=by
 show rt 60 1 3 r 60 0 2=_;unfold rt;rw[if_neg (by decide),if_neg (by decide)];exact h.2.2.2.2.2
end
def exf (k:Nat):Rat:=if k=0 then Rat.divInt 1 10 else if k=1 then Rat.divInt 1 2 else Rat.divInt 1 1
theorem adh {r:Nat->RH}(h:((r 0).h 0).q=Rat.divInt 1 10/\((r 0).h 1).q=Rat.divInt 1 5/\((r 1).h 0).q=Rat.divInt 1 8/\((r 1).h 1).q=Rat.divInt 1 2/\((r 2).h 0).q=Rat.divInt 1 4/\((r 2).h 1).q=Rat.divInt 1 1):∀k,k<3->fr 60 1 3 r 60 0 k=exf k:=fun k hk=>by
 rcases(show k=0\/k=1\/k=2 by omega) with rfl|rfl|rfl
 ·exact ajr h
 ·exact ajs h
 ·exact ajt h
theorem Wl {W:World}{q:Rat}{s t:Bool}{A B:Option Addr}{n m:Nat}(h:FV W q s A n t B m)(hi:Cn q):xH s n (aB ai q.num.natAbs) t m (aB ai q.den)=true:=by
 obtain⟨l1,l2⟩:=h.ln hi.fl
 have hs:s=false:=by rw[h.1.AM];exact aH (by have:=mN.2 hi.1;omega)
 unfold xH;rw[pZ h (ay hi.fl (by decide)),hs,aL l1,aL l2];rfl
theorem vJ {v:Rat}{f g:Nat->Rat}(h:∀k,k<3->f k=g k):∀k,k<=3->dd v f k=dd v g k:=fun k hk=>EG fun i hi=>h i (by omega)
theorem adf {v:Rat}{f g:Nat->Rat}(h:∀k,k<3->f k=g k):∀k,k<3->cc v f k=cc v g k:=fun k hk=>by
 unfold cc;rw[vJ h k (by omega),h k hk]
def exv :Rat:=1/(1+Rat.divInt 1 4)
theorem Qc :lT exv exf 3:=by
 refine⟨by decide+kernel,fun k hk=> ?_⟩
 rcases(show k=0\/k=1\/k=2 by omega) with rfl|rfl|rfl<;>decide+kernel
end
section
open Go.RowKit

end
section
open Go.RowKit

theorem BZ {a b:Rat}{sa ta sb tb:Bool}{Aa Ba Ab Bb:Option Addr}{na ca ma da nb cb mb db:Nat}{w:World}(ha:FV w a sa Aa na ta Ba ma)(hb:FV w b sb Ab nb tb Bb mb)(la:fl a<=256)(lb:fl b<=256)(lr:fl (a+b)<=256):
  Calls Tryz.prog 102 #[.agg (az sa Aa na ca ta Ba ma da),.agg (az sb Ab nb cb tb Bb mb db)] w (FR (a+b) w):=by
 have hE:=((((Env.start w).fv ha).fv hb).blk 29 (az sa Aa na ca ta Ba ma da) (g:=w.heap.size) rfl).blk 29 (az sb Ab nb cb tb Bb mb db) (g:=w.heap.size+1) (by simp);have hE:=hE.blk 29 aW (g:=w.heap.size+1+1) (by simp)
 obtain⟨W0,aC⟩:∃W0,W0=(((w.alloc (.cells (az sa Aa na ca ta Ba ma da) 29)).alloc (.cells (az sb Ab nb cb tb Bb mb db) 29)).alloc (.cells aW 29)):=⟨_,rfl⟩
 rw[<-aC] at hE;have aZ:=af aC;clear aC
 go_enter Tryz.func102,Tryz.ntmps102
 go_upto_region 1 with(fail)
 rw[<-aZ.out];obtain⟨k1,k2,k3,k4⟩:=(hE.h2).c4;obtain⟨k5,k6,k7,k8⟩:=(hE.g1).c4;go_wp2_with fail
 refine hE.fr (FZ (ca:=ca) (da:=da) (cb:=cb) (db:=db) hE.h4 hE.h3 la lb lr) ?_;clear hE k1 k2 k3 k4 k5 k6 k7 k8;intro sr Ar nr cr tr Br mr dr w9 hE
 go_upto_region 2 with(fail)
 obtain⟨g10,bL⟩:∃g10,g10=w9.heap.size:=⟨_,rfl⟩
 have jh:w.heap.size<g10:=by rw[bL];exact(hE.h3).lt
 have iF:w.heap.size+1<g10:=by rw[bL];exact(hE.h2).lt
 have jF:w.heap.size+1+1<g10:=by rw[bL];exact(hE.g1).lt
 replace hE:=hE.blk 29 (az sr Ar nr cr tr Br mr dr) (g:=g10) bL.symm;generalize w9.alloc (.cells (az sr Ar nr cr tr Br mr dr) 29)=xQ at hE⊢;rw[<-bL];clear bL;obtain⟨dX,dY,eu,eF⟩:=(hE.g0).c4
 have cS:w.heap.size<=w.heap.size+1+1:=by omega
 obtain⟨WW,bn,hB,hV,aM⟩:=aR hE hE.h2 cS hE.g1 cr dr;obtain⟨x0,x1,x2,x3⟩:=(hE.h2).c4;obtain⟨fL,fM,fV,fW⟩:=hE.h2.f4;have bR:=af bn;clear bn;go_wp2_with fail
 clear dX dY eu eF;rw[<-bR.out];obtain⟨y0,y1,y2,y3⟩:=hB.c4;refine aK (v:= .agg (az sr Ar nr cr tr Br mr dr)) (by simp[results,Tryz.results102,go_sem,y0,y1,y2,y3]) rfl ?_;exact⟨sr,Ar,nr,cr,tr,Br,mr,dr,rfl,hV,aM⟩
theorem SI {a b:Rat}{sa ta sb tb:Bool}{Aa Ba Ab Bb:Option Addr}{na ca ma da nb cb mb db:Nat}{w:World}(ha:FV w a sa Aa na ta Ba ma)(hb:FV w b sb Ab nb tb Bb mb)(la:fl a<=256)(lb:fl b<=256)(lr:fl (a-b)<=256):
  Calls Tryz.prog 65 #[.agg (az sa Aa na ca ta Ba ma da),.agg (az sb Ab nb cb tb Bb mb db)] w (FR (a-b) w):=by
 have hE:=((((Env.start w).fv ha).fv hb).blk 29 (az sa Aa na ca ta Ba ma da) (g:=w.heap.size) rfl).blk 29 (az sb Ab nb cb tb Bb mb db) (g:=w.heap.size+1) (by simp);have hE:=hE.blk 29 aW (g:=w.heap.size+1+1) (by simp)
 obtain⟨W0,aC⟩:∃W0,W0=(((w.alloc (.cells (az sa Aa na ca ta Ba ma da) 29)).alloc (.cells (az sb Ab nb cb tb Bb mb db) 29)).alloc (.cells aW 29)):=⟨_,rfl⟩
 rw[<-aC] at hE;have aZ:=af aC;clear aC
 go_enter Tryz.func65,Tryz.ntmps65
 go_upto_region 1 with(fail)
 rw[<-aZ.out];obtain⟨k1,k2,k3,k4⟩:=(hE.h2).c4;obtain⟨k5,k6,k7,k8⟩:=(hE.g1).c4;go_wp2_with fail
 refine hE.fr (zV (ca:=ca) (da:=da) (cb:=cb) (db:=db) hE.h4 hE.h3 la lb lr) ?_;clear hE k1 k2 k3 k4 k5 k6 k7 k8;intro sr Ar nr cr tr Br mr dr w9 hE
 go_upto_region 2 with(fail)
 obtain⟨g10,bL⟩:∃g10,g10=w9.heap.size:=⟨_,rfl⟩
 have jh:w.heap.size<g10:=by rw[bL];exact(hE.h3).lt
 have iF:w.heap.size+1<g10:=by rw[bL];exact(hE.h2).lt
 have jF:w.heap.size+1+1<g10:=by rw[bL];exact(hE.g1).lt
 replace hE:=hE.blk 29 (az sr Ar nr cr tr Br mr dr) (g:=g10) bL.symm;generalize w9.alloc (.cells (az sr Ar nr cr tr Br mr dr) 29)=xQ at hE⊢;rw[<-bL];clear bL;obtain⟨dX,dY,eu,eF⟩:=(hE.g0).c4
 have cS:w.heap.size<=w.heap.size+1+1:=by omega
 obtain⟨WW,bn,hB,hV,aM⟩:=aR hE hE.h2 cS hE.g1 cr dr;obtain⟨x0,x1,x2,x3⟩:=(hE.h2).c4;obtain⟨fL,fM,fV,fW⟩:=hE.h2.f4;have bR:=af bn;clear bn;go_wp2_with fail
 clear dX dY eu eF;rw[<-bR.out];obtain⟨y0,y1,y2,y3⟩:=hB.c4;refine aK (v:= .agg (az sr Ar nr cr tr Br mr dr)) (by simp[results,Tryz.results65,go_sem,y0,y1,y2,y3]) rfl ?_;exact⟨sr,Ar,nr,cr,tr,Br,mr,dr,rfl,hV,aM⟩
theorem ES {a b:Rat}{sa ta sb tb:Bool}{Aa Ba Ab Bb:Option Addr}{na ca ma da nb cb mb db:Nat}{w:World}(ha:FV w a sa Aa na ta Ba ma)(hb:FV w b sb Ab nb tb Bb mb)(la:fl a<=256)(lb:fl b<=256)(lr:fl (a*b)<=256):
  Calls Tryz.prog 110 #[.agg (az sa Aa na ca ta Ba ma da),.agg (az sb Ab nb cb tb Bb mb db)] w (FR (a*b) w):=by
 have hE:=((((Env.start w).fv ha).fv hb).blk 29 (az sa Aa na ca ta Ba ma da) (g:=w.heap.size) rfl).blk 29 (az sb Ab nb cb tb Bb mb db) (g:=w.heap.size+1) (by simp);have hE:=hE.blk 29 aW (g:=w.heap.size+1+1) (by simp)
 obtain⟨W0,aC⟩:∃W0,W0=(((w.alloc (.cells (az sa Aa na ca ta Ba ma da) 29)).alloc (.cells (az sb Ab nb cb tb Bb mb db) 29)).alloc (.cells aW 29)):=⟨_,rfl⟩
 rw[<-aC] at hE;have aZ:=af aC;clear aC
 go_enter Tryz.func110,Tryz.ntmps110
 go_upto_region 1 with(fail)
 rw[<-aZ.out];obtain⟨k1,k2,k3,k4⟩:=(hE.h2).c4;obtain⟨k5,k6,k7,k8⟩:=(hE.g1).c4;go_wp2_with fail
 refine hE.fr (zW (ca:=ca) (da:=da) (cb:=cb) (db:=db) hE.h4 hE.h3 la lb lr) ?_;clear hE k1 k2 k3 k4 k5 k6 k7 k8;intro sr Ar nr cr tr Br mr dr w9 hE
 go_upto_region 2 with(fail)
 obtain⟨g10,bL⟩:∃g10,g10=w9.heap.size:=⟨_,rfl⟩
 have jh:w.heap.size<g10:=by rw[bL];exact(hE.h3).lt
 have iF:w.heap.size+1<g10:=by rw[bL];exact(hE.h2).lt
 have jF:w.heap.size+1+1<g10:=by rw[bL];exact(hE.g1).lt
 replace hE:=hE.blk 29 (az sr Ar nr cr tr Br mr dr) (g:=g10) bL.symm;generalize w9.alloc (.cells (az sr Ar nr cr tr Br mr dr) 29)=xQ at hE⊢;rw[<-bL];clear bL;obtain⟨dX,dY,eu,eF⟩:=(hE.g0).c4
 have cS:w.heap.size<=w.heap.size+1+1:=by omega
 obtain⟨WW,bn,hB,hV,aM⟩:=aR hE hE.h2 cS hE.g1 cr dr;obtain⟨x0,x1,x2,x3⟩:=(hE.h2).c4;obtain⟨fL,fM,fV,fW⟩:=hE.h2.f4;have bR:=af bn;clear bn;go_wp2_with fail
 clear dX dY eu eF;rw[<-bR.out];obtain⟨y0,y1,y2,y3⟩:=hB.c4;refine aK (v:= .agg (az sr Ar nr cr tr Br mr dr)) (by simp[results,Tryz.results110,go_sem,y0,y1,y2,y3]) rfl ?_;exact⟨sr,Ar,nr,cr,tr,Br,mr,dr,rfl,hV,aM⟩
theorem Yj {a b:Rat}{sa ta sb tb:Bool}{Aa Ba Ab Bb:Option Addr}{na ca ma da nb cb mb db:Nat}{w:World}(ha:FV w a sa Aa na ta Ba ma)(hb:FV w b sb Ab nb tb Bb mb)(la:fl a<=256)(lb:fl b<=256)(h0:b.num≠0)(lr:fl (a/b)<=256):
  Calls Tryz.prog 67 #[.agg (az sa Aa na ca ta Ba ma da),.agg (az sb Ab nb cb tb Bb mb db)] w (FR (a/b) w):=by
 have hE:=((((Env.start w).fv ha).fv hb).blk 29 (az sa Aa na ca ta Ba ma da) (g:=w.heap.size) rfl).blk 29 (az sb Ab nb cb tb Bb mb db) (g:=w.heap.size+1) (by simp);have hE:=hE.blk 29 aW (g:=w.heap.size+1+1) (by simp)
 obtain⟨W0,aC⟩:∃W0,W0=(((w.alloc (.cells (az sa Aa na ca ta Ba ma da) 29)).alloc (.cells (az sb Ab nb cb tb Bb mb db) 29)).alloc (.cells aW 29)):=⟨_,rfl⟩
 rw[<-aC] at hE;have aZ:=af aC;clear aC
 go_enter Tryz.func67,Tryz.ntmps67
 go_upto_region 1 with(fail)
 rw[<-aZ.out];obtain⟨k1,k2,k3,k4⟩:=(hE.h2).c4;obtain⟨k5,k6,k7,k8⟩:=(hE.g1).c4;go_wp2_with fail
 refine hE.fr (sP (ca:=ca) (da:=da) (cb:=cb) (db:=db) hE.h4 hE.h3 la lb h0 lr) ?_;clear hE k1 k2 k3 k4 k5 k6 k7 k8;intro sr Ar nr cr tr Br mr dr w9 hE
 go_upto_region 2 with(fail)
 obtain⟨g10,bL⟩:∃g10,g10=w9.heap.size:=⟨_,rfl⟩
 have jh:w.heap.size<g10:=by rw[bL];exact(hE.h3).lt
 have iF:w.heap.size+1<g10:=by rw[bL];exact(hE.h2).lt
 have jF:w.heap.size+1+1<g10:=by rw[bL];exact(hE.g1).lt
 replace hE:=hE.blk 29 (az sr Ar nr cr tr Br mr dr) (g:=g10) bL.symm;generalize w9.alloc (.cells (az sr Ar nr cr tr Br mr dr) 29)=xQ at hE⊢;rw[<-bL];clear bL;obtain⟨dX,dY,eu,eF⟩:=(hE.g0).c4
 have cS:w.heap.size<=w.heap.size+1+1:=by omega
 obtain⟨WW,bn,hB,hV,aM⟩:=aR hE hE.h2 cS hE.g1 cr dr;obtain⟨x0,x1,x2,x3⟩:=(hE.h2).c4;obtain⟨fL,fM,fV,fW⟩:=hE.h2.f4;have bR:=af bn;clear bn;go_wp2_with fail
 clear dX dY eu eF;rw[<-bR.out];obtain⟨y0,y1,y2,y3⟩:=hB.c4;refine aK (v:= .agg (az sr Ar nr cr tr Br mr dr)) (by simp[results,Tryz.results67,go_sem,y0,y1,y2,y3]) rfl ?_;exact⟨sr,Ar,nr,cr,tr,Br,mr,dr,rfl,hV,aM⟩
end
end Go.Proofs.YtclbiihcbfnjmaaGreat
