/-
  Parts.
-/
import Derived.Test.YtclbiihcbfnjmaaGreatK20
set_option maxHeartbeats 8000000
set_option linter.unusedSimpArgs false
set_option maxRecDepth 100000
namespace Go.Proofs.YtclbiihcbfnjmaaGreat
section
open Go.RowKit

theorem JI {P:Program}{w:World}{o:Oper}{ev:Operand->Value}{ty:TypeId}{x:Operand}{p v:Value}(hr:(Instr.loadAt ty p).run P w= .ok v w)(ho:o.op= .load ty x)(hx:ev x=p):(execOp ev o).run P w= .ok (.value v) w:=by
 simp[execOp,ho,hx,hr,Result.andThen]
theorem At.iN {t:TypeId}{g:Nat}{cs:Array Value}{w:World}{v:Value}(h:au t g cs w)(i:Nat)(hv:cs[i]?=some v):At g i v w:=⟨h.lt,(h.cell i).trans hv⟩
theorem au.ne {t u:TypeId}{g k:Nat}{cs ds:Array Value}{W:World}(h:au t g cs W)(h2:au u k ds W)(ht:t≠u):g≠k:=fun e=>by
 subst e;have:=kC (h.symm.trans h2)
 injection this with _ e2 _
 exact ht e2
theorem uX (W:World)(t:TypeId)(cs:Array Value)(u:TypeId)(ds:Array Value):Below W.heap.size W ((W.alloc (.cells cs t)).alloc (.cells ds u))/\au t W.heap.size cs ((W.alloc (.cells cs t)).alloc (.cells ds u))/\au u (W.heap.size+1) ds ((W.alloc (.cells cs t)).alloc (.cells ds u)):=by
 have h1:=au.new W t cs;have h2:=au.new (W.alloc (.cells cs t)) u ds;rw[fe] at h2;have hb:=er (W.alloc (.cells cs t)) (.cells ds u);exact⟨(er W _).trans (hb.mono (by rw[fe];omega)),au.stable _ _ _ _ _ hb h1,h2⟩
theorem mO {t:TypeId}{g n:Nat}:∀(vs:List Value) (o:Nat) (U:World),(∃cs,au t g cs U/\cs.size=n)->U.grownBy (U.setCells g o vs) (some g)/\∃cs,au t g cs (U.setCells g o vs)/\cs.size=n:=fun vs=>by
 induction vs with
 |nil=>exact fun o U hU=>⟨⟨rfl,rfl,rfl,aq _,fun _ _ _=>rfl⟩,hU⟩
 |cons v vs ih=>
  intro o U ⟨cs,h3,h4⟩;obtain⟨h5,h6⟩:=ih (o+1) (U.setCell ⟨g,o,none⟩ v) ⟨_,h3.dZ o v,by rw[Array.size_setIfInBounds,h4]⟩;exact⟨(Kept.set (Kept.refl U g) (.inr rfl) o v).grown h5 (fun q e=>by cases e;exact .inr rfl),h6⟩
theorem ET {t:TypeId}{g:Nat}{cs:Array Value}{W:World}(hB:au t g cs W){n:Nat}(hl:n<=cs.size):W.there g 0 n:=fun j hj=>by
 rw[fk];refine⟨?_,hB.frozen j⟩;rw[hB.cell,qh (by omega)];rfl
theorem oo {t:TypeId}{g:Nat}{cs:Array Value}{W:World}(hB:au t g cs W)(vs:List Value)(hl:cs.size=vs.length):W.grownBy (W.setCells g 0 vs) (some g)/\au t g vs.toArray (W.setCells g 0 vs):=by
 obtain⟨h1,ds,h2,h3⟩:=mO (t:=t) (g:=g) (n:=cs.size) vs 0 W ⟨cs,hB,rfl⟩;have hr:=World.rangeAt_setCells_same W g 0 vs (ET hB (by omega))
 have e:ds=vs.toArray:=by
  apply Array.ext_getElem?;intro i;have h7:=h2.cell i
  rcases cX i vs.length with hi|hi
  ·
   have h8:=hr i _ (List.getElem?_eq_getElem hi);rw[fk] at h8;rw[<-h7,h8,mI,List.getElem?_eq_getElem hi]
  ·rw[Array.getElem?_eq_none (by omega),Array.getElem?_eq_none (by rw[List.size_toArray];omega)]
 subst e;exact⟨h1,h2⟩
section
variable {w w':World} {t:TypeId} {g:Nat} {cs:Array Value}
theorem Rd.aD {A:Option Addr}{m:Nat}{f:Nat->Nat}(hr:Rd w.heap.size .u16 w A m f)(hB:au t g cs w)(hn:cs.toList.all aP=true)(hg:w.grownBy w' (some g)):Rd w'.heap.size .u16 w' A m f:=fun h0=>by
 obtain⟨b,o,e,hb,hc⟩:=hr h0;refine⟨b,o,e,bY hb hg.size,fun i hi=> ?_⟩;have h1:=hc i hi;rw[yS (hg.block b hb fun e2=> ?_)]
 ·exact h1
 ·
  obtain rfl:b=g:=by simpa using e2
  rw[hB.cell] at h1
  have h2:=jZ.1 hn _ (by
   have:=Array.mem_of_getElem? h1
   simpa using this)
  simp[aP] at h2
theorem WV.aD {z:Int}{s:Bool}{A:Option Addr}{m:Nat}(hw:WV w z s A m)(hB:au t g cs w)(hn:cs.toList.all aP=true)(hg:w.grownBy w' (some g)):WV w' z s A m:=⟨hw.1,hw.2.1,Rd.aD hw.2.2 hB hn hg⟩
theorem FV.aD {q:Rat}{s u:Bool}{A C:Option Addr}{a b:Nat}(hf:FV w q s A a u C b)(hB:au t g cs w)(hn:cs.toList.all aP=true)(hg:w.grownBy w' (some g)):FV w' q s A a u C b:=⟨hf.1.aD hB hn hg,hf.2.aD hB hn hg⟩
theorem cK.aD {h:Nat->Nat->Q8}{n:Nat}{J:Nat->Nat->Prop}{q:Nat->Nat->Rat}(hq:cK h n J q w)(hB:au t g cs w)(hn:cs.toList.all aP=true)(hg:w.grownBy w' (some g)):cK h n J q w':=fun k hk j hj hJ=>FV.aD (hq k hk j hj hJ) hB hn hg
theorem au.aD {u:TypeId}{k:Nat}{ds:Array Value}(h:au u k ds w)(hg:w.grownBy w' (some g))(hk:k≠g):au u k ds w':=(hg.block k h.lt (fun e=>hk (by simpa using e))).trans h
theorem cW.aD {G n cap:Nat}{P:Nat->Nat->Nat->Value}(h:cW G n cap P w)(hB:au t g cs w)(ht:t≠ 98)(hg:w.grownBy w' (some g)):cW G n cap P w':=by
 have hne:G≠g:=fun e=>(hB.mB h ht) e.symm
 obtain⟨h1,h2,ds,h3,h4⟩:=h;exact⟨h1,h2,ds,h3.aD hg hne,h4⟩
theorem Below.aD {B:Nat}{a:World}(h:Below B a w)(hg:w.grownBy w' (some g))(hB:B<=w.heap.size)(hgB:B<=g):Below B a w':=h.grown hg hB (fun k e=>by cases e;exact hgB)
end
end
section
open Go.RowKit

theorem Kc (z:Int)(r:Bool)(w:World)(h:r= !decide (0<=z/\z<=1099511627776)):Calls Tryz.prog 127 #[.int .i64 z] w fun e w'=>e= .returned (.bool r)/\w'=w:=by
 subst h
 by_cases h1:z<0
 ·
  have t1:decide (z<0)=true:=aL h1;rw[aH (show¬(0<=z/\z<=1099511627776) by omega)]
  go_enter Tryz.func127,Tryz.ntmps127
  go_wp2_with fail
  go_ret
  exact⟨rfl,rfl⟩
 ·
  have t1:decide (z<0)=false:=aH h1
  by_cases h2:1099511627776<z
  ·
   have t2:decide (1099511627776<z)=true:=aL h2;rw[aH (show¬(0<=z/\z<=1099511627776) by omega)]
   go_enter Tryz.func127,Tryz.ntmps127
   go_wp2_with fail
   go_ret
   exact⟨rfl,rfl⟩
  ·
   have t2:decide (1099511627776<z)=false:=aH h2;rw[aL (show(0<=z/\z<=1099511627776) by omega)]
   go_enter Tryz.func127,Tryz.ntmps127
   go_wp2_with fail
   go_ret
   exact⟨rfl,rfl⟩
theorem SJ {A:Option Addr}{n c:Nat}{l:Nat->Int}{w:World}(hl:rR A n l w)(hn:n<=1000000):
  Calls Tryz.prog 159 #[.slice A n c,.func (.func 127) #[] #[]] w fun e w'=>∃r:Int,e= .returned (.int .i64 r)/\(r<0↔∀k,k<n->(0<=l k/\l k<=1099511627776))/\Below w.heap.size w w':=by
 have hE:=Env.start w;have Hl:=af hl;clear hl
 go_enter Tryz.func159,Tryz.ntmps159
 go_wp2_with fail
 go_loopw [8] (fun p wr=>∃k:Nat,k<=n/\p= .int .i64 (k:Int)/\Hid (∀j,j<k->(0<=l j/\l j<=1099511627776))/\Env w (fun _=>True) wr) (fun p _=>n-(intOf p).toNat)
 case atStart=>exact⟨0,bF _,rfl,af (fun j hj=>absurd hj (nY j)),hE⟩
 case round=>
  clear hE;obtain⟨k,hk,rfl,Hg,hE⟩:=hrel
  by_cases hlt:k<n
  ·
   have t1:decide ((k:Int)<(n:Int))=true:=aL (by omega)
   have t2:(k:Int)<(n:Int):=by omega
   obtain⟨b,o,rfl,ha⟩:=Hl.out k hlt;have c0:=(At.stable _ _ _ _ _ hE.ax ha).2;have Ha:=af ha;clear ha
   by_cases hz:(0<=l k/\l k<=1099511627776)
   ·
    have Hz:=af hz;clear hz;go_wp2_with fail
    refine(Kc (l k) false _ (by rw[aL Hz.out];rfl)).mono ?_;clear c0 t1
    rintro e _ ⟨rfl,rfl⟩
    go_wp2_with fail
    go_roundw
    case rel=>exact⟨k+1,by omega,by(try simp)<;>norm_cast,af (fun j hj=>by
     by_cases e:j=k
     ·subst e;exact Hz.out
     ·exact Hg.out j (by omega)),hE⟩
    case measure=>simp[intOf];omega
   ·
    have Hz:=af hz;clear hz;go_wp2_with fail
    refine(Kc (l k) true _ (by rw[aH Hz.out];rfl)).mono ?_;clear c0 t1
    rintro e _ ⟨rfl,rfl⟩
    go_wp2_with fail
    go_ret
    exact⟨(k:Int),rfl,⟨fun h=>by omega,fun h=>absurd (h k hlt) Hz.out⟩,hE.ax⟩
  ·
   have eN:n=k:=by omega
   subst eN;have t1:decide ((n:Int)<(n:Int))=false:=aH (by omega)
   have t2:¬(n:Int)<(n:Int):=by omega
   go_wp2_with fail
   go_ret
   exact⟨-1,rfl,⟨fun _=>Hg.out,fun _=>by decide⟩,hE.ax⟩
theorem EU {A:Option Addr}{n c:Nat}{l:Nat->Int}{w:World}(hl:rR A n l w)(hn:n<=1000000):
  Calls Tryz.prog 126 #[.slice A n c,.func (.func 127) #[] #[]] w fun e w'=>∃v,e= .returned (.bool v)/\(v=false↔∀k,k<n->(0<=l k/\l k<=1099511627776))/\Below w.heap.size w w':=by
 have Hl:=af hl;clear hl
 go_enter Tryz.func126,Tryz.ntmps126
 go_wp2_with fail
 refine(SJ Hl.out hn).mono ?_
 rintro e w1 ⟨r,rfl,hr,hb⟩
 have Hr:=af hr;have Hb:=af hb;clear hr hb;go_wp2_with fail
 go_ret
 refine⟨_,rfl, ?_,Hb.out⟩;rw[<-Hr.out,decide_eq_false_iff_not];omega
theorem wK {A:Option Addr}{n c:Nat}{l:Nat->Int}{w:World}(hl:rR A n l w)(hn:n<=1000000):
  Calls Tryz.prog 84 #[.slice A n c] w (js (DS n l) w):=by
 have Hl:=af hl;clear hl
 by_cases h1:n<=120
 ·
  have t1:decide ((n:Int)<=120)=true:=aL (by omega)
  have t2:(n:Int)<=120:=by omega
  go_enter Tryz.func84,Tryz.ntmps84
  go_wp2_with fail
  refine(EU Hl.out hn).mono ?_
  rintro e w1 ⟨r,rfl,hr,hb⟩
  have Hr:=af hr;have Hb:=af hb;clear hr hb t1;go_wp2_with fail
  go_ret
  refine⟨!r,rfl, ?_,Hb.out⟩;unfold DS;rw[<-Hr.out]
  cases r<;>simp[h1]
 ·
  have t1:decide ((n:Int)<=120)=false:=aH (by omega)
  have t2:¬(n:Int)<=120:=by omega
  go_enter Tryz.func84,Tryz.ntmps84
  go_wp2_with fail
  go_ret
  exact⟨false,rfl,bQ (fun h=>h1 h.1),aU _ _⟩
theorem pY {b:Bh}{x:Ct}{w:World}(hb:b.rd w)(nS:b.bd)(hx:x.rd w)(jw:x.bd):
  Calls Tryz.prog 32 #[.agg b.C,.agg x.C] w (js (x.ok b) w):=by
 have kX:=af hb;clear hb;have iy:=af nS;clear nS;have og:=af hx;clear hx;have iI:=af jw;clear jw;have hE:=((Env.start w).blk 31 b.C (g:=w.heap.size) rfl).blk 36 x.C (g:=w.heap.size+1) (by simp)
 obtain⟨W0,aC⟩:∃W0,W0=((w.alloc (.cells b.C 31)).alloc (.cells x.C 36)):=⟨_,rfl⟩
 rw[<-aC] at hE;have aZ:=af aC;clear aC
 go_enter Tryz.func32,Tryz.ntmps32
 go_upto_region 1 with(fail)
 rw[<-aZ.out];obtain⟨k1,k2,k3,k4,k5,k6,k7⟩:=(hE.g1).c7;go_wp2_with fail
 refine(mJ b.F b.S b.A b.n b.c b.r b.i.s b.i.t b.i.A b.i.B b.i.n b.i.m b.i.c b.i.d b.i.f b.i.g _ (kX.out.1.below hE.ax) iy.out.1 (kA.below kX.out.2 hE.ax) iy.out.2.1 iy.out.2.2).mono ?_;clear k1 k2 k3 k4 k5 k6 k7
 rintro e w8 ⟨r,rfl,hr,hb⟩
 replace hE:=hE.step hb;clear hb
 cases r with
 |false=>
  have HN:=af (show¬x.ok b from fun h=>gS (hr.2 (h.1)));clear hr;go_wp2_with fail
  go_ret
  exact⟨false,rfl,bQ HN.out,hE.ax⟩
 |true=>
  have HP8:=af (hr.1 rfl);clear hr;have k9:=(hE.g1).cell 0;have fU:=(hE.g1).cell 1;have dX:=(hE.g1).cell 2;have dY:=(hE.g0).cell 0;have eu:=(hE.g0).cell 1;go_wp2_with fail
  refine(qx b.F b.S x.E x.Y b.A b.n b.c b.r _ (kX.out.1.below hE.ax) iy.out.1).mono ?_;clear k9 fU dX dY eu
  rintro e FC ⟨r,rfl,hr,hb⟩
  replace hE:=hE.step hb;clear hb
  cases r with
  |false=>
   have HN:=af (show¬x.ok b from fun h=>gS (hr.2 (h.2.1)));clear hr;go_wp2_with fail
   go_ret
   exact⟨false,rfl,bQ HN.out,hE.ax⟩
  |true=>
   have ap0:=af (hr.1 rfl);clear hr
   by_cases aju:0<=x.T
   rotate_left 1
   ·
    have t1:decide (x.T<0)=true:=aL (by omega)
    have t2:x.T<0:=by omega
    have HN:=af (show¬x.ok b from fun h=>aju (h.2.2.1.1));have kz:=(hE.g0).cell 2;go_wp2_with fail
    go_ret
    exact⟨false,rfl,bQ HN.out,hE.ax⟩
   have t1:decide (x.T<0)=false:=aH (by omega)
   have t2:¬x.T<0:=by omega
   by_cases ajv:x.T<=120
   rotate_left 1
   ·
    have t3:decide (120<x.T)=true:=aL (by omega)
    have t4:120<x.T:=by omega
    have HN:=af (show¬x.ok b from fun h=>ajv (h.2.2.1.2));have jS:=(hE.g0).cell 2;go_wp2_with fail
    go_ret
    exact⟨false,rfl,bQ HN.out,hE.ax⟩
   have t3:decide (120<x.T)=false:=aH (by omega)
   have t4:¬120<x.T:=by omega
   have kT:=(hE.g0).cell 2;have kB:=(hE.g0).cell 3;have lV:=(hE.g0).cell 4;have lW:=(hE.g0).cell 5;have nC:=(hE.g0).cell 6
   go_upto_region 4 with(fail)
   clear kT kB lV lW nC;clear t1 t2 t3 t4
   obtain⟨g24,mK⟩:∃g24,g24=FC.heap.size:=⟨_,rfl⟩
   have PJ:w.heap.size<g24:=by rw[mK];exact(hE.g1).lt
   have ada:w.heap.size+1<g24:=by rw[mK];exact(hE.g0).lt
   replace hE:=hE.blk 29 (az x.p.s x.p.A x.p.n x.p.c x.p.t x.p.B x.p.m x.p.d) (g:=g24) mK.symm;generalize FC.alloc (.cells (az x.p.s x.p.A x.p.n x.p.c x.p.t x.p.B x.p.m x.p.d) 29)=W24 at hE⊢;rw[<-mK];clear mK;obtain⟨pU,nQ,qH,pM⟩:=(hE.g0).c4;go_wp2_with fail
   cases hv:okF x.p.s x.p.n x.p.f x.p.t x.p.m x.p.g with
   |false=>
    have HN:=af (show¬x.ok b from fun h=>gS (hv.symm.trans h.2.2.2.1.1));refine(cV x.p.s x.p.t x.p.A x.p.B x.p.n x.p.m x.p.c x.p.d x.p.f x.p.g _ (kA.below og.out.1 hE.ax) iI.out.2.1.1 iI.out.2.1.2 false hv).mono ?_;clear pU nQ qH pM
    rintro e MD ⟨rfl,hb⟩
    replace hE:=hE.step hb;clear hb hv;go_wp2_with fail
    go_ret
    exact⟨false,rfl,bQ HN.out,hE.ax⟩
   |true=>
    refine(cV x.p.s x.p.t x.p.A x.p.B x.p.n x.p.m x.p.c x.p.d x.p.f x.p.g _ (kA.below og.out.1 hE.ax) iI.out.2.1.1 iI.out.2.1.2 true hv).mono ?_;clear pU nQ qH pM
    rintro e MD ⟨rfl,hb⟩
    replace hE:=hE.step hb;have HV:=af hv;clear hb hv
    by_cases hs:x.p.s=true
    ·
     have HN:=af (show¬x.ok b from fun h=>gS (h.2.2.2.1.2.1.symm.trans hs));have uG:=(hE.g0).cell 0;go_wp2_with fail
     go_ret
     exact⟨false,rfl,bQ HN.out,hE.ax⟩
    replace hs:x.p.s=false:=by simpa using hs
    by_cases ajw:x.p.n<=4
    rotate_left 1
    ·
     have t1:decide (4<(x.p.n:Int))=true:=aL (by omega)
     have t2:4<(x.p.n:Int):=by omega
     have HN:=af (show¬x.ok b from fun h=>ajw (h.2.2.2.1.2.2.1));have tD:=(hE.g0).cell 0;have Oo:=(hE.g0).cell 1;go_wp2_with fail
     go_ret
     exact⟨false,rfl,bQ HN.out,hE.ax⟩
    have t1:decide (4<(x.p.n:Int))=false:=aH (by omega)
    have t2:¬4<(x.p.n:Int):=by omega
    by_cases Wj:x.p.m<=4
    rotate_left 1
    ·
     have t3:decide (4<(x.p.m:Int))=true:=aL (by omega)
     have t4:4<(x.p.m:Int):=by omega
     have HN:=af (show¬x.ok b from fun h=>Wj (h.2.2.2.1.2.2.2));have KN:=(hE.g0).cell 0;have Cp:=(hE.g0).cell 1;have xj:=(hE.g0).cell 3;go_wp2_with fail
     go_ret
     exact⟨false,rfl,bQ HN.out,hE.ax⟩
    have t3:decide (4<(x.p.m:Int))=false:=aH (by omega)
    have t4:¬4<(x.p.m:Int):=by omega
    have xP:=(hE.g0).cell 0;have Cq:=(hE.g0).cell 1;have Fz:=(hE.g0).cell 3;have Iw:=(hE.g1).cell 7;have zl:=(hE.g1).cell 8;go_wp2_with fail
    have HS:=af hs;refine(wK (rR.below og.out.2.1 hE.ax) iI.out.2.2.1).mono ?_;clear xP Cq Fz Iw zl
    rintro e w44 ⟨r,rfl,hr,hb⟩
    replace hE:=hE.step hb;clear hb
    cases r with
    |false=>
     have HN:=af (show¬x.ok b from fun h=>gS (hr.2 (h.2.2.2.2.1)));clear hr;go_wp2_with fail
     go_ret
     exact⟨false,rfl,bQ HN.out,hE.ax⟩
    |true=>
     have ap1:=af (hr.1 rfl);clear hr;have zm:=(hE.g1).cell 8;go_wp2_with fail
     refine(wK (rR.below og.out.2.2 hE.ax) iI.out.2.2.2).mono ?_;clear zm
     rintro e w99 ⟨r,rfl,hr,hb⟩
     replace hE:=hE.step hb;have HR:=af hr;clear hb hr;go_wp2_with fail
     go_ret
     exact⟨r,rfl,⟨fun h=>⟨HP8.out,ap0.out,⟨aju,ajv⟩,⟨HV.out,HS.out,ajw,Wj⟩,ap1.out,HR.out.1 h⟩,fun h=>HR.out.2 h.2.2.2.2.2⟩,hE.ax⟩
theorem SK {b:Bh}{x:Ct}{w:World}(hb:b.rd w)(nS:b.bd)(hx:x.rd w)(jw:x.bd)(h:x.ok b):
  Calls Tryz.prog 32 #[.agg b.C,.agg x.C] w fun e w'=>e= .returned (.bool true)/\Below w.heap.size w w':=
 (pY hb nS hx jw).mono fun _ _ ⟨v,he,hv,hw⟩=>by obtain rfl:v=true:=hv.2 h;exact⟨he,hw⟩
end
section
open Go.RowKit

theorem Hp {A:Option Addr}{n c:Nat}{l:Nat->Int}{g:Nat}{w:World}(hg:At g 0 (.slice A n c) w)(hl:rR A n l w)(hb:∀k,k<n->-9223372036854775808<=l k/\l k<=9223372036854775807)(k:Nat)(_:k<=9223372036854775807):
  Calls Tryz.prog 104 #[.int .i64 (k:Int),.pointer (some ⟨g,0,none⟩)] w (FR (lY l n k) w):=by
 by_cases hkn:k<n
 ·
  rw[show lY l n k=((l k:Int):Rat) from if_pos hkn];obtain⟨b,o,rfl,ha⟩:=hl k hkn;obtain⟨z1,z2⟩:=hb k hkn;have t1:decide ((k:Int)<(n:Int))=true:=aL (by omega)
  have t2:(k:Int)<(n:Int):=by omega
  obtain⟨x,hx⟩:∃x,x=l k:=⟨_,rfl⟩
  rw[<-hx] at ha z1 z2⊢;have qK:=af hl;clear hl;have kX:=af hb;clear hb;have Le:=af hg;clear hg;have Hha:=af ha;clear ha;have og:=af hx;clear hx;have hE:=Env.start w;have hE:=hE.blk 29 aW (g:=w.heap.size) rfl
  obtain⟨W0,aC⟩:∃W0,W0=(w.alloc (.cells aW 29)):=⟨_,rfl⟩
  rw[<-aC] at hE;have aZ:=af aC;clear aC
  go_enter Tryz.func104,Tryz.ntmps104
  go_upto_region 1 with(fail)
  rw[<-aZ.out];have k1:=(At.stable _ _ _ _ _ hE.ax Le.out).2;have k2:=(At.stable _ _ _ _ _ hE.ax Hha.out).2;go_wp2_with fail
  refine hE.fr (bg x _ z1 z2) ?_;clear hE k1 k2;intro sz Az nz cz tz Bz mz dz w3 hE
  have cS:w.heap.size<=w.heap.size:=by omega
  obtain⟨WW,bn,hB,hV,aM⟩:=aR hE hE.g1 cS hE.g0 cz dz;obtain⟨x0,x1,x2,x3⟩:=(hE.g1).c4;obtain⟨fL,fM,fV,fW⟩:=hE.g1.f4;have bR:=af bn;clear bn;go_wp2_with fail
  clear x0 x1 x2 x3;rw[<-bR.out];obtain⟨y0,y1,y2,y3⟩:=hB.c4;refine aK (v:= .agg (az sz Az nz cz tz Bz mz dz)) (by simp[results,Tryz.results104,go_sem,y0,y1,y2,y3]) rfl ?_;exact⟨sz,Az,nz,cz,tz,Bz,mz,dz,rfl,hV,aM⟩
 ·
  rw[show lY l n k=((0:Int):Rat) from if_neg hkn];have t1:decide ((k:Int)<(n:Int))=false:=aH (by omega)
  have t2:¬(k:Int)<(n:Int):=by omega
  have qK:=af hl;clear hl;have kX:=af hb;clear hb;have Le:=af hg;clear hg;have hE:=Env.start w;have hE:=hE.blk 29 aW (g:=w.heap.size) rfl
  obtain⟨W0,aC⟩:∃W0,W0=(w.alloc (.cells aW 29)):=⟨_,rfl⟩
  rw[<-aC] at hE;have aZ:=af aC;clear aC
  go_enter Tryz.func104,Tryz.ntmps104
  go_upto_region 1 with(fail)
  rw[<-aZ.out];have k1:=(At.stable _ _ _ _ _ hE.ax Le.out).2;go_wp2_with fail
  refine hE.fr (bg 0 _ (by decide) (by decide)) ?_;clear hE k1;intro sz Az nz cz tz Bz mz dz w2 hE
  have cS:w.heap.size<=w.heap.size:=by omega
  obtain⟨WW,bn,hB,hV,aM⟩:=aR hE hE.g1 cS hE.g0 cz dz;obtain⟨x0,x1,x2,x3⟩:=(hE.g1).c4;obtain⟨fL,fM,fV,fW⟩:=hE.g1.f4;have bR:=af bn;clear bn;go_wp2_with fail
  clear x0 x1 x2 x3;rw[<-bR.out];obtain⟨y0,y1,y2,y3⟩:=hB.c4;refine aK (v:= .agg (az sz Az nz cz tz Bz mz dz)) (by simp[results,Tryz.results104,go_sem,y0,y1,y2,y3]) rfl ?_;exact⟨sz,Az,nz,cz,tz,Bz,mz,dz,rfl,hV,aM⟩
theorem lO (A:Option Addr)(n c:Nat)(w:World):Calls Tryz.prog 54 #[.slice A n c] w fun e w'=>e= .returned (.func (.func 104) #[] #[.pointer (some ⟨w.heap.size,0,none⟩)])/\w'=w.alloc (.cells #[.slice A n c] 34):=by
 go_enter Tryz.func54,Tryz.ntmps54
 go_wp2_with fail
 go_ret
 exact⟨rfl,rfl⟩
theorem wL {A:Option Addr}{n c:Nat}{l:Nat->Int}{g:Nat}{w:World}(hB:au 34 g #[.slice A n c] w)(hl:rR A n l w)(hb:∀k,k<n->-9223372036854775808<=l k/\l k<=9223372036854775807)(N:Nat)(hN:N<=9223372036854775807):
  kS (.func (.func 104) #[] #[.pointer (some ⟨g,0,none⟩)]) (lY l n) N w:=
 ⟨_,_,rfl,enters_of Tryz.func104 (by kernel_rfl) rfl,fun W hW k hk=>Hp (At.stable _ _ _ _ _ hW ⟨hB.lt,hB.c1⟩) (hl.below hW) hb k (by omega)⟩
theorem SL {q:Rat}{sq tq:Bool}{Aq Bq:Option Addr}{nq cq mq dq:Nat}{T:Nat}{gv ga:Nat}{w:World}(hg:At gv 2 (.int .i64 (T:Int)) w)(hq:FV w q sq Aq nq tq Bq mq)(hB:au 29 ga (az sq Aq nq cq tq Bq mq dq) w)(k:Nat):
  Calls Tryz.prog 112 #[.int .i64 (k:Int),.pointer (some ⟨gv,0,none⟩),.pointer (some ⟨ga,0,none⟩)] w (FR (pH T q k) w):=by
 by_cases hkT:k<T
 ·
  rw[show pH T q k=q from if_pos hkT];have t1:decide ((k:Int)<(T:Int))=true:=aL (by omega)
  have t2:(k:Int)<(T:Int):=by omega
  have hx0:=At.iN hB 0 rfl;have hx1:=At.iN hB 1 rfl;have Ls:=At.iN hB 2 rfl;have hx3:=At.iN hB 3 rfl;have Le:=af hg;clear hg;have ajx:=af hx0;clear hx0;have ajy:=af hx1;clear hx1;have ajz:=af Ls;clear Ls;have ajA:=af hx3;clear hx3;have hE:=(Env.start w).fv hq;have hE:=hE.blk 29 aW (g:=w.heap.size) rfl
  obtain⟨W0,aC⟩:∃W0,W0=(w.alloc (.cells aW 29)):=⟨_,rfl⟩
  rw[<-aC] at hE;have aZ:=af aC;clear aC
  go_enter Tryz.func112,Tryz.ntmps112
  go_upto_region 1 with(fail)
  rw[<-aZ.out];have k1:=(At.stable _ _ _ _ _ hE.ax Le.out).2;have k2:=(At.stable _ _ _ _ _ hE.ax ajx.out).2;have k3:=(At.stable _ _ _ _ _ hE.ax ajy.out).2;have k4:=(At.stable _ _ _ _ _ hE.ax ajz.out).2;have k5:=(At.stable _ _ _ _ _ hE.ax ajA.out).2
  have cS:w.heap.size<=w.heap.size:=by omega
  obtain⟨WW,bn,hB,hV,aM⟩:=aR hE hE.g0 cS hE.g1 cq dq;obtain⟨x0,x1,x2,x3⟩:=(hE.g0).c4;obtain⟨fL,fM,fV,fW⟩:=hE.g0.f4;have bR:=af bn;clear bn;go_wp2_with fail
  clear x0 x1 x2 x3;rw[<-bR.out];obtain⟨y0,y1,y2,y3⟩:=hB.c4;refine aK (v:= .agg (az sq Aq nq cq tq Bq mq dq)) (by simp[results,Tryz.results112,go_sem,y0,y1,y2,y3]) rfl ?_;exact⟨sq,Aq,nq,cq,tq,Bq,mq,dq,rfl,hV,aM⟩
 ·
  rw[show pH T q k=((0:Int):Rat) from if_neg hkT];have t1:decide ((k:Int)<(T:Int))=false:=aH (by omega)
  have t2:¬(k:Int)<(T:Int):=by omega
  have hx0:=At.iN hB 0 rfl;have hx1:=At.iN hB 1 rfl;have Ls:=At.iN hB 2 rfl;have hx3:=At.iN hB 3 rfl;have Le:=af hg;clear hg;have ajx:=af hx0;clear hx0;have ajy:=af hx1;clear hx1;have ajz:=af Ls;clear Ls;have ajA:=af hx3;clear hx3;have hE:=(Env.start w).fv hq;have hE:=hE.blk 29 aW (g:=w.heap.size) rfl
  obtain⟨W0,aC⟩:∃W0,W0=(w.alloc (.cells aW 29)):=⟨_,rfl⟩
  rw[<-aC] at hE;have aZ:=af aC;clear aC
  go_enter Tryz.func112,Tryz.ntmps112
  go_upto_region 1 with(fail)
  rw[<-aZ.out];have k1:=(At.stable _ _ _ _ _ hE.ax Le.out).2;go_wp2_with fail
  refine hE.fr (bg 0 _ (by decide) (by decide)) ?_;clear hE k1;intro sz Az nz cz tz Bz mz dz w2 hE
  have cS:w.heap.size<=w.heap.size:=by omega
  obtain⟨WW,bn,hB,hV,aM⟩:=aR hE hE.g1 cS hE.g0 cz dz;obtain⟨x0,x1,x2,x3⟩:=(hE.g1).c4;obtain⟨fL,fM,fV,fW⟩:=hE.g1.f4;have bR:=af bn;clear bn;go_wp2_with fail
  clear x0 x1 x2 x3;rw[<-bR.out];obtain⟨y0,y1,y2,y3⟩:=hB.c4;refine aK (v:= .agg (az sz Az nz cz tz Bz mz dz)) (by simp[results,Tryz.results112,go_sem,y0,y1,y2,y3]) rfl ?_;exact⟨sz,Az,nz,cz,tz,Bz,mz,dz,rfl,hV,aM⟩
theorem uY (x:Ct)(G N cap:Nat)(sq:Bool)(Aq:Option Addr)(nq cq:Nat)(tq:Bool)(Bq:Option Addr)(mq dq:Nat)(w:World):Calls Tryz.prog 70 #[.agg (x.Q G N cap),.agg (az sq Aq nq cq tq Bq mq dq)] w fun e w'=>e= .returned (.func (.func 112) #[] #[.pointer (some ⟨w.heap.size,0,none⟩),.pointer (some ⟨w.heap.size+1,0,none⟩)])/\w'=(w.alloc (.cells (x.Q G N cap) 80)).alloc (.cells (az sq Aq nq cq tq Bq mq dq) 29):=by
 go_enter Tryz.func70,Tryz.ntmps70
 go_wp2_with fail
 go_ret
 exact⟨by simp,rfl⟩
theorem SM {x:Ct}{G N cap:Nat}{q:Rat}{sq tq:Bool}{Aq Bq:Option Addr}{nq cq mq dq:Nat}{gv ga:Nat}{w:World}(hV:au 80 gv (x.Q G N cap) w)(hT:0<=x.T)(hq:FV w q sq Aq nq tq Bq mq)(hB:au 29 ga (az sq Aq nq cq tq Bq mq dq) w)(M:Nat):
  kS (.func (.func 112) #[] #[.pointer (some ⟨gv,0,none⟩),.pointer (some ⟨ga,0,none⟩)]) (pH x.T.toNat q) M w:=
 ⟨_,_,rfl,enters_of Tryz.func112 (by kernel_rfl) rfl,fun W hW k hk=>SL (At.stable _ _ _ _ _ hW (At.iN hV 2 (by rw[Int.toNat_of_nonneg hT];rfl))) (hq.below hW) (au.stable _ _ _ _ _ hW hB) k⟩
def ap2 (L:Nat->Rat)(N:Nat)(w:World)(e:Ending)(w':World):Prop:=∃p,e= .returned p/\kS p L N w'/\Below w.heap.size w w'
theorem Yk {L1 L2:Nat->Rat}{p1 p2:Value}{N G3 G4:Nat}{w:World}(h3:At G3 0 p1 w)(h4:At G4 0 p2 w)(DL:kS p1 L1 N w)(Ke:kS p2 L2 N w)(k:Nat)(hk:k<=N)(l1:fl (L1 k)<=256)(l2:fl (L2 k)<=256)(l3:fl (L1 k-L2 k)<=256):
  Calls Tryz.prog 103 #[.int .i64 (k:Int),.pointer (some ⟨G3,0,none⟩),.pointer (some ⟨G4,0,none⟩)] w (FR (L1 k-L2 k) w):=by
 obtain⟨g1,c1,rfl,eg1,qM⟩:=DL;obtain⟨g2,c2,rfl,eg2,oW⟩:=Ke;have l3a:=h3.1;have l4a:=h4.1;have OD:=af qM;clear qM;have aeh:=af oW;clear oW;have hE:=((Env.start w).at_ h3.1 h3.2).at_ h4.1 h4.2;have hE:=hE.blk 29 aW (g:=w.heap.size) rfl
 obtain⟨W0,aC⟩:∃W0,W0=(w.alloc (.cells aW 29)):=⟨_,rfl⟩
 rw[<-aC] at hE;have aZ:=af aC;clear aC
 go_enter Tryz.func103,Tryz.ntmps103
 go_upto_region 1 with(fail)
 rw[<-aZ.out];replace hE:=hE.drew;refine bH (S:=fun w'=>w'.cell? ⟨G3,0,none⟩=some (.func (.func g1) #[] c1)/\w'.cell? ⟨G4,0,none⟩=some (.func (.func g2) #[] c2)) (by kernel_rfl) (⟨(hE.h2).2,(hE.g1).2⟩) (fun hHeld=> ?_);refine tk 0 ?_;refine tk 1 ?_;refine tk 3 ?_;refine tk 4 ?_;refine r1 2 (fun K hK=> ?_);go_simp;refine hE.fr (OD.out _ hE.ax k hk) ?_;clear hE;intro sa Aa na ca ta Ba ma da w1 hE;go_wp2_with fail
 refine hK.out _ _ (⟨(hE.h3).2,(hE.h2).2⟩) (fun hHeld=> ?_);clear hK K;try simp only[PL]
 refine r1 5 (fun K hK=> ?_);go_simp;refine hE.fr (aeh.out _ hE.ax k hk) ?_;clear hE;intro sb Ab nb cb tb Bb mb db w2 hE;go_wp2_with fail
 refine hK.out _ _ (⟨(hE.h4).2,(hE.h3).2⟩) (fun hHeld=> ?_);clear hK K;try simp only[PL]
 refine r1 6 (fun K hK=> ?_);go_simp;refine hE.fr (SI (ca:=ca) (da:=da) (cb:=cb) (db:=db) hE.g1 hE.g0 l1 l2 l3) ?_;clear hE;intro sr Ar nr cr tr Br mr dr w3 hE;go_wp2_with fail
 refine hK.out _ _ (⟨(hE.h5).2,(hE.h4).2⟩) (fun hHeld=> ?_);clear hK K;try simp only[PL]
 refine r1 7 (fun K hK=> ?_)
 have cS:w.heap.size<=w.heap.size:=by omega
 obtain⟨WW,bn,hB,hV,aM⟩:=aR hE hE.h3 cS hE.g0 cr dr;obtain⟨x0,x1,x2,x3⟩:=(hE.h3).c4;obtain⟨fL,fM,fV,fW⟩:=hE.h3.f4;have bR:=af bn;clear bn;have q4:=(hE.h5).aj (R:=w.heap.size) (by omega) (.bool sr) (.slice Ar nr cr) (.bool tr) (.slice Br mr dr);rw[<-bR.out] at q4;have q5:=(hE.h4).aj (R:=w.heap.size) (by omega) (.bool sr) (.slice Ar nr cr) (.bool tr) (.slice Br mr dr);rw[<-bR.out] at q5;go_simp;rw[<-bR.out];refine hK.out _ _ (⟨(q4).2,(q5).2⟩) (fun hHeld=> ?_);clear hK K;try simp only[PL]
 refine aX (by kernel_rfl) ?_ _;go_wp2_with fail
 obtain⟨y0,y1,y2,y3⟩:=hB.c4;refine aK (v:= .agg (az sr Ar nr cr tr Br mr dr)) (by simp[results,Tryz.results103,go_sem,y0,y1,y2,y3]) rfl ?_;exact⟨sr,Ar,nr,cr,tr,Br,mr,dr,rfl,hV,aM⟩
end
end Go.Proofs.YtclbiihcbfnjmaaGreat
