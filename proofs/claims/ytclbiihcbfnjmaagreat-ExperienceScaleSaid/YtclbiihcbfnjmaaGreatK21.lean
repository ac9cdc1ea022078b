/-
  Parts.
-/
import Derived.Test.YtclbiihcbfnjmaaGreatK20
set_option maxHeartbeats 8000000
set_option linter.unusedSimpArgs false
set_option maxRecDepth 100000
namespace Go.Proofs.YtclbiihcbfnjmaaGreat
section
open Go.RowKit

theorem gC {P:Program}{w:World}{o:Oper}{ev:Operand->Value}{ty:TypeId}{x:Operand}{p v:Value}(hr:(Instr.loadAt ty p).run P w= .ok v w)(ho:o.op= .load ty x)(hx:ev x=p):(execOp ev o).run P w= .ok (.value v) w:=by
 simp[execOp,ho,hx,hr,Result.andThen]
theorem At.gn {t:TypeId}{g:Nat}{cs:Array Value}{w:World}{v:Value}(h:ak t g cs w)(i:Nat)(hv:cs[i]?=some v):At g i v w:=⟨h.lt,(h.cell i).trans hv⟩
theorem ak.ne {t u:TypeId}{g k:Nat}{cs ds:Array Value}{W:World}(h:ak t g cs W)(h2:ak u k ds W)(ht:t≠u):g≠k:=fun e=>by
 subst e;have:=Option.some.inj (h.symm.trans h2)
 injection this with _ e2 _
 exact ht e2
theorem sZ (W:World)(t:TypeId)(cs:Array Value)(u:TypeId)(ds:Array Value):Below W.heap.size W ((W.alloc (.cells cs t)).alloc (.cells ds u))/\ak t W.heap.size cs ((W.alloc (.cells cs t)).alloc (.cells ds u))/\ak u (W.heap.size+1) ds ((W.alloc (.cells cs t)).alloc (.cells ds u)):=by
 have h1:=ak.new W t cs;have h2:=ak.new (W.alloc (.cells cs t)) u ds;rw[World.size_alloc] at h2;have hb:=cU (W.alloc (.cells cs t)) (.cells ds u);exact⟨(cU W _).trans (hb.mono (by rw[World.size_alloc];omega)),ak.stable _ _ _ _ _ hb h1,h2⟩
theorem dU {t:TypeId}{g n:Nat}:∀(vs:List Value) (o:Nat) (U:World),(∃cs,ak t g cs U/\cs.size=n)->U.grownBy (U.setCells g o vs) (some g)/\∃cs,ak t g cs (U.setCells g o vs)/\cs.size=n:=fun vs=>by
 induction vs with
 |nil=>exact fun o U hU=>⟨⟨rfl,rfl,rfl,Nat.le_refl _,fun _ _ _=>rfl⟩,hU⟩
 |cons v vs ih=>
  intro o U ⟨cs,h3,h4⟩;obtain⟨h5,h6⟩:=ih (o+1) (U.setCell ⟨g,o,none⟩ v) ⟨_,h3.bW o v,by rw[Array.size_setIfInBounds,h4]⟩;exact⟨(Kept.set (Kept.refl U g) (.inr rfl) o v).grown h5 (fun q e=>by cases e;exact .inr rfl),h6⟩
theorem Dr {t:TypeId}{g:Nat}{cs:Array Value}{W:World}(hB:ak t g cs W){n:Nat}(hl:n<=cs.size):W.there g 0 n:=fun j hj=>by
 rw[Nat.zero_add];refine⟨?_,hB.frozen j⟩;rw[hB.cell,Array.getElem?_eq_getElem (by omega)];rfl
theorem jt {t:TypeId}{g:Nat}{cs:Array Value}{W:World}(hB:ak t g cs W)(vs:List Value)(hl:cs.size=vs.length):W.grownBy (W.setCells g 0 vs) (some g)/\ak t g vs.toArray (W.setCells g 0 vs):=by
 obtain⟨h1,ds,h2,h3⟩:=dU (t:=t) (g:=g) (n:=cs.size) vs 0 W ⟨cs,hB,rfl⟩;have hr:=World.rangeAt_setCells_same W g 0 vs (Dr hB (by omega))
 have e:ds=vs.toArray:=by
  apply Array.ext_getElem?;intro i;have h7:=h2.cell i
  rcases Nat.lt_or_ge i vs.length with hi|hi
  ·
   have h8:=hr i _ (List.getElem?_eq_getElem hi);rw[Nat.zero_add] at h8;rw[<-h7,h8,List.getElem?_toArray,List.getElem?_eq_getElem hi]
  ·rw[Array.getElem?_eq_none (by omega),Array.getElem?_eq_none (by rw[List.size_toArray];omega)]
 subst e;exact⟨h1,h2⟩
section
variable {w w':World} {t:TypeId} {g:Nat} {cs:Array Value}
theorem Rd.ax {A:Option Addr}{m:Nat}{f:Nat->Nat}(hr:Rd w.heap.size .u16 w A m f)(hB:ak t g cs w)(hn:cs.toList.all aJ=true)(hg:w.grownBy w' (some g)):Rd w'.heap.size .u16 w' A m f:=fun h0=>by
 obtain⟨b,o,e,hb,hc⟩:=hr h0;refine⟨b,o,e,Nat.lt_of_lt_of_le hb hg.size,fun i hi=> ?_⟩;have h1:=hc i hi;rw[qO (hg.block b hb fun e2=> ?_)]
 ·exact h1
 ·
  obtain rfl:b=g:=by simpa using e2
  rw[hB.cell] at h1
  have h2:=List.all_eq_true.1 hn _ (by
   have:=Array.mem_of_getElem? h1
   simpa using this)
  simp[aJ] at h2
theorem WV.ax {z:Int}{s:Bool}{A:Option Addr}{m:Nat}(hw:WV w z s A m)(hB:ak t g cs w)(hn:cs.toList.all aJ=true)(hg:w.grownBy w' (some g)):WV w' z s A m:=⟨hw.1,hw.2.1,Rd.ax hw.2.2 hB hn hg⟩
theorem FV.ax {q:Rat}{s u:Bool}{A C:Option Addr}{a b:Nat}(hf:FV w q s A a u C b)(hB:ak t g cs w)(hn:cs.toList.all aJ=true)(hg:w.grownBy w' (some g)):FV w' q s A a u C b:=⟨hf.1.ax hB hn hg,hf.2.ax hB hn hg⟩
theorem bH.ax {h:Nat->Nat->Q8}{n:Nat}{J:Nat->Nat->Prop}{q:Nat->Nat->Rat}(hq:bH h n J q w)(hB:ak t g cs w)(hn:cs.toList.all aJ=true)(hg:w.grownBy w' (some g)):bH h n J q w':=fun k hk j hj hJ=>FV.ax (hq k hk j hj hJ) hB hn hg
theorem ak.ax {u:TypeId}{k:Nat}{ds:Array Value}(h:ak u k ds w)(hg:w.grownBy w' (some g))(hk:k≠g):ak u k ds w':=(hg.block k h.lt (fun e=>hk (by simpa using e))).trans h
theorem bR.ax {G n cap:Nat}{P:Nat->Nat->Nat->Value}(h:bR G n cap P w)(hB:ak t g cs w)(ht:t≠ 98)(hg:w.grownBy w' (some g)):bR G n cap P w':=by
 have hne:G≠g:=fun e=>(hB.kO h ht) e.symm
 obtain⟨h1,h2,ds,h3,h4⟩:=h;exact⟨h1,h2,ds,h3.ax hg hne,h4⟩
theorem At.ax {b o:Nat}{v:Value}(h:At b o v w)(hg:w.grownBy w' (some g))(hb:b≠g):At b o v w':=⟨Nat.lt_of_lt_of_le h.1 hg.size,(qO (hg.block b h.1 (fun e=>hb (by simpa using e)))).trans h.2⟩
theorem Below.ax {B:Nat}{a:World}(h:Below B a w)(hg:w.grownBy w' (some g))(hB:B<=w.heap.size)(hgB:B<=g):Below B a w':=h.grown hg hB (fun k e=>by cases e;exact hgB)
end
end
section
open Go.RowKit

theorem Ij (z:Int)(r:Bool)(w:World)(h:r= !decide (0<=z/\z<=1099511627776)):Calls Tryz.prog 127 #[.int .i64 z] w fun e w'=>e= .returned (.bool r)/\w'=w:=by
 subst h
 by_cases h1:z<0
 ·
  have t1:decide (z<0)=true:=decide_eq_true h1;rw[decide_eq_false (show¬(0<=z/\z<=1099511627776) by omega)]
  go_enter Tryz.func127,Tryz.ntmps127
  go_wp2_with fail
  go_ret
  exact⟨rfl,rfl⟩
 ·
  have t1:decide (z<0)=false:=decide_eq_false h1
  by_cases h2:1099511627776<z
  ·
   have t2:decide (1099511627776<z)=true:=decide_eq_true h2;rw[decide_eq_false (show¬(0<=z/\z<=1099511627776) by omega)]
   go_enter Tryz.func127,Tryz.ntmps127
   go_wp2_with fail
   go_ret
   exact⟨rfl,rfl⟩
  ·
   have t2:decide (1099511627776<z)=false:=decide_eq_false h2;rw[decide_eq_true (show(0<=z/\z<=1099511627776) by omega)]
   go_enter Tryz.func127,Tryz.ntmps127
   go_wp2_with fail
   go_ret
   exact⟨rfl,rfl⟩
theorem PM {A:Option Addr}{n c:Nat}{l:Nat->Int}{w:World}(hl:pZ A n l w)(hn:n<=1000000):
  Calls Tryz.prog 159 #[.slice A n c,.func (.func 127) #[] #[]] w fun e w'=>∃r:Int,e= .returned (.int .i64 r)/\(r<0↔∀k,k<n->(0<=l k/\l k<=1099511627776))/\Below w.heap.size w w':=by
 have hE:=Env.start w;have Hl:=Lib.hid hl;clear hl
 go_enter Tryz.func159,Tryz.ntmps159
 go_wp2_with fail
 go_loopw [8] (fun p wr=>∃k:Nat,k<=n/\p= .int .i64 (k:Int)/\Hid (∀j,j<k->(0<=l j/\l j<=1099511627776))/\Env w (fun _=>True) wr) (fun p _=>n-(intOf p).toNat)
 case atStart=>exact⟨0,Nat.zero_le _,rfl,Lib.hid (fun j hj=>absurd hj (Nat.not_lt_zero j)),hE⟩
 case round=>
  clear hE;obtain⟨k,hk,rfl,Hg,hE⟩:=hrel
  by_cases hlt:k<n
  ·
   have t1:decide ((k:Int)<(n:Int))=true:=decide_eq_true (by omega)
   have t2:(k:Int)<(n:Int):=by omega
   obtain⟨b,o,rfl,ha⟩:=Hl.out k hlt;have c0:=(At.stable _ _ _ _ _ hE.av ha).2;have Ha:=Lib.hid ha;clear ha
   by_cases hz:(0<=l k/\l k<=1099511627776)
   ·
    have Hz:=Lib.hid hz;clear hz;go_wp2_with fail
    refine(Ij (l k) false _ (by rw[decide_eq_true Hz.out];rfl)).mono ?_;clear c0 t1
    rintro e _ ⟨rfl,rfl⟩
    go_wp2_with fail
    go_roundw
    case rel=>exact⟨k+1,by omega,by(try simp)<;>norm_cast,Lib.hid (fun j hj=>by
     by_cases e:j=k
     ·subst e;exact Hz.out
     ·exact Hg.out j (by omega)),hE⟩
    case measure=>simp[intOf];omega
   ·
    have Hz:=Lib.hid hz;clear hz;go_wp2_with fail
    refine(Ij (l k) true _ (by rw[decide_eq_false Hz.out];rfl)).mono ?_;clear c0 t1
    rintro e _ ⟨rfl,rfl⟩
    go_wp2_with fail
    go_ret
    exact⟨(k:Int),rfl,⟨fun h=>by omega,fun h=>absurd (h k hlt) Hz.out⟩,hE.av⟩
  ·
   have eN:n=k:=by omega
   subst eN;have t1:decide ((n:Int)<(n:Int))=false:=decide_eq_false (by omega)
   have t2:¬(n:Int)<(n:Int):=by omega
   go_wp2_with fail
   go_ret
   exact⟨-1,rfl,⟨fun _=>Hg.out,fun _=>by decide⟩,hE.av⟩
theorem Ds {A:Option Addr}{n c:Nat}{l:Nat->Int}{w:World}(hl:pZ A n l w)(hn:n<=1000000):
  Calls Tryz.prog 126 #[.slice A n c,.func (.func 127) #[] #[]] w fun e w'=>∃v,e= .returned (.bool v)/\(v=false↔∀k,k<n->(0<=l k/\l k<=1099511627776))/\Below w.heap.size w w':=by
 have Hl:=Lib.hid hl;clear hl
 go_enter Tryz.func126,Tryz.ntmps126
 go_wp2_with fail
 refine(PM Hl.out hn).mono ?_
 rintro e w1 ⟨r,rfl,hr,hb⟩
 have Hr:=Lib.hid hr;have Hb:=Lib.hid hb;clear hr hb;go_wp2_with fail
 go_ret
 refine⟨_,rfl, ?_,Hb.out⟩;rw[<-Hr.out,decide_eq_false_iff_not];omega
theorem uM {A:Option Addr}{n c:Nat}{l:Nat->Int}{w:World}(hl:pZ A n l w)(hn:n<=1000000):
  Calls Tryz.prog 84 #[.slice A n c] w (fY (Cm n l) w):=by
 have Hl:=Lib.hid hl;clear hl
 by_cases h1:n<=120
 ·
  have t1:decide ((n:Int)<=120)=true:=decide_eq_true (by omega)
  have t2:(n:Int)<=120:=by omega
  go_enter Tryz.func84,Tryz.ntmps84
  go_wp2_with fail
  refine(Ds Hl.out hn).mono ?_
  rintro e w1 ⟨r,rfl,hr,hb⟩
  have Hr:=Lib.hid hr;have Hb:=Lib.hid hb;clear hr hb t1;go_wp2_with fail
  go_ret
  refine⟨!r,rfl, ?_,Hb.out⟩;unfold Cm;rw[<-Hr.out]
  cases r<;>simp[h1]
 ·
  have t1:decide ((n:Int)<=120)=false:=decide_eq_false (by omega)
  have t2:¬(n:Int)<=120:=by omega
  go_enter Tryz.func84,Tryz.ntmps84
  go_wp2_with fail
  go_ret
  exact⟨false,rfl,bt (fun h=>h1 h.1),Below.refl _ _⟩
theorem oA {b:Bh}{x:Ct}{w:World}(hb:b.rd w)(lS:b.bd)(hx:x.rd w)(iB:x.bd):
  Calls Tryz.prog 32 #[.agg b.C,.agg x.C] w (fY (x.ok b) w):=by
 have jG:=Lib.hid hb;clear hb;have fS:=Lib.hid lS;clear lS;have mB:=Lib.hid hx;clear hx;have fZ:=Lib.hid iB;clear iB;have hE:=((Env.start w).blk 31 b.C (g:=w.heap.size) rfl).blk 36 x.C (g:=w.heap.size+1) (by simp)
 obtain⟨W0,aC⟩:∃W0,W0=((w.alloc (.cells b.C 31)).alloc (.cells x.C 36)):=⟨_,rfl⟩
 rw[<-aC] at hE;have aU:=Lib.hid aC;clear aC
 go_enter Tryz.func32,Tryz.ntmps32
 go_upto_region 1 with(fail)
 rw[<-aU.out];obtain⟨k1,k2,k3,k4,k5,k6,k7⟩:=(hE.here.1.2).c7;go_wp2_with fail
 refine(kS b.F b.S b.A b.n b.c b.r b.i.s b.i.t b.i.A b.i.B b.i.n b.i.m b.i.c b.i.d b.i.f b.i.g _ (jG.out.1.below hE.av) fS.out.1 (oT.below jG.out.2 hE.av) fS.out.2.1 fS.out.2.2).mono ?_;clear k1 k2 k3 k4 k5 k6 k7
 rintro e w8 ⟨r,rfl,hr,hb⟩
 replace hE:=hE.step hb;clear hb
 cases r with
 |false=>
  have HN:=Lib.hid (show¬x.ok b from fun h=>Bool.false_ne_true (hr.2 (h.1)));clear hr;go_wp2_with fail
  go_ret
  exact⟨false,rfl,bt HN.out,hE.av⟩
 |true=>
  have HP8:=Lib.hid (hr.1 rfl);clear hr;have k9:=(hE.here.1.2).cell 0;have eG:=(hE.here.1.2).cell 1;have cS:=(hE.here.1.2).cell 2;have cZ:=(hE.here.2).cell 0;have dG:=(hE.here.2).cell 1;go_wp2_with fail
  refine(oH b.F b.S x.E x.Y b.A b.n b.c b.r _ (jG.out.1.below hE.av) fS.out.1).mono ?_;clear k9 eG cS cZ dG
  rintro e zQ ⟨r,rfl,hr,hb⟩
  replace hE:=hE.step hb;clear hb
  cases r with
  |false=>
   have HN:=Lib.hid (show¬x.ok b from fun h=>Bool.false_ne_true (hr.2 (h.2.1)));clear hr;go_wp2_with fail
   go_ret
   exact⟨false,rfl,bt HN.out,hE.av⟩
  |true=>
   have an4:=Lib.hid (hr.1 rfl);clear hr
   by_cases ahf:0<=x.T
   rotate_left 1
   ·
    have t1:decide (x.T<0)=true:=decide_eq_true (by omega)
    have t2:x.T<0:=by omega
    have HN:=Lib.hid (show¬x.ok b from fun h=>ahf (h.2.2.1.1));have lC:=(hE.here.2).cell 2;go_wp2_with fail
    go_ret
    exact⟨false,rfl,bt HN.out,hE.av⟩
   have t1:decide (x.T<0)=false:=decide_eq_false (by omega)
   have t2:¬x.T<0:=by omega
   by_cases NF:x.T<=120
   rotate_left 1
   ·
    have t3:decide (120<x.T)=true:=decide_eq_true (by omega)
    have t4:120<x.T:=by omega
    have HN:=Lib.hid (show¬x.ok b from fun h=>NF (h.2.2.1.2));have jx:=(hE.here.2).cell 2;go_wp2_with fail
    go_ret
    exact⟨false,rfl,bt HN.out,hE.av⟩
   have t3:decide (120<x.T)=false:=decide_eq_false (by omega)
   have t4:¬120<x.T:=by omega
   have lO:=(hE.here.2).cell 2;have kI:=(hE.here.2).cell 3;have og:=(hE.here.2).cell 4;have mQ:=(hE.here.2).cell 5;have oh:=(hE.here.2).cell 6
   go_upto_region 4 with(fail)
   clear lO kI og mQ oh;clear t1 t2 t3 t4
   obtain⟨g24,kT⟩:∃g24,g24=zQ.heap.size:=⟨_,rfl⟩
   have Nk:w.heap.size<g24:=by rw[kT];exact(hE.here.1.2).lt
   have aaj:w.heap.size+1<g24:=by rw[kT];exact(hE.here.2).lt
   replace hE:=hE.blk 29 (az x.p.s x.p.A x.p.n x.p.c x.p.t x.p.B x.p.m x.p.d) (g:=g24) kT.symm;generalize zQ.alloc (.cells (az x.p.s x.p.A x.p.n x.p.c x.p.t x.p.B x.p.m x.p.d) 29)=W24 at hE⊢;rw[<-kT];clear kT;obtain⟨mS,lW,oV,om⟩:=(hE.here.2).c4;go_wp2_with fail
   cases hv:okF x.p.s x.p.n x.p.f x.p.t x.p.m x.p.g with
   |false=>
    have HN:=Lib.hid (show¬x.ok b from fun h=>Bool.false_ne_true (hv.symm.trans h.2.2.2.1.1));refine(cT x.p.s x.p.t x.p.A x.p.B x.p.n x.p.m x.p.c x.p.d x.p.f x.p.g _ (oT.below mB.out.1 hE.av) fZ.out.2.1.1 fZ.out.2.1.2 false hv).mono ?_;clear mS lW oV om
    rintro e QG ⟨rfl,hb⟩
    replace hE:=hE.step hb;clear hb hv;go_wp2_with fail
    go_ret
    exact⟨false,rfl,bt HN.out,hE.av⟩
   |true=>
    refine(cT x.p.s x.p.t x.p.A x.p.B x.p.n x.p.m x.p.c x.p.d x.p.f x.p.g _ (oT.below mB.out.1 hE.av) fZ.out.2.1.1 fZ.out.2.1.2 true hv).mono ?_;clear mS lW oV om
    rintro e QG ⟨rfl,hb⟩
    replace hE:=hE.step hb;have HV:=Lib.hid hv;clear hb hv
    by_cases hs:x.p.s=true
    ·
     have HN:=Lib.hid (show¬x.ok b from fun h=>Bool.false_ne_true (h.2.2.2.1.2.1.symm.trans hs));have zM:=(hE.here.2).cell 0;go_wp2_with fail
     go_ret
     exact⟨false,rfl,bt HN.out,hE.av⟩
    replace hs:x.p.s=false:=by simpa using hs
    by_cases ahg:x.p.n<=4
    rotate_left 1
    ·
     have t1:decide (4<(x.p.n:Int))=true:=decide_eq_true (by omega)
     have t2:4<(x.p.n:Int):=by omega
     have HN:=Lib.hid (show¬x.ok b from fun h=>ahg (h.2.2.2.1.2.2.1));have vH:=(hE.here.2).cell 0;have Md:=(hE.here.2).cell 1;go_wp2_with fail
     go_ret
     exact⟨false,rfl,bt HN.out,hE.av⟩
    have t1:decide (4<(x.p.n:Int))=false:=decide_eq_false (by omega)
    have t2:¬4<(x.p.n:Int):=by omega
    by_cases Tg:x.p.m<=4
    rotate_left 1
    ·
     have t3:decide (4<(x.p.m:Int))=true:=decide_eq_true (by omega)
     have t4:4<(x.p.m:Int):=by omega
     have HN:=Lib.hid (show¬x.ok b from fun h=>Tg (h.2.2.2.1.2.2.2));have YX:=(hE.here.2).cell 0;have Kr:=(hE.here.2).cell 1;have Ek:=(hE.here.2).cell 3;go_wp2_with fail
     go_ret
     exact⟨false,rfl,bt HN.out,hE.av⟩
    have t3:decide (4<(x.p.m:Int))=false:=decide_eq_false (by omega)
    have t4:¬4<(x.p.m:Int):=by omega
    have DT:=(hE.here.2).cell 0;have zN:=(hE.here.2).cell 1;have QH:=(hE.here.2).cell 3;have VP:=(hE.here.1.2).cell 7;have ID:=(hE.here.1.2).cell 8;go_wp2_with fail
    have HS:=Lib.hid hs;refine(uM (pZ.below mB.out.2.1 hE.av) fZ.out.2.2.1).mono ?_;clear DT zN QH VP ID
    rintro e w44 ⟨r,rfl,hr,hb⟩
    replace hE:=hE.step hb;clear hb
    cases r with
    |false=>
     have HN:=Lib.hid (show¬x.ok b from fun h=>Bool.false_ne_true (hr.2 (h.2.2.2.2.1)));clear hr;go_wp2_with fail
     go_ret
     exact⟨false,rfl,bt HN.out,hE.av⟩
    |true=>
     have an5:=Lib.hid (hr.1 rfl);clear hr;have xw:=(hE.here.1.2).cell 8;go_wp2_with fail
     refine(uM (pZ.below mB.out.2.2 hE.av) fZ.out.2.2.2).mono ?_;clear xw
     rintro e w99 ⟨r,rfl,hr,hb⟩
     replace hE:=hE.step hb;have HR:=Lib.hid hr;clear hb hr;go_wp2_with fail
     go_ret
     exact⟨r,rfl,⟨fun h=>⟨HP8.out,an4.out,⟨ahf,NF⟩,⟨HV.out,HS.out,ahg,Tg⟩,an5.out,HR.out.1 h⟩,fun h=>HR.out.2 h.2.2.2.2.2⟩,hE.av⟩
theorem PO {b:Bh}{x:Ct}{w:World}(hb:b.rd w)(lS:b.bd)(hx:x.rd w)(iB:x.bd)(h:x.ok b):
  Calls Tryz.prog 32 #[.agg b.C,.agg x.C] w fun e w'=>e= .returned (.bool true)/\Below w.heap.size w w':=
 (oA hb lS hx iB).mono fun _ _ ⟨v,he,hv,hw⟩=>by obtain rfl:v=true:=hv.2 h;exact⟨he,hw⟩
end
section
open Go.RowKit

theorem Fv {A:Option Addr}{n c:Nat}{l:Nat->Int}{g:Nat}{w:World}(hg:At g 0 (.slice A n c) w)(hl:pZ A n l w)(hb:∀k,k<n->-9223372036854775808<=l k/\l k<=9223372036854775807)(k:Nat)(_:k<=9223372036854775807):
  Calls Tryz.prog 104 #[.int .i64 (k:Int),.pointer (some ⟨g,0,none⟩)] w (FR (jR l n k) w):=by
 by_cases hkn:k<n
 ·
  rw[show jR l n k=((l k:Int):Rat) from if_pos hkn];obtain⟨b,o,rfl,ha⟩:=hl k hkn;obtain⟨z1,z2⟩:=hb k hkn;have t1:decide ((k:Int)<(n:Int))=true:=decide_eq_true (by omega)
  have t2:(k:Int)<(n:Int):=by omega
  obtain⟨x,hx⟩:∃x,x=l k:=⟨_,rfl⟩
  rw[<-hx] at ha z1 z2⊢;have qg:=Lib.hid hl;clear hl;have jG:=Lib.hid hb;clear hb;have uZ:=Lib.hid hg;clear hg;have Hha:=Lib.hid ha;clear ha;have mB:=Lib.hid hx;clear hx;have hE:=Env.start w;have hE:=hE.blk 29 aY (g:=w.heap.size) rfl
  obtain⟨W0,aC⟩:∃W0,W0=(w.alloc (.cells aY 29)):=⟨_,rfl⟩
  rw[<-aC] at hE;have aU:=Lib.hid aC;clear aC
  go_enter Tryz.func104,Tryz.ntmps104
  go_upto_region 1 with(fail)
  rw[<-aU.out];have k1:=(At.stable _ _ _ _ _ hE.av uZ.out).2;have k2:=(At.stable _ _ _ _ _ hE.av Hha.out).2;go_wp2_with fail
  refine hE.fr (aR x _ z1 z2) ?_;clear hE k1 k2;intro sz Az nz cz tz Bz mz dz w3 hE
  have cA:w.heap.size<=w.heap.size:=by omega
  obtain⟨WW,bn,hB,hV,aQ⟩:=aO hE hE.here.1.2 cA hE.here.2 cz dz;obtain⟨x0,x1,x2,x3⟩:=(hE.here.1.2).c4;obtain⟨fQ,fR,gJ,gK⟩:=hE.here.1.2.f4;have bJ:=Lib.hid bn;clear bn;go_wp2_with fail
  clear x0 x1 x2 x3;rw[<-bJ.out];obtain⟨y0,y1,y2,y3⟩:=hB.c4;refine bodyPost_ret (v:= .agg (az sz Az nz cz tz Bz mz dz)) (by simp[results,Tryz.results104,go_sem,y0,y1,y2,y3]) rfl ?_;exact⟨sz,Az,nz,cz,tz,Bz,mz,dz,rfl,hV,aQ⟩
 ·
  rw[show jR l n k=((0:Int):Rat) from if_neg hkn];have t1:decide ((k:Int)<(n:Int))=false:=decide_eq_false (by omega)
  have t2:¬(k:Int)<(n:Int):=by omega
  have qg:=Lib.hid hl;clear hl;have jG:=Lib.hid hb;clear hb;have uZ:=Lib.hid hg;clear hg;have hE:=Env.start w;have hE:=hE.blk 29 aY (g:=w.heap.size) rfl
  obtain⟨W0,aC⟩:∃W0,W0=(w.alloc (.cells aY 29)):=⟨_,rfl⟩
  rw[<-aC] at hE;have aU:=Lib.hid aC;clear aC
  go_enter Tryz.func104,Tryz.ntmps104
  go_upto_region 1 with(fail)
  rw[<-aU.out];have k1:=(At.stable _ _ _ _ _ hE.av uZ.out).2;go_wp2_with fail
  refine hE.fr (aR 0 _ (by decide) (by decide)) ?_;clear hE k1;intro sz Az nz cz tz Bz mz dz w2 hE
  have cA:w.heap.size<=w.heap.size:=by omega
  obtain⟨WW,bn,hB,hV,aQ⟩:=aO hE hE.here.1.2 cA hE.here.2 cz dz;obtain⟨x0,x1,x2,x3⟩:=(hE.here.1.2).c4;obtain⟨fQ,fR,gJ,gK⟩:=hE.here.1.2.f4;have bJ:=Lib.hid bn;clear bn;go_wp2_with fail
  clear x0 x1 x2 x3;rw[<-bJ.out];obtain⟨y0,y1,y2,y3⟩:=hB.c4;refine bodyPost_ret (v:= .agg (az sz Az nz cz tz Bz mz dz)) (by simp[results,Tryz.results104,go_sem,y0,y1,y2,y3]) rfl ?_;exact⟨sz,Az,nz,cz,tz,Bz,mz,dz,rfl,hV,aQ⟩
theorem kC (A:Option Addr)(n c:Nat)(w:World):Calls Tryz.prog 54 #[.slice A n c] w fun e w'=>e= .returned (.func (.func 104) #[] #[.pointer (some ⟨w.heap.size,0,none⟩)])/\w'=w.alloc (.cells #[.slice A n c] 34):=by
 go_enter Tryz.func54,Tryz.ntmps54
 go_wp2_with fail
 go_ret
 exact⟨rfl,rfl⟩
theorem uN {A:Option Addr}{n c:Nat}{l:Nat->Int}{g:Nat}{w:World}(hB:ak 34 g #[.slice A n c] w)(hl:pZ A n l w)(hb:∀k,k<n->-9223372036854775808<=l k/\l k<=9223372036854775807)(N:Nat)(hN:N<=9223372036854775807):
  jQ (.func (.func 104) #[] #[.pointer (some ⟨g,0,none⟩)]) (jR l n) N w:=
 ⟨_,_,rfl,enters_of Tryz.func104 (by kernel_rfl) rfl,fun W hW k hk=>Fv (At.stable _ _ _ _ _ hW ⟨hB.lt,hB.c1⟩) (hl.below hW) hb k (by omega)⟩
theorem PR {q:Rat}{sq tq:Bool}{Aq Bq:Option Addr}{nq cq mq dq:Nat}{T:Nat}{gv ga:Nat}{w:World}(hg:At gv 2 (.int .i64 (T:Int)) w)(hq:FV w q sq Aq nq tq Bq mq)(hB:ak 29 ga (az sq Aq nq cq tq Bq mq dq) w)(k:Nat):
  Calls Tryz.prog 112 #[.int .i64 (k:Int),.pointer (some ⟨gv,0,none⟩),.pointer (some ⟨ga,0,none⟩)] w (FR (mU T q k) w):=by
 by_cases hkT:k<T
 ·
  rw[show mU T q k=q from if_pos hkT];have t1:decide ((k:Int)<(T:Int))=true:=decide_eq_true (by omega)
  have t2:(k:Int)<(T:Int):=by omega
  have hx0:=At.gn hB 0 rfl;have hx1:=At.gn hB 1 rfl;have Jr:=At.gn hB 2 rfl;have hx3:=At.gn hB 3 rfl;have uZ:=Lib.hid hg;clear hg;have ahh:=Lib.hid hx0;clear hx0;have ahi:=Lib.hid hx1;clear hx1;have ahj:=Lib.hid Jr;clear Jr;have ahk:=Lib.hid hx3;clear hx3;have hE:=(Env.start w).fv hq;have hE:=hE.blk 29 aY (g:=w.heap.size) rfl
  obtain⟨W0,aC⟩:∃W0,W0=(w.alloc (.cells aY 29)):=⟨_,rfl⟩
  rw[<-aC] at hE;have aU:=Lib.hid aC;clear aC
  go_enter Tryz.func112,Tryz.ntmps112
  go_upto_region 1 with(fail)
  rw[<-aU.out];have k1:=(At.stable _ _ _ _ _ hE.av uZ.out).2;have k2:=(At.stable _ _ _ _ _ hE.av ahh.out).2;have k3:=(At.stable _ _ _ _ _ hE.av ahi.out).2;have k4:=(At.stable _ _ _ _ _ hE.av ahj.out).2;have k5:=(At.stable _ _ _ _ _ hE.av ahk.out).2
  have cA:w.heap.size<=w.heap.size:=by omega
  obtain⟨WW,bn,hB,hV,aQ⟩:=aO hE hE.here.2 cA hE.here.1.2 cq dq;obtain⟨x0,x1,x2,x3⟩:=(hE.here.2).c4;obtain⟨fQ,fR,gJ,gK⟩:=hE.here.2.f4;have bJ:=Lib.hid bn;clear bn;go_wp2_with fail
  clear x0 x1 x2 x3;rw[<-bJ.out];obtain⟨y0,y1,y2,y3⟩:=hB.c4;refine bodyPost_ret (v:= .agg (az sq Aq nq cq tq Bq mq dq)) (by simp[results,Tryz.results112,go_sem,y0,y1,y2,y3]) rfl ?_;exact⟨sq,Aq,nq,cq,tq,Bq,mq,dq,rfl,hV,aQ⟩
 ·
  rw[show mU T q k=((0:Int):Rat) from if_neg hkT];have t1:decide ((k:Int)<(T:Int))=false:=decide_eq_false (by omega)
  have t2:¬(k:Int)<(T:Int):=by omega
  have hx0:=At.gn hB 0 rfl;have hx1:=At.gn hB 1 rfl;have Jr:=At.gn hB 2 rfl;have hx3:=At.gn hB 3 rfl;have uZ:=Lib.hid hg;clear hg;have ahh:=Lib.hid hx0;clear hx0;have ahi:=Lib.hid hx1;clear hx1;have ahj:=Lib.hid Jr;clear Jr;have ahk:=Lib.hid hx3;clear hx3;have hE:=(Env.start w).fv hq;have hE:=hE.blk 29 aY (g:=w.heap.size) rfl
  obtain⟨W0,aC⟩:∃W0,W0=(w.alloc (.cells aY 29)):=⟨_,rfl⟩
  rw[<-aC] at hE;have aU:=Lib.hid aC;clear aC
  go_enter Tryz.func112,Tryz.ntmps112
  go_upto_region 1 with(fail)
  rw[<-aU.out];have k1:=(At.stable _ _ _ _ _ hE.av uZ.out).2;go_wp2_with fail
  refine hE.fr (aR 0 _ (by decide) (by decide)) ?_;clear hE k1;intro sz Az nz cz tz Bz mz dz w2 hE
  have cA:w.heap.size<=w.heap.size:=by omega
  obtain⟨WW,bn,hB,hV,aQ⟩:=aO hE hE.here.1.2 cA hE.here.2 cz dz;obtain⟨x0,x1,x2,x3⟩:=(hE.here.1.2).c4;obtain⟨fQ,fR,gJ,gK⟩:=hE.here.1.2.f4;have bJ:=Lib.hid bn;clear bn;go_wp2_with fail
  clear x0 x1 x2 x3;rw[<-bJ.out];obtain⟨y0,y1,y2,y3⟩:=hB.c4;refine bodyPost_ret (v:= .agg (az sz Az nz cz tz Bz mz dz)) (by simp[results,Tryz.results112,go_sem,y0,y1,y2,y3]) rfl ?_;exact⟨sz,Az,nz,cz,tz,Bz,mz,dz,rfl,hV,aQ⟩
theorem tA (x:Ct)(G N cap:Nat)(sq:Bool)(Aq:Option Addr)(nq cq:Nat)(tq:Bool)(Bq:Option Addr)(mq dq:Nat)(w:World):Calls Tryz.prog 70 #[.agg (x.Q G N cap),.agg (az sq Aq nq cq tq Bq mq dq)] w fun e w'=>e= .returned (.func (.func 112) #[] #[.pointer (some ⟨w.heap.size,0,none⟩),.pointer (some ⟨w.heap.size+1,0,none⟩)])/\w'=(w.alloc (.cells (x.Q G N cap) 80)).alloc (.cells (az sq Aq nq cq tq Bq mq dq) 29):=by
 go_enter Tryz.func70,Tryz.ntmps70
 go_wp2_with fail
 go_ret
 exact⟨by simp,rfl⟩
theorem PS {x:Ct}{G N cap:Nat}{q:Rat}{sq tq:Bool}{Aq Bq:Option Addr}{nq cq mq dq:Nat}{gv ga:Nat}{w:World}(hV:ak 80 gv (x.Q G N cap) w)(hT:0<=x.T)(hq:FV w q sq Aq nq tq Bq mq)(hB:ak 29 ga (az sq Aq nq cq tq Bq mq dq) w)(M:Nat):
  jQ (.func (.func 112) #[] #[.pointer (some ⟨gv,0,none⟩),.pointer (some ⟨ga,0,none⟩)]) (mU x.T.toNat q) M w:=
 ⟨_,_,rfl,enters_of Tryz.func112 (by kernel_rfl) rfl,fun W hW k hk=>PR (At.stable _ _ _ _ _ hW (At.gn hV 2 (by rw[Int.toNat_of_nonneg hT];rfl))) (hq.below hW) (ak.stable _ _ _ _ _ hW hB) k⟩
def an6 (L:Nat->Rat)(N:Nat)(w:World)(e:Ending)(w':World):Prop:=∃p,e= .returned p/\jQ p L N w'/\Below w.heap.size w w'
theorem U8 {L1 L2:Nat->Rat}{p1 p2:Value}{N G3 G4:Nat}{w:World}(h3:At G3 0 p1 w)(h4:At G4 0 p2 w)(Cg:jQ p1 L1 N w)(Ik:jQ p2 L2 N w)(k:Nat)(hk:k<=N)(l1:fl (L1 k)<=256)(l2:fl (L2 k)<=256)(l3:fl (L1 k-L2 k)<=256):
  Calls Tryz.prog 103 #[.int .i64 (k:Int),.pointer (some ⟨G3,0,none⟩),.pointer (some ⟨G4,0,none⟩)] w (FR (L1 k-L2 k) w):=by
 obtain⟨g1,c1,rfl,eg1,oR⟩:=Cg;obtain⟨g2,c2,rfl,eg2,lQ⟩:=Ik;have l3a:=h3.1;have l4a:=h4.1;have Mx:=Lib.hid oR;clear oR;have abo:=Lib.hid lQ;clear lQ;have hE:=((Env.start w).at_ h3.1 h3.2).at_ h4.1 h4.2;have hE:=hE.blk 29 aY (g:=w.heap.size) rfl
 obtain⟨W0,aC⟩:∃W0,W0=(w.alloc (.cells aY 29)):=⟨_,rfl⟩
 rw[<-aC] at hE;have aU:=Lib.hid aC;clear aC
 go_enter Tryz.func103,Tryz.ntmps103
 go_upto_region 1 with(fail)
 rw[<-aU.out];replace hE:=hE.drew;refine wp_region_held_drew (S:=fun w'=>w'.cell? ⟨G3,0,none⟩=some (.func (.func g1) #[] c1)/\w'.cell? ⟨G4,0,none⟩=some (.func (.func g2) #[] c2)) (by kernel_rfl) (⟨(hE.h2).2,(hE.here.1.2).2⟩) (fun hHeld=> ?_);refine tk 0 ?_;refine tk 1 ?_;refine tk 3 ?_;refine tk 4 ?_;refine r1 2 (fun K hK=> ?_);go_simp;refine hE.fr (Mx.out _ hE.av k hk) ?_;clear hE;intro sa Aa na ca ta Ba ma da w1 hE;go_wp2_with fail
 refine hK.out _ _ (⟨(hE.h3).2,(hE.h2).2⟩) (fun hHeld=> ?_);clear hK K;try simp only[PL]
 refine r1 5 (fun K hK=> ?_);go_simp;refine hE.fr (abo.out _ hE.av k hk) ?_;clear hE;intro sb Ab nb cb tb Bb mb db w2 hE;go_wp2_with fail
 refine hK.out _ _ (⟨(hE.h4).2,(hE.h3).2⟩) (fun hHeld=> ?_);clear hK K;try simp only[PL]
 refine r1 6 (fun K hK=> ?_);go_simp;refine hE.fr (PK (ca:=ca) (da:=da) (cb:=cb) (db:=db) hE.here.1.2 hE.here.2 l1 l2 l3) ?_;clear hE;intro sr Ar nr cr tr Br mr dr w3 hE;go_wp2_with fail
 refine hK.out _ _ (⟨(hE.h5).2,(hE.h4).2⟩) (fun hHeld=> ?_);clear hK K;try simp only[PL]
 refine r1 7 (fun K hK=> ?_)
 have cA:w.heap.size<=w.heap.size:=by omega
 obtain⟨WW,bn,hB,hV,aQ⟩:=aO hE hE.h3 cA hE.here.2 cr dr;obtain⟨x0,x1,x2,x3⟩:=(hE.h3).c4;obtain⟨fQ,fR,gJ,gK⟩:=hE.h3.f4;have bJ:=Lib.hid bn;clear bn;have q4:=(hE.h5).ai (R:=w.heap.size) (by omega) (.bool sr) (.slice Ar nr cr) (.bool tr) (.slice Br mr dr);rw[<-bJ.out] at q4;have q5:=(hE.h4).ai (R:=w.heap.size) (by omega) (.bool sr) (.slice Ar nr cr) (.bool tr) (.slice Br mr dr);rw[<-bJ.out] at q5;go_simp;rw[<-bJ.out];refine hK.out _ _ (⟨(q4).2,(q5).2⟩) (fun hHeld=> ?_);clear hK K;try simp only[PL]
 refine wpAnyH_done (by kernel_rfl) ?_ _;go_wp2_with fail
 obtain⟨y0,y1,y2,y3⟩:=hB.c4;refine bodyPost_ret (v:= .agg (az sr Ar nr cr tr Br mr dr)) (by simp[results,Tryz.results103,go_sem,y0,y1,y2,y3]) rfl ?_;exact⟨sr,Ar,nr,cr,tr,Br,mr,dr,rfl,hV,aQ⟩
end
end Go.Proofs.YtclbiihcbfnjmaaGreat
