/-
  Parts.
-/
import Derived.Deep.MidRow
import Derived.Test.YtclbiihcbfnjmaaGreatK20
import Derived.Test.YtclbiihcbfnjmaaGreatK18
import Derived.Test.YtclbiihcbfnjmaaGreatK2
import Derived.Test.YtclbiihcbfnjmaaGreatK8
set_option maxHeartbeats 8000000
set_option linter.unusedSimpArgs false
set_option maxRecDepth 100000
namespace Go.Proofs.YtclbiihcbfnjmaaGreat
section
open Go.RowKit

theorem ld_exec {P:Program}{w:World}{o:Oper}{ev:Operand->Value}{ty:TypeId}{x:Operand}{p v:Value}(hr:(Instr.loadAt ty p).run P w= .ok v w)(ho:o.op= .load ty x)(hx:ev x=p):(execOp ev o).run P w= .ok (.value v) w:=by
 simp[execOp,ho,hx,hr,Result.andThen]
theorem At.of_blk {t:TypeId}{g:Nat}{cs:Array Value}{w:World}{v:Value}(h:Blk t g cs w)(i:Nat)(hv:cs[i]?=some v):At g i v w:=⟨h.lt,(h.cell i).trans hv⟩
theorem Blk.ne {t u:TypeId}{g k:Nat}{cs ds:Array Value}{W:World}(h:Blk t g cs W)(h2:Blk u k ds W)(ht:t≠u):g≠k:=fun e=>by
 subst e;have:=Option.some.inj (h.symm.trans h2)
 injection this with _ e2 _
 exact ht e2
theorem two_new (W:World)(t:TypeId)(cs:Array Value)(u:TypeId)(ds:Array Value):Below W.heap.size W ((W.alloc (.cells cs t)).alloc (.cells ds u))/\Blk t W.heap.size cs ((W.alloc (.cells cs t)).alloc (.cells ds u))/\Blk u (W.heap.size+1) ds ((W.alloc (.cells cs t)).alloc (.cells ds u)):=by
 have h1:=Blk.new W t cs;have h2:=Blk.new (W.alloc (.cells cs t)) u ds;rw[World.size_alloc] at h2;have hb:=belAlloc (W.alloc (.cells cs t)) (.cells ds u);exact⟨(belAlloc W _).trans (hb.mono (by rw[World.size_alloc];omega)),Blk.stable _ _ _ _ _ hb h1,h2⟩
theorem sets_grown {t:TypeId}{g n:Nat}:∀(vs:List Value) (o:Nat) (U:World),(∃cs,Blk t g cs U/\cs.size=n)->U.grownBy (U.setCells g o vs) (some g)/\∃cs,Blk t g cs (U.setCells g o vs)/\cs.size=n:=fun vs=>by
 induction vs with
 |nil=>exact fun o U hU=>⟨⟨rfl,rfl,rfl,Nat.le_refl _,fun _ _ _=>rfl⟩,hU⟩
 |cons v vs ih=>
  intro o U ⟨cs,h3,h4⟩;obtain⟨h5,h6⟩:=ih (o+1) (U.setCell ⟨g,o,none⟩ v) ⟨_,h3.set_ o v,by rw[Array.size_setIfInBounds,h4]⟩;exact⟨(Kept.set (Kept.refl U g) (.inr rfl) o v).grown h5 (fun q e=>by cases e;exact .inr rfl),h6⟩
theorem there_of {t:TypeId}{g:Nat}{cs:Array Value}{W:World}(hB:Blk t g cs W){n:Nat}(hl:n<=cs.size):W.there g 0 n:=fun j hj=>by
 rw[Nat.zero_add];refine⟨?_,hB.frozen j⟩;rw[hB.cell,Array.getElem?_eq_getElem (by omega)];rfl
theorem sets_all {t:TypeId}{g:Nat}{cs:Array Value}{W:World}(hB:Blk t g cs W)(vs:List Value)(hl:cs.size=vs.length):W.grownBy (W.setCells g 0 vs) (some g)/\Blk t g vs.toArray (W.setCells g 0 vs):=by
 obtain⟨h1,ds,h2,h3⟩:=sets_grown (t:=t) (g:=g) (n:=cs.size) vs 0 W ⟨cs,hB,rfl⟩;have hr:=World.rangeAt_setCells_same W g 0 vs (there_of hB (by omega))
 have e:ds=vs.toArray:=by
  apply Array.ext_getElem?;intro i;have h7:=h2.cell i
  rcases Nat.lt_or_ge i vs.length with hi|hi
  ·
   have h8:=hr i _ (List.getElem?_eq_getElem hi);rw[Nat.zero_add] at h8;rw[<-h7,h8,List.getElem?_toArray,List.getElem?_eq_getElem hi]
  ·rw[Array.getElem?_eq_none (by omega),Array.getElem?_eq_none (by rw[List.size_toArray];omega)]
 subst e;exact⟨h1,h2⟩
section
variable {w w':World} {t:TypeId} {g:Nat} {cs:Array Value}
theorem Rd.grownB {A:Option Addr}{m:Nat}{f:Nat->Nat}(hr:Rd w.heap.size .u16 w A m f)(hB:Blk t g cs w)(hn:cs.toList.all noLimb=true)(hg:w.grownBy w' (some g)):Rd w'.heap.size .u16 w' A m f:=fun h0=>by
 obtain⟨b,o,e,hb,hc⟩:=hr h0;refine⟨b,o,e,Nat.lt_of_lt_of_le hb hg.size,fun i hi=> ?_⟩;have h1:=hc i hi;rw[cell_same (hg.block b hb fun e2=> ?_)]
 ·exact h1
 ·
  obtain rfl:b=g:=by simpa using e2
  rw[hB.cell] at h1
  have h2:=List.all_eq_true.1 hn _ (by
   have:=Array.mem_of_getElem? h1
   simpa using this)
  simp[noLimb] at h2
theorem WV.grownB {z:Int}{s:Bool}{A:Option Addr}{m:Nat}(hw:WV w z s A m)(hB:Blk t g cs w)(hn:cs.toList.all noLimb=true)(hg:w.grownBy w' (some g)):WV w' z s A m:=⟨hw.1,hw.2.1,Rd.grownB hw.2.2 hB hn hg⟩
theorem FV.grownB {q:Rat}{s u:Bool}{A C:Option Addr}{a b:Nat}(hf:FV w q s A a u C b)(hB:Blk t g cs w)(hn:cs.toList.all noLimb=true)(hg:w.grownBy w' (some g)):FV w' q s A a u C b:=⟨hf.1.grownB hB hn hg,hf.2.grownB hB hn hg⟩
theorem ColQ.grownB {h:Nat->Nat->Q8}{n:Nat}{J:Nat->Nat->Prop}{q:Nat->Nat->Rat}(hq:ColQ h n J q w)(hB:Blk t g cs w)(hn:cs.toList.all noLimb=true)(hg:w.grownBy w' (some g)):ColQ h n J q w':=fun k hk j hj hJ=>FV.grownB (hq k hk j hj hJ) hB hn hg
theorem Blk.grownB {u:TypeId}{k:Nat}{ds:Array Value}(h:Blk u k ds w)(hg:w.grownBy w' (some g))(hk:k≠g):Blk u k ds w':=(hg.block k h.lt (fun e=>hk (by simpa using e))).trans h
theorem ColP.grownB {G n cap:Nat}{P:Nat->Nat->Nat->Value}(h:ColP G n cap P w)(hB:Blk t g cs w)(ht:t≠ 98)(hg:w.grownBy w' (some g)):ColP G n cap P w':=by
 have hne:G≠g:=fun e=>(hB.ne_col h ht) e.symm
 obtain⟨h1,h2,ds,h3,h4⟩:=h;exact⟨h1,h2,ds,h3.grownB hg hne,h4⟩
theorem Below.grownB {B:Nat}{a:World}(h:Below B a w)(hg:w.grownBy w' (some g))(hB:B<=w.heap.size)(hgB:B<=g):Below B a w':=h.grown hg hB (fun k e=>by cases e;exact hgB)
end
end
section
open Go.RowKit

theorem vamt1_v (z:Int)(r:Bool)(w:World)(h:r= !decide (0<=z/\z<=1099511627776)):Calls Tryz.prog 127 #[.int .i64 z] w fun e w'=>e= .returned (.bool r)/\w'=w:=by
 subst h
 by_cases h1:z<0
 ·
  have t1:decide (z<0)=true:=decide_eq_true h1;rw[decide_eq_false (show¬(0<=z/\z<=1099511627776) by omega)]
  go_enter Tryz.func127,Tryz.ntmps127
  go_wp2_with fail
  go_ret
  exact⟨rfl,rfl⟩
 ·
  have t1:decide (z<0)=false:=decide_eq_false h1
  by_cases h2:1099511627776<z
  ·
   have t2:decide (1099511627776<z)=true:=decide_eq_true h2;rw[decide_eq_false (show¬(0<=z/\z<=1099511627776) by omega)]
   go_enter Tryz.func127,Tryz.ntmps127
   go_wp2_with fail
   go_ret
   exact⟨rfl,rfl⟩
  ·
   have t2:decide (1099511627776<z)=false:=decide_eq_false h2;rw[decide_eq_true (show(0<=z/\z<=1099511627776) by omega)]
   go_enter Tryz.func127,Tryz.ntmps127
   go_wp2_with fail
   go_ret
   exact⟨rfl,rfl⟩
theorem vindex_v {A:Option Addr}{n c:Nat}{l:Nat->Int}{w:World}(hl:RdI A n l w)(hn:n<=1000000):
  Calls Tryz.prog 159 #[.slice A n c,.func (.func 127) #[] #[]] w fun e w'=>∃r:Int,e= .returned (.int .i64 r)/\(r<0↔∀k,k<n->(0<=l k/\l k<=1099511627776))/\Below w.heap.size w w':=by
 have hE:=Env.start w;have Hl:=Lib.hid hl;clear hl
 go_enter Tryz.func159,Tryz.ntmps159
 go_wp2_with fail
 go_loopw [8] (fun p wr=>∃k:Nat,k<=n/\p= .int .i64 (k:Int)/\Hid (∀j,j<k->(0<=l j/\l j<=1099511627776))/\Env w (fun _=>True) wr) (fun p _=>n-(intOf p).toNat)
 case atStart=>exact⟨0,Nat.zero_le _,rfl,Lib.hid (fun j hj=>absurd hj (Nat.not_lt_zero j)),hE⟩
 case round=>
  clear hE;obtain⟨k,hk,rfl,Hg,hE⟩:=hrel
  by_cases hlt:k<n
  ·
   have t1:decide ((k:Int)<(n:Int))=true:=decide_eq_true (by omega)
   have t2:(k:Int)<(n:Int):=by omega
   obtain⟨b,o,rfl,ha⟩:=Hl.out k hlt;have c0:=(At.stable _ _ _ _ _ hE.bel ha).2;have Ha:=Lib.hid ha;clear ha
   by_cases hz:(0<=l k/\l k<=1099511627776)
   ·
    have Hz:=Lib.hid hz;clear hz;go_wp2_with fail
    refine(vamt1_v (l k) false _ (by rw[decide_eq_true Hz.out];rfl)).mono ?_;clear c0 t1
    rintro e _ ⟨rfl,rfl⟩
    go_wp2_with fail
    go_roundw
    case rel=>exact⟨k+1,by omega,by(try simp)<;>norm_cast,Lib.hid (fun j hj=>by
     by_cases e:j=k
     ·subst e;exact Hz.out
     ·exact Hg.out j (by omega)),hE⟩
    case measure=>simp[intOf];omega
   ·
    have Hz:=Lib.hid hz;clear hz;go_wp2_with fail
    refine(vamt1_v (l k) true _ (by rw[decide_eq_false Hz.out];rfl)).mono ?_;clear c0 t1
    rintro e _ ⟨rfl,rfl⟩
    go_wp2_with fail
    go_ret
    exact⟨(k:Int),rfl,⟨fun h=>by omega,fun h=>absurd (h k hlt) Hz.out⟩,hE.bel⟩
  ·
   have eN:n=k:=by omega
   subst eN;have t1:decide ((n:Int)<(n:Int))=false:=decide_eq_false (by omega)
   have t2:¬(n:Int)<(n:Int):=by omega
   go_wp2_with fail
   go_ret
   exact⟨-1,rfl,⟨fun _=>Hg.out,fun _=>by decide⟩,hE.bel⟩
theorem vcontains_v {A:Option Addr}{n c:Nat}{l:Nat->Int}{w:World}(hl:RdI A n l w)(hn:n<=1000000):
  Calls Tryz.prog 126 #[.slice A n c,.func (.func 127) #[] #[]] w fun e w'=>∃v,e= .returned (.bool v)/\(v=false↔∀k,k<n->(0<=l k/\l k<=1099511627776))/\Below w.heap.size w w':=by
 have Hl:=Lib.hid hl;clear hl
 go_enter Tryz.func126,Tryz.ntmps126
 go_wp2_with fail
 refine(vindex_v Hl.out hn).mono ?_
 rintro e w1 ⟨r,rfl,hr,hb⟩
 have Hr:=Lib.hid hr;have Hb:=Lib.hid hb;clear hr hb;go_wp2_with fail
 go_ret
 refine⟨_,rfl, ?_,Hb.out⟩;rw[<-Hr.out,decide_eq_false_iff_not];omega
theorem vamounts_v {A:Option Addr}{n c:Nat}{l:Nat->Int}{w:World}(hl:RdI A n l w)(hn:n<=1000000):
  Calls Tryz.prog 84 #[.slice A n c] w (BoolIff (Amts n l) w):=by
 have Hl:=Lib.hid hl;clear hl
 by_cases h1:n<=120
 ·
  have t1:decide ((n:Int)<=120)=true:=decide_eq_true (by omega)
  have t2:(n:Int)<=120:=by omega
  go_enter Tryz.func84,Tryz.ntmps84
  go_wp2_with fail
  refine(vcontains_v Hl.out hn).mono ?_
  rintro e w1 ⟨r,rfl,hr,hb⟩
  have Hr:=Lib.hid hr;have Hb:=Lib.hid hb;clear hr hb t1;go_wp2_with fail
  go_ret
  refine⟨!r,rfl, ?_,Hb.out⟩;unfold Amts;rw[<-Hr.out]
  cases r<;>simp[h1]
 ·
  have t1:decide ((n:Int)<=120)=false:=decide_eq_false (by omega)
  have t2:¬(n:Int)<=120:=by omega
  go_enter Tryz.func84,Tryz.ntmps84
  go_wp2_with fail
  go_ret
  exact⟨false,rfl,no_iff (fun h=>h1 h.1),Below.refl _ _⟩
theorem vvalid_any {b:Bh}{x:Ct}{w:World}(hb:b.rd w)(hbb:b.bd)(hx:x.rd w)(hxb:x.bd):
  Calls Tryz.prog 32 #[.agg b.C,.agg x.C] w (BoolIff (x.ok b) w):=by
 have Hhb:=Lib.hid hb;clear hb;have Hhbb:=Lib.hid hbb;clear hbb;have Hhx:=Lib.hid hx;clear hx;have Hhxb:=Lib.hid hxb;clear hxb;have hE:=((Env.start w).blk 31 b.C (g:=w.heap.size) rfl).blk 36 x.C (g:=w.heap.size+1) (by simp)
 obtain⟨W0,hW0⟩:∃W0,W0=((w.alloc (.cells b.C 31)).alloc (.cells x.C 36)):=⟨_,rfl⟩
 rw[<-hW0] at hE;have HW0:=Lib.hid hW0;clear hW0
 go_enter Tryz.func32,Tryz.ntmps32
 go_upto_region 1 with(fail)
 rw[<-HW0.out];obtain⟨k1,k2,k3,k4,k5,k6,k7⟩:=(hE.here.1.2).c7;go_wp2_with fail
 refine(cvalid_any b.F b.S b.A b.n b.c b.r b.i.s b.i.t b.i.A b.i.B b.i.n b.i.m b.i.c b.i.d b.i.f b.i.g _ (Hhb.out.1.below hE.bel) Hhbb.out.1 (FRd.below Hhb.out.2 hE.bel) Hhbb.out.2.1 Hhbb.out.2.2).mono ?_;clear k1 k2 k3 k4 k5 k6 k7
 rintro e w8 ⟨r,rfl,hr,hb⟩
 replace hE:=hE.step hb;clear hb
 cases r with
 |false=>
  have HN:=Lib.hid (show¬x.ok b from fun h=>Bool.false_ne_true (hr.2 (h.1)));clear hr;go_wp2_with fail
  go_ret
  exact⟨false,rfl,no_iff HN.out,hE.bel⟩
 |true=>
  have HP8:=Lib.hid (hr.1 rfl);clear hr;have k9:=(hE.here.1.2).cell 0;have k10:=(hE.here.1.2).cell 1;have k11:=(hE.here.1.2).cell 2;have k12:=(hE.here.2).cell 0;have k13:=(hE.here.2).cell 1;go_wp2_with fail
  refine(lright_any b.F b.S x.E x.Y b.A b.n b.c b.r _ (Hhb.out.1.below hE.bel) Hhbb.out.1).mono ?_;clear k9 k10 k11 k12 k13
  rintro e w14 ⟨r,rfl,hr,hb⟩
  replace hE:=hE.step hb;clear hb
  cases r with
  |false=>
   have HN:=Lib.hid (show¬x.ok b from fun h=>Bool.false_ne_true (hr.2 (h.2.1)));clear hr;go_wp2_with fail
   go_ret
   exact⟨false,rfl,no_iff HN.out,hE.bel⟩
  |true=>
   have HP14:=Lib.hid (hr.1 rfl);clear hr
   by_cases hp15:0<=x.T
   rotate_left 1
   ·
    have t1:decide (x.T<0)=true:=decide_eq_true (by omega)
    have t2:x.T<0:=by omega
    have HN:=Lib.hid (show¬x.ok b from fun h=>hp15 (h.2.2.1.1));have k16:=(hE.here.2).cell 2;go_wp2_with fail
    go_ret
    exact⟨false,rfl,no_iff HN.out,hE.bel⟩
   have t1:decide (x.T<0)=false:=decide_eq_false (by omega)
   have t2:¬x.T<0:=by omega
   by_cases hp17:x.T<=120
   rotate_left 1
   ·
    have t3:decide (120<x.T)=true:=decide_eq_true (by omega)
    have t4:120<x.T:=by omega
    have HN:=Lib.hid (show¬x.ok b from fun h=>hp17 (h.2.2.1.2));have k18:=(hE.here.2).cell 2;go_wp2_with fail
    go_ret
    exact⟨false,rfl,no_iff HN.out,hE.bel⟩
   have t3:decide (120<x.T)=false:=decide_eq_false (by omega)
   have t4:¬120<x.T:=by omega
   have k19:=(hE.here.2).cell 2;have k20:=(hE.here.2).cell 3;have k21:=(hE.here.2).cell 4;have k22:=(hE.here.2).cell 5;have k23:=(hE.here.2).cell 6
   go_upto_region 4 with(fail)
   clear k19 k20 k21 k22 k23;clear t1 t2 t3 t4
   obtain⟨g24,hg24⟩:∃g24,g24=w14.heap.size:=⟨_,rfl⟩
   have hl24_0:w.heap.size<g24:=by rw[hg24];exact(hE.here.1.2).lt
   have hl24_1:w.heap.size+1<g24:=by rw[hg24];exact(hE.here.2).lt
   replace hE:=hE.blk 29 (qf4 x.p.s x.p.A x.p.n x.p.c x.p.t x.p.B x.p.m x.p.d) (g:=g24) hg24.symm;generalize w14.alloc (.cells (qf4 x.p.s x.p.A x.p.n x.p.c x.p.t x.p.B x.p.m x.p.d) 29)=W24 at hE⊢;rw[<-hg24];clear hg24;obtain⟨k25,k26,k27,k28⟩:=(hE.here.2).c4;go_wp2_with fail
   cases hv:okF x.p.s x.p.n x.p.f x.p.t x.p.m x.p.g with
   |false=>
    have HN:=Lib.hid (show¬x.ok b from fun h=>Bool.false_ne_true (hv.symm.trans h.2.2.2.1.1));refine(fvalid_r x.p.s x.p.t x.p.A x.p.B x.p.n x.p.m x.p.c x.p.d x.p.f x.p.g _ (FRd.below Hhx.out.1 hE.bel) Hhxb.out.2.1.1 Hhxb.out.2.1.2 false hv).mono ?_;clear k25 k26 k27 k28
    rintro e w29 ⟨rfl,hb⟩
    replace hE:=hE.step hb;clear hb hv;go_wp2_with fail
    go_ret
    exact⟨false,rfl,no_iff HN.out,hE.bel⟩
   |true=>
    refine(fvalid_r x.p.s x.p.t x.p.A x.p.B x.p.n x.p.m x.p.c x.p.d x.p.f x.p.g _ (FRd.below Hhx.out.1 hE.bel) Hhxb.out.2.1.1 Hhxb.out.2.1.2 true hv).mono ?_;clear k25 k26 k27 k28
    rintro e w29 ⟨rfl,hb⟩
    replace hE:=hE.step hb;have HV:=Lib.hid hv;clear hb hv
    by_cases hs:x.p.s=true
    ·
     have HN:=Lib.hid (show¬x.ok b from fun h=>Bool.false_ne_true (h.2.2.2.1.2.1.symm.trans hs));have k31:=(hE.here.2).cell 0;go_wp2_with fail
     go_ret
     exact⟨false,rfl,no_iff HN.out,hE.bel⟩
    replace hs:x.p.s=false:=by simpa using hs
    by_cases hp32:x.p.n<=4
    rotate_left 1
    ·
     have t1:decide (4<(x.p.n:Int))=true:=decide_eq_true (by omega)
     have t2:4<(x.p.n:Int):=by omega
     have HN:=Lib.hid (show¬x.ok b from fun h=>hp32 (h.2.2.2.1.2.2.1));have k33:=(hE.here.2).cell 0;have k34:=(hE.here.2).cell 1;go_wp2_with fail
     go_ret
     exact⟨false,rfl,no_iff HN.out,hE.bel⟩
    have t1:decide (4<(x.p.n:Int))=false:=decide_eq_false (by omega)
    have t2:¬4<(x.p.n:Int):=by omega
    by_cases hp35:x.p.m<=4
    rotate_left 1
    ·
     have t3:decide (4<(x.p.m:Int))=true:=decide_eq_true (by omega)
     have t4:4<(x.p.m:Int):=by omega
     have HN:=Lib.hid (show¬x.ok b from fun h=>hp35 (h.2.2.2.1.2.2.2));have k36:=(hE.here.2).cell 0;have k37:=(hE.here.2).cell 1;have k38:=(hE.here.2).cell 3;go_wp2_with fail
     go_ret
     exact⟨false,rfl,no_iff HN.out,hE.bel⟩
    have t3:decide (4<(x.p.m:Int))=false:=decide_eq_false (by omega)
    have t4:¬4<(x.p.m:Int):=by omega
    have k39:=(hE.here.2).cell 0;have k40:=(hE.here.2).cell 1;have k41:=(hE.here.2).cell 3;have k42:=(hE.here.1.2).cell 7;have k43:=(hE.here.1.2).cell 8;go_wp2_with fail
    have HS:=Lib.hid hs;refine(vamounts_v (RdI.below Hhx.out.2.1 hE.bel) Hhxb.out.2.2.1).mono ?_;clear k39 k40 k41 k42 k43
    rintro e w44 ⟨r,rfl,hr,hb⟩
    replace hE:=hE.step hb;clear hb
    cases r with
    |false=>
     have HN:=Lib.hid (show¬x.ok b from fun h=>Bool.false_ne_true (hr.2 (h.2.2.2.2.1)));clear hr;go_wp2_with fail
     go_ret
     exact⟨false,rfl,no_iff HN.out,hE.bel⟩
    |true=>
     have HP44:=Lib.hid (hr.1 rfl);clear hr;have k45:=(hE.here.1.2).cell 8;go_wp2_with fail
     refine(vamounts_v (RdI.below Hhx.out.2.2 hE.bel) Hhxb.out.2.2.2).mono ?_;clear k45
     rintro e w99 ⟨r,rfl,hr,hb⟩
     replace hE:=hE.step hb;have HR:=Lib.hid hr;clear hb hr;go_wp2_with fail
     go_ret
     exact⟨r,rfl,⟨fun h=>⟨HP8.out,HP14.out,⟨hp15,hp17⟩,⟨HV.out,HS.out,hp32,hp35⟩,HP44.out,HR.out.1 h⟩,fun h=>HR.out.2 h.2.2.2.2.2⟩,hE.bel⟩
theorem vvalid_t {b:Bh}{x:Ct}{w:World}(hb:b.rd w)(hbb:b.bd)(hx:x.rd w)(hxb:x.bd)(h:x.ok b):
  Calls Tryz.prog 32 #[.agg b.C,.agg x.C] w fun e w'=>e= .returned (.bool true)/\Below w.heap.size w w':=
 (vvalid_any hb hbb hx hxb).mono fun _ _ ⟨v,he,hv,hw⟩=>by obtain rfl:v=true:=hv.2 h;exact⟨he,hw⟩
end
section
open Go.RowKit

theorem vlisted1_v {A:Option Addr}{n c:Nat}{l:Nat->Int}{g:Nat}{w:World}(hg:At g 0 (.slice A n c) w)(hl:RdI A n l w)(hb:∀k,k<n->-9223372036854775808<=l k/\l k<=9223372036854775807)(k:Nat)(_:k<=9223372036854775807):
  Calls Tryz.prog 104 #[.int .i64 (k:Int),.pointer (some ⟨g,0,none⟩)] w (FR (amt l n k) w):=by
 by_cases hkn:k<n
 ·
  rw[show amt l n k=((l k:Int):Rat) from if_pos hkn];obtain⟨b,o,rfl,ha⟩:=hl k hkn;obtain⟨z1,z2⟩:=hb k hkn;have t1:decide ((k:Int)<(n:Int))=true:=decide_eq_true (by omega)
  have t2:(k:Int)<(n:Int):=by omega
  obtain⟨x,hx⟩:∃x,x=l k:=⟨_,rfl⟩
  rw[<-hx] at ha z1 z2⊢;have Hhl:=Lib.hid hl;clear hl;have Hhb:=Lib.hid hb;clear hb;have Hhg:=Lib.hid hg;clear hg;have Hha:=Lib.hid ha;clear ha;have Hhx:=Lib.hid hx;clear hx;have hE:=Env.start w;have hE:=hE.blk 29 qz4 (g:=w.heap.size) rfl
  obtain⟨W0,hW0⟩:∃W0,W0=(w.alloc (.cells qz4 29)):=⟨_,rfl⟩
  rw[<-hW0] at hE;have HW0:=Lib.hid hW0;clear hW0
  go_enter Tryz.func104,Tryz.ntmps104
  go_upto_region 1 with(fail)
  rw[<-HW0.out];have k1:=(At.stable _ _ _ _ _ hE.bel Hhg.out).2;have k2:=(At.stable _ _ _ _ _ hE.bel Hha.out).2;go_wp2_with fail
  refine hE.fr (ffromInt_v x _ z1 z2) ?_;clear hE k1 k2;intro sz Az nz cz tz Bz mz dz w3 hE
  have hRl:w.heap.size<=w.heap.size:=by omega
  obtain⟨WW,hWW,hB,hV,hBel⟩:=ret_frac hE hE.here.1.2 hRl hE.here.2 cz dz;obtain⟨x0,x1,x2,x3⟩:=(hE.here.1.2).c4;obtain⟨fz0,fz1,fz2,fz3⟩:=hE.here.1.2.f4;have HWW:=Lib.hid hWW;clear hWW;go_wp2_with fail
  clear x0 x1 x2 x3;rw[<-HWW.out];obtain⟨y0,y1,y2,y3⟩:=hB.c4;refine bodyPost_ret (v:= .agg (qf4 sz Az nz cz tz Bz mz dz)) (by simp[results,Tryz.results104,go_sem,y0,y1,y2,y3]) rfl ?_;exact⟨sz,Az,nz,cz,tz,Bz,mz,dz,rfl,hV,hBel⟩
 ·
  rw[show amt l n k=((0:Int):Rat) from if_neg hkn];have t1:decide ((k:Int)<(n:Int))=false:=decide_eq_false (by omega)
  have t2:¬(k:Int)<(n:Int):=by omega
  have Hhl:=Lib.hid hl;clear hl;have Hhb:=Lib.hid hb;clear hb;have Hhg:=Lib.hid hg;clear hg;have hE:=Env.start w;have hE:=hE.blk 29 qz4 (g:=w.heap.size) rfl
  obtain⟨W0,hW0⟩:∃W0,W0=(w.alloc (.cells qz4 29)):=⟨_,rfl⟩
  rw[<-hW0] at hE;have HW0:=Lib.hid hW0;clear hW0
  go_enter Tryz.func104,Tryz.ntmps104
  go_upto_region 1 with(fail)
  rw[<-HW0.out];have k1:=(At.stable _ _ _ _ _ hE.bel Hhg.out).2;go_wp2_with fail
  refine hE.fr (ffromInt_v 0 _ (by decide) (by decide)) ?_;clear hE k1;intro sz Az nz cz tz Bz mz dz w2 hE
  have hRl:w.heap.size<=w.heap.size:=by omega
  obtain⟨WW,hWW,hB,hV,hBel⟩:=ret_frac hE hE.here.1.2 hRl hE.here.2 cz dz;obtain⟨x0,x1,x2,x3⟩:=(hE.here.1.2).c4;obtain⟨fz0,fz1,fz2,fz3⟩:=hE.here.1.2.f4;have HWW:=Lib.hid hWW;clear hWW;go_wp2_with fail
  clear x0 x1 x2 x3;rw[<-HWW.out];obtain⟨y0,y1,y2,y3⟩:=hB.c4;refine bodyPost_ret (v:= .agg (qf4 sz Az nz cz tz Bz mz dz)) (by simp[results,Tryz.results104,go_sem,y0,y1,y2,y3]) rfl ?_;exact⟨sz,Az,nz,cz,tz,Bz,mz,dz,rfl,hV,hBel⟩
theorem vlisted_v (A:Option Addr)(n c:Nat)(w:World):Calls Tryz.prog 54 #[.slice A n c] w fun e w'=>e= .returned (.func (.func 104) #[] #[.pointer (some ⟨w.heap.size,0,none⟩)])/\w'=w.alloc (.cells #[.slice A n c] 34):=by
 go_enter Tryz.func54,Tryz.ntmps54
 go_wp2_with fail
 go_ret
 exact⟨rfl,rfl⟩
theorem pay_listed {A:Option Addr}{n c:Nat}{l:Nat->Int}{g:Nat}{w:World}(hB:Blk 34 g #[.slice A n c] w)(hl:RdI A n l w)(hb:∀k,k<n->-9223372036854775808<=l k/\l k<=9223372036854775807)(N:Nat)(hN:N<=9223372036854775807):
  PayC (.func (.func 104) #[] #[.pointer (some ⟨g,0,none⟩)]) (amt l n) N w:=
 ⟨_,_,rfl,enters_of Tryz.func104 (by kernel_rfl) rfl,fun W hW k hk=>vlisted1_v (At.stable _ _ _ _ _ hW ⟨hB.lt,hB.c1⟩) (hl.below hW) hb k (by omega)⟩
theorem vprem1_v {q:Rat}{sq tq:Bool}{Aq Bq:Option Addr}{nq cq mq dq:Nat}{T:Nat}{gv ga:Nat}{w:World}(hg:At gv 2 (.int .i64 (T:Int)) w)(hq:FV w q sq Aq nq tq Bq mq)(hB:Blk 29 ga (qf4 sq Aq nq cq tq Bq mq dq) w)(k:Nat):
  Calls Tryz.prog 112 #[.int .i64 (k:Int),.pointer (some ⟨gv,0,none⟩),.pointer (some ⟨ga,0,none⟩)] w (FR (pay T q k) w):=by
 by_cases hkT:k<T
 ·
  rw[show pay T q k=q from if_pos hkT];have t1:decide ((k:Int)<(T:Int))=true:=decide_eq_true (by omega)
  have t2:(k:Int)<(T:Int):=by omega
  have hx0:=At.of_blk hB 0 rfl;have hx1:=At.of_blk hB 1 rfl;have hx2:=At.of_blk hB 2 rfl;have hx3:=At.of_blk hB 3 rfl;have Hhg:=Lib.hid hg;clear hg;have Hhx0:=Lib.hid hx0;clear hx0;have Hhx1:=Lib.hid hx1;clear hx1;have Hhx2:=Lib.hid hx2;clear hx2;have Hhx3:=Lib.hid hx3;clear hx3;have hE:=(Env.start w).fv hq;have hE:=hE.blk 29 qz4 (g:=w.heap.size) rfl
  obtain⟨W0,hW0⟩:∃W0,W0=(w.alloc (.cells qz4 29)):=⟨_,rfl⟩
  rw[<-hW0] at hE;have HW0:=Lib.hid hW0;clear hW0
  go_enter Tryz.func112,Tryz.ntmps112
  go_upto_region 1 with(fail)
  rw[<-HW0.out];have k1:=(At.stable _ _ _ _ _ hE.bel Hhg.out).2;have k2:=(At.stable _ _ _ _ _ hE.bel Hhx0.out).2;have k3:=(At.stable _ _ _ _ _ hE.bel Hhx1.out).2;have k4:=(At.stable _ _ _ _ _ hE.bel Hhx2.out).2;have k5:=(At.stable _ _ _ _ _ hE.bel Hhx3.out).2
  have hRl:w.heap.size<=w.heap.size:=by omega
  obtain⟨WW,hWW,hB,hV,hBel⟩:=ret_frac hE hE.here.2 hRl hE.here.1.2 cq dq;obtain⟨x0,x1,x2,x3⟩:=(hE.here.2).c4;obtain⟨fz0,fz1,fz2,fz3⟩:=hE.here.2.f4;have HWW:=Lib.hid hWW;clear hWW;go_wp2_with fail
  clear x0 x1 x2 x3;rw[<-HWW.out];obtain⟨y0,y1,y2,y3⟩:=hB.c4;refine bodyPost_ret (v:= .agg (qf4 sq Aq nq cq tq Bq mq dq)) (by simp[results,Tryz.results112,go_sem,y0,y1,y2,y3]) rfl ?_;exact⟨sq,Aq,nq,cq,tq,Bq,mq,dq,rfl,hV,hBel⟩
 ·
  rw[show pay T q k=((0:Int):Rat) from if_neg hkT];have t1:decide ((k:Int)<(T:Int))=false:=decide_eq_false (by omega)
  have t2:¬(k:Int)<(T:Int):=by omega
  have hx0:=At.of_blk hB 0 rfl;have hx1:=At.of_blk hB 1 rfl;have hx2:=At.of_blk hB 2 rfl;have hx3:=At.of_blk hB 3 rfl;have Hhg:=Lib.hid hg;clear hg;have Hhx0:=Lib.hid hx0;clear hx0;have Hhx1:=Lib.hid hx1;clear hx1;have Hhx2:=Lib.hid hx2;clear hx2;have Hhx3:=Lib.hid hx3;clear hx3;have hE:=(Env.start w).fv hq;have hE:=hE.blk 29 qz4 (g:=w.heap.size) rfl
  obtain⟨W0,hW0⟩:∃W0,W0=(w.alloc (.cells qz4 29)):=⟨_,rfl⟩
  rw[<-hW0] at hE;have HW0:=Lib.hid hW0;clear hW0
  go_enter Tryz.func112,Tryz.ntmps112
  go_upto_region 1 with(fail)
  rw[<-HW0.out];have k1:=(At.stable _ _ _ _ _ hE.bel Hhg.out).2;go_wp2_with fail
  refine hE.fr (ffromInt_v 0 _ (by decide) (by decide)) ?_;clear hE k1;intro sz Az nz cz tz Bz mz dz w2 hE
  have hRl:w.heap.size<=w.heap.size:=by omega
  obtain⟨WW,hWW,hB,hV,hBel⟩:=ret_frac hE hE.here.1.2 hRl hE.here.2 cz dz;obtain⟨x0,x1,x2,x3⟩:=(hE.here.1.2).c4;obtain⟨fz0,fz1,fz2,fz3⟩:=hE.here.1.2.f4;have HWW:=Lib.hid hWW;clear hWW;go_wp2_with fail
  clear x0 x1 x2 x3;rw[<-HWW.out];obtain⟨y0,y1,y2,y3⟩:=hB.c4;refine bodyPost_ret (v:= .agg (qf4 sz Az nz cz tz Bz mz dz)) (by simp[results,Tryz.results112,go_sem,y0,y1,y2,y3]) rfl ?_;exact⟨sz,Az,nz,cz,tz,Bz,mz,dz,rfl,hV,hBel⟩
theorem vprem_v (x:Ct)(G N cap:Nat)(sq:Bool)(Aq:Option Addr)(nq cq:Nat)(tq:Bool)(Bq:Option Addr)(mq dq:Nat)(w:World):Calls Tryz.prog 70 #[.agg (x.Q G N cap),.agg (qf4 sq Aq nq cq tq Bq mq dq)] w fun e w'=>e= .returned (.func (.func 112) #[] #[.pointer (some ⟨w.heap.size,0,none⟩),.pointer (some ⟨w.heap.size+1,0,none⟩)])/\w'=(w.alloc (.cells (x.Q G N cap) 80)).alloc (.cells (qf4 sq Aq nq cq tq Bq mq dq) 29):=by
 go_enter Tryz.func70,Tryz.ntmps70
 go_wp2_with fail
 go_ret
 exact⟨by simp,rfl⟩
theorem pay_prem {x:Ct}{G N cap:Nat}{q:Rat}{sq tq:Bool}{Aq Bq:Option Addr}{nq cq mq dq:Nat}{gv ga:Nat}{w:World}(hV:Blk 80 gv (x.Q G N cap) w)(hT:0<=x.T)(hq:FV w q sq Aq nq tq Bq mq)(hB:Blk 29 ga (qf4 sq Aq nq cq tq Bq mq dq) w)(M:Nat):
  PayC (.func (.func 112) #[] #[.pointer (some ⟨gv,0,none⟩),.pointer (some ⟨ga,0,none⟩)]) (pay x.T.toNat q) M w:=
 ⟨_,_,rfl,enters_of Tryz.func112 (by kernel_rfl) rfl,fun W hW k hk=>vprem1_v (At.stable _ _ _ _ _ hW (At.of_blk hV 2 (by rw[Int.toNat_of_nonneg hT];rfl))) (hq.below hW) (Blk.stable _ _ _ _ _ hW hB) k⟩
def PayR (L:Nat->Rat)(N:Nat)(w:World)(e:Ending)(w':World):Prop:=∃p,e= .returned p/\PayC p L N w'/\Below w.heap.size w w'
theorem vnet1_v {L1 L2:Nat->Rat}{p1 p2:Value}{N G3 G4:Nat}{w:World}(h3:At G3 0 p1 w)(h4:At G4 0 p2 w)(hp1:PayC p1 L1 N w)(hp2:PayC p2 L2 N w)(k:Nat)(hk:k<=N)(l1:fl (L1 k)<=256)(l2:fl (L2 k)<=256)(l3:fl (L1 k-L2 k)<=256):
  Calls Tryz.prog 103 #[.int .i64 (k:Int),.pointer (some ⟨G3,0,none⟩),.pointer (some ⟨G4,0,none⟩)] w (FR (L1 k-L2 k) w):=by
 obtain⟨g1,c1,rfl,eg1,hc1⟩:=hp1;obtain⟨g2,c2,rfl,eg2,hc2⟩:=hp2;have l3a:=h3.1;have l4a:=h4.1;have Hhc1:=Lib.hid hc1;clear hc1;have Hhc2:=Lib.hid hc2;clear hc2;have hE:=((Env.start w).at_ h3.1 h3.2).at_ h4.1 h4.2;have hE:=hE.blk 29 qz4 (g:=w.heap.size) rfl
 obtain⟨W0,hW0⟩:∃W0,W0=(w.alloc (.cells qz4 29)):=⟨_,rfl⟩
 rw[<-hW0] at hE;have HW0:=Lib.hid hW0;clear hW0
 go_enter Tryz.func103,Tryz.ntmps103
 go_upto_region 1 with(fail)
 rw[<-HW0.out];replace hE:=hE.drew;refine wp_region_held_drew (S:=fun w'=>w'.cell? ⟨G3,0,none⟩=some (.func (.func g1) #[] c1)/\w'.cell? ⟨G4,0,none⟩=some (.func (.func g2) #[] c2)) (by kernel_rfl) (⟨(hE.h2).2,(hE.here.1.2).2⟩) (fun hHeld=> ?_);refine tk 0 ?_;refine tk 1 ?_;refine tk 3 ?_;refine tk 4 ?_;refine r1 2 (fun K hK=> ?_);go_simp;refine hE.fr (Hhc1.out _ hE.bel k hk) ?_;clear hE;intro sa Aa na ca ta Ba ma da w1 hE;go_wp2_with fail
 refine hK.out _ _ (⟨(hE.h3).2,(hE.h2).2⟩) (fun hHeld=> ?_);clear hK K;try simp only[PL]
 refine r1 5 (fun K hK=> ?_);go_simp;refine hE.fr (Hhc2.out _ hE.bel k hk) ?_;clear hE;intro sb Ab nb cb tb Bb mb db w2 hE;go_wp2_with fail
 refine hK.out _ _ (⟨(hE.h4).2,(hE.h3).2⟩) (fun hHeld=> ?_);clear hK K;try simp only[PL]
 refine r1 6 (fun K hK=> ?_);go_simp;refine hE.fr (vminus_v (ca:=ca) (da:=da) (cb:=cb) (db:=db) hE.here.1.2 hE.here.2 l1 l2 l3) ?_;clear hE;intro sr Ar nr cr tr Br mr dr w3 hE;go_wp2_with fail
 refine hK.out _ _ (⟨(hE.h5).2,(hE.h4).2⟩) (fun hHeld=> ?_);clear hK K;try simp only[PL]
 refine r1 7 (fun K hK=> ?_)
 have hRl:w.heap.size<=w.heap.size:=by omega
 obtain⟨WW,hWW,hB,hV,hBel⟩:=ret_frac hE hE.h3 hRl hE.here.2 cr dr;obtain⟨x0,x1,x2,x3⟩:=(hE.h3).c4;obtain⟨fz0,fz1,fz2,fz3⟩:=hE.h3.f4;have HWW:=Lib.hid hWW;clear hWW;have q4:=(hE.h5).far4 (R:=w.heap.size) (by omega) (.bool sr) (.slice Ar nr cr) (.bool tr) (.slice Br mr dr);rw[<-HWW.out] at q4;have q5:=(hE.h4).far4 (R:=w.heap.size) (by omega) (.bool sr) (.slice Ar nr cr) (.bool tr) (.slice Br mr dr);rw[<-HWW.out] at q5;go_simp;rw[<-HWW.out];refine hK.out _ _ (⟨(q4).2,(q5).2⟩) (fun hHeld=> ?_);clear hK K;try simp only[PL]
 refine wpAnyH_done (by kernel_rfl) ?_ _;go_wp2_with fail
 obtain⟨y0,y1,y2,y3⟩:=hB.c4;refine bodyPost_ret (v:= .agg (qf4 sr Ar nr cr tr Br mr dr)) (by simp[results,Tryz.results103,go_sem,y0,y1,y2,y3]) rfl ?_;exact⟨sr,Ar,nr,cr,tr,Br,mr,dr,rfl,hV,hBel⟩
end
end Go.Proofs.YtclbiihcbfnjmaaGreat
