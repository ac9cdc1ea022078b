/-
  Parts.
-/
import Derived.Test.YtclbiihcbfnjmaaGreatE6A
set_option linter.unusedSimpArgs false
set_option maxRecDepth 100000
set_option maxHeartbeats 8000000
namespace Go.Proofs.YtclbiihcbfnjmaaGreat
open Go.RowKit

def ND (y:Yh)(N:Int)(G:Nat):Prop:=Tl y.b.n y.b.r N y.b.i.n y.b.i.m/\Tl y.d.n y.d.r N y.d.i.n y.d.i.m/\y.n<=G/\(y.j.n<=2/\y.j.m<=2)/\∀k,k<y.n->GM y.b (y.r k).x N
def GN (P:Prop)(w:World)(e:Ending)(w':World):Prop:=∃v,e= .returned (.bool v)/\(v=false↔P)/\Below w.heap.size w w'
theorem mW {P:Prop}(h:¬P):(true=false↔P):=⟨fun e=>(by cases e),fun p=>absurd p h⟩
theorem ND.bd {y:Yh}{N:Int}{G:Nat}(h:ND y N G)(hN:N<=100)(hi:y.i):y.bd:=by
 obtain⟨⟨a1,a2,a3⟩,⟨b1,b2,b3⟩,-,⟨h4,h5⟩,h6⟩:=h;exact⟨⟨a1.b (by omega) (by decide) (by decide),by omega,by omega⟩,⟨b1.b (by omega) (by decide) (by decide),by omega,by omega⟩,⟨by omega,by omega⟩,fun k hk=>((h6 k hk).bd hN (hi k hk).2.2.2).2⟩
theorem aar {b o k:Nat}{g:Gr}{V:World}(eP:b<V.heap.size)(gV:V.rangeAt b (o+k*12) g.C):b<V.heap.size/\∀i,i<9->V.cell? ⟨b,o+k*12+i,none⟩=g.C[i]?:=⟨eP,fun i hi=>by
 have hi2:i<g.C.length:=by show i<12;omega
 have e:g.C[i]?=some (g.C[i]'hi2):=List.getElem?_eq_getElem hi2;rw[e]
 exact gV i _ e⟩
theorem Cn {yb yd:Bh}{yj:FH}{yA:Option Addr}{yn yc:Nat}{yr:Nat->Gr}{N:Int}{G:Nat}{w:World}(hY:(Yh.mk yb yd yj yA yn yc yr).rd w)(h1:0<=N)(h2:N<=1000000)(_:yn<=9223372036854775807):
  Calls Tryz.prog 95 #[.agg #[.int .i64 yb.F,.int .i64 yb.S,.slice yb.A yb.n yb.c,.bool yb.i.s,.slice yb.i.A yb.i.n yb.i.c,.bool yb.i.t,.slice yb.i.B yb.i.m yb.i.d,.int .i64 yd.F,.int .i64 yd.S,.slice yd.A yd.n yd.c,.bool yd.i.s,.slice yd.i.A yd.i.n yd.i.c,.bool yd.i.t,.slice yd.i.B yd.i.m yd.i.d,.bool yj.s,.slice yj.A yj.n yj.c,.bool yj.t,.slice yj.B yj.m yj.d,.slice yA yn yc],.int .i64 N,.int .i64 (G:Int)] w (GN (ND (Yh.mk yb yd yj yA yn yc yr) N G) w):=by
 have eU:=Lib.hid hY;clear hY;have hE:=(Env.start w).blk 67 #[.int .i64 yb.F,.int .i64 yb.S,.slice yb.A yb.n yb.c,.bool yb.i.s,.slice yb.i.A yb.i.n yb.i.c,.bool yb.i.t,.slice yb.i.B yb.i.m yb.i.d,.int .i64 yd.F,.int .i64 yd.S,.slice yd.A yd.n yd.c,.bool yd.i.s,.slice yd.i.A yd.i.n yd.i.c,.bool yd.i.t,.slice yd.i.B yd.i.m yd.i.d,.bool yj.s,.slice yj.A yj.n yj.c,.bool yj.t,.slice yj.B yj.m yj.d,.slice yA yn yc] (g:=w.heap.size) rfl
 obtain⟨W0,aC⟩:∃W0,W0=(w.alloc (.cells #[.int .i64 yb.F,.int .i64 yb.S,.slice yb.A yb.n yb.c,.bool yb.i.s,.slice yb.i.A yb.i.n yb.i.c,.bool yb.i.t,.slice yb.i.B yb.i.m yb.i.d,.int .i64 yd.F,.int .i64 yd.S,.slice yd.A yd.n yd.c,.bool yd.i.s,.slice yd.i.A yd.i.n yd.i.c,.bool yd.i.t,.slice yd.i.B yd.i.m yd.i.d,.bool yj.s,.slice yj.A yj.n yj.c,.bool yj.t,.slice yj.B yj.m yj.d,.slice yA yn yc] 67)):=⟨_,rfl⟩
 rw[<-aC] at hE;have aU:=Lib.hid aC;clear aC
 go_enter Tryz.func95,Tryz.ntmps95
 go_upto_region 1 with(fail)
 rw[<-aU.out];have k1:=(hE.here.2).cell 0;have k2:=(hE.here.2).cell 1;have k3:=(hE.here.2).cell 2;have k4:=(hE.here.2).cell 3;have k5:=(hE.here.2).cell 4;have k6:=(hE.here.2).cell 5;have k7:=(hE.here.2).cell 6;go_wp2_with fail
 refine(eJ yb.F yb.S N yb.A yb.n yb.c yb.r yb.i.s yb.i.t yb.i.A yb.i.B yb.i.n yb.i.m yb.i.c yb.i.d _ (Yh.aA eU.out hE.av).1.1 h1 h2).mono ?_;clear k1 k2 k3 k4 k5 k6 k7
 rintro e w8 ⟨v,rfl,hv,hb⟩
 replace hE:=hE.step hb;clear hb
 cases v with
 |true=>
  have HN:=Lib.hid (show¬ND (Yh.mk yb yd yj yA yn yc yr) N G from fun h=>by have:=hv.2 (h.1);cases this);clear hv;go_wp2_with fail
  go_ret
  exact⟨true,rfl,mW HN.out,hE.av⟩
 |false=>
  have HP8:=Lib.hid (hv.1 rfl);clear hv;have k9:=(hE.here.2).cell 7;have eG:=(hE.here.2).cell 8;have cS:=(hE.here.2).cell 9;have cZ:=(hE.here.2).cell 10;have dG:=(hE.here.2).cell 11;have dN:=(hE.here.2).cell 12;have fP:=(hE.here.2).cell 13;go_wp2_with fail
  refine(eJ yd.F yd.S N yd.A yd.n yd.c yd.r yd.i.s yd.i.t yd.i.A yd.i.B yd.i.n yd.i.m yd.i.c yd.i.d _ (Yh.aA eU.out hE.av).2.1.1 h1 h2).mono ?_;clear k9 eG cS cZ dG dN fP
  rintro e EC ⟨v,rfl,hv,hb⟩
  replace hE:=hE.step hb;clear hb
  cases v with
  |true=>
   have HN:=Lib.hid (show¬ND (Yh.mk yb yd yj yA yn yc yr) N G from fun h=>by have:=hv.2 (h.2.1);cases this);clear hv;go_wp2_with fail
   go_ret
   exact⟨true,rfl,mW HN.out,hE.av⟩
  |false=>
   have al6:=Lib.hid (hv.1 rfl);clear hv
   by_cases NF:yn<=G
   rotate_left 1
   ·
    have t1:decide ((G:Int)<(yn:Int))=true:=decide_eq_true (by omega)
    have t2:(G:Int)<(yn:Int):=by omega
    have HN:=Lib.hid (show¬ND (Yh.mk yb yd yj yA yn yc yr) N G from fun h=>NF (h.2.2.1));have jx:=(hE.here.2).cell 18;go_wp2_with fail
    go_ret
    exact⟨true,rfl,mW HN.out,hE.av⟩
   have t1:decide ((G:Int)<(yn:Int))=false:=decide_eq_false (by omega)
   have t2:¬(G:Int)<(yn:Int):=by omega
   by_cases afs:yj.n<=2
   rotate_left 1
   ·
    have t3:decide (2<(yj.n:Int))=true:=decide_eq_true (by omega)
    have t4:2<(yj.n:Int):=by omega
    have HN:=Lib.hid (show¬ND (Yh.mk yb yd yj yA yn yc yr) N G from fun h=>afs (h.2.2.2.1.1));have kI:=(hE.here.2).cell 15;have og:=(hE.here.2).cell 18;go_wp2_with fail
    go_ret
    exact⟨true,rfl,mW HN.out,hE.av⟩
   have t3:decide (2<(yj.n:Int))=false:=decide_eq_false (by omega)
   have t4:¬2<(yj.n:Int):=by omega
   by_cases aft:yj.m<=2
   rotate_left 1
   ·
    have t5:decide (2<(yj.m:Int))=true:=decide_eq_true (by omega)
    have t6:2<(yj.m:Int):=by omega
    have HN:=Lib.hid (show¬ND (Yh.mk yb yd yj yA yn yc yr) N G from fun h=>aft (h.2.2.2.1.2));have oh:=(hE.here.2).cell 15;have oU:=(hE.here.2).cell 17;have mS:=(hE.here.2).cell 18;go_wp2_with fail
    go_ret
    exact⟨true,rfl,mW HN.out,hE.av⟩
   have t5:decide (2<(yj.m:Int))=false:=decide_eq_false (by omega)
   have t6:¬2<(yj.m:Int):=by omega
   have lW:=(hE.here.2).cell 15;have oV:=(hE.here.2).cell 17;have om:=(hE.here.2).cell 18;go_wp2_with fail
   clear lW oV om;clear t1 t2 t3 t4 t5 t6;replace hE:=hE.yrd (Yh.aA eU.out hE.av)
   go_loopw [7] (fun p wr=>∃k:Nat,k<=yn/\p= .int .i64 (k:Int)/\Hid (∀j,j<k->GM yb (yr j).x N)/\Env w (fun V=>((True/\ak 67 (w.heap.size) #[.int .i64 yb.F,.int .i64 yb.S,.slice yb.A yb.n yb.c,.bool yb.i.s,.slice yb.i.A yb.i.n yb.i.c,.bool yb.i.t,.slice yb.i.B yb.i.m yb.i.d,.int .i64 yd.F,.int .i64 yd.S,.slice yd.A yd.n yd.c,.bool yd.i.s,.slice yd.i.A yd.i.n yd.i.c,.bool yd.i.t,.slice yd.i.B yd.i.m yd.i.d,.bool yj.s,.slice yj.A yj.n yj.c,.bool yj.t,.slice yj.B yj.m yj.d,.slice yA yn yc] V)/\Yh.rd (Yh.mk yb yd yj yA yn yc yr) V)) wr) (fun p _=>yn-(intOf p).toNat)
   case atStart=>exact⟨0,Nat.zero_le _,rfl,Lib.hid (fun j hj=>absurd hj (Nat.not_lt_zero j)),(((Env.again hE.av).af (hE.here.1.2)).yrd (hE.here.2))⟩
   case round=>
    clear hE;obtain⟨k,hk,rfl,HK,hE⟩:=hrel
    by_cases hlt:k<yn
    rotate_left
    ·
     have hkn:k=yn:=by omega
     have t1:decide ((k:Int)<(yn:Int))=false:=decide_eq_false (by omega)
     have t2:¬(k:Int)<(yn:Int):=by omega
     have HK2:Hid (∀j,j<yn->GM yb (yr j).x N):=Lib.hid (by rw[<-hkn];exact HK.out);clear HK hkn;have FP:=(hE.here.1.2).cell 18;go_wp2_with fail
     go_ret
     exact⟨false,rfl,⟨fun _=>⟨HP8.out,al6.out,NF,⟨afs,aft⟩,HK2.out⟩,fun _=>rfl⟩,hE.av⟩
    have Nl:nP yA yn yr wr:=(hE.here.2).2.2.2;obtain⟨b,o,rfl,eP,hc⟩:=Nl (by omega);clear Nl
    obtain⟨⟨x,z,a,d⟩,hg⟩:∃g,g=yr k:=⟨_,rfl⟩
    obtain⟨gV,Th⟩:=hc k hlt;rw[<-hg] at gV;have t1:decide ((k:Int)<(yn:Int))=true:=decide_eq_true (by omega)
    have t2:(k:Int)<(yn:Int):=by omega
    have uZ:=Lib.hid hg;clear hg;clear Th hc;have zL:=(hE.here.1.2).cell 18
    go_upto_region 6 with(fail)
    clear zL;clear t1;replace hE:=hE.and (Q:=fun V=>b<V.heap.size/\∀i,i<9->V.cell? ⟨b,o+k*12+i,none⟩=(Gr.C ⟨x,z,a,d⟩)[i]?) (fun _ _ hb h=>⟨Nat.lt_of_lt_of_le h.1 hb.size,fun i hi=>(hb.cell (p:=⟨b,_,none⟩) h.1).trans (h.2 i hi)⟩) (aar eP gV);clear eP gV;replace hE:=hE.drew;refine wp_region_held_drew (S:=fun V=>ak 67 (w.heap.size) #[.int .i64 yb.F,.int .i64 yb.S,.slice yb.A yb.n yb.c,.bool yb.i.s,.slice yb.i.A yb.i.n yb.i.c,.bool yb.i.t,.slice yb.i.B yb.i.m yb.i.d,.int .i64 yd.F,.int .i64 yd.S,.slice yd.A yd.n yd.c,.bool yd.i.s,.slice yd.i.A yd.i.n yd.i.c,.bool yd.i.t,.slice yd.i.B yd.i.m yd.i.d,.bool yj.s,.slice yj.A yj.n yj.c,.bool yj.t,.slice yj.B yj.m yj.d,.slice (some ⟨b,o,none⟩) yn yc] V/\b<(World.heap V).size/\∀i,i<9->World.cell? V ⟨b,o+k*12+i,none⟩=(Gr.C ⟨x,z,a,d⟩)[i]?) (by kernel_rfl) (⟨hE.h2,hE.here.2⟩) (fun hHeld=> ?_)
    generalize wr.drew=wd at*
    refine tk 0 ?_
    refine tk 1 ?_ (hy:=by
     intro w ay;have iM:=(ay.1).cell 0;have iP:=(ay.1).cell 1;have jb:=(ay.1).cell 2;have jc:=(ay.1).cell 3;have IX:=(ay.1).cell 4;have IY:=(ay.1).cell 5;have IZ:=(ay.1).cell 6;clear ay
     first|(go_simp;done)|(go_simp;with_reducible rfl))
    try simp only[PL]
    refine tk 2 ?_
    refine tk 3 ?_ (hy:=by
     intro w ay;have I4:=(ay.1).cell 18;clear ay
     first|(go_simp;done)|(go_simp;with_reducible rfl))
    try simp only[PL]
    refine tk 4 ?_;refine tk 5 ?_;refine tk 6 ?_
    refine tk 7 ?_ (hy:=by
     intro w ay;have iM:World.cell? w ⟨b,o+k*12,none⟩=some (.int .i64 x.E):=(ay.2).2 0 (by decide);have iP:World.cell? w ⟨b,o+k*12+1,none⟩=some (.int .i64 x.Y):=(ay.2).2 1 (by decide);have jb:World.cell? w ⟨b,o+k*12+2,none⟩=some (.int .i64 x.T):=(ay.2).2 2 (by decide);have jc:World.cell? w ⟨b,o+k*12+3,none⟩=some (.bool x.p.s):=(ay.2).2 3 (by decide);have IX:World.cell? w ⟨b,o+k*12+4,none⟩=some (.slice x.p.A x.p.n x.p.c):=(ay.2).2 4 (by decide);have IY:World.cell? w ⟨b,o+k*12+5,none⟩=some (.bool x.p.t):=(ay.2).2 5 (by decide);have IZ:World.cell? w ⟨b,o+k*12+6,none⟩=some (.slice x.p.B x.p.m x.p.d):=(ay.2).2 6 (by decide);have VZ:World.cell? w ⟨b,o+k*12+7,none⟩=some (.slice x.A x.n x.c):=(ay.2).2 7 (by decide);have QI:World.cell? w ⟨b,o+k*12+8,none⟩=some (.slice x.B x.m x.d):=(ay.2).2 8 (by decide);clear ay
     first|(go_simp;done)|(go_simp;with_reducible rfl))
    try simp only[PL]
    refine tk 8 ?_;refine r1 9 (fun K hK=> ?_);go_simp
    have QM:GM yb (yr k).x N↔GM yb x N:=by rw[<-uZ.out]
    refine(EE (b:=yb) (x:=x) (hE.here.1.2).1.1 h1 h2).mono ?_
    rintro e w9 ⟨v,rfl,hv,hb⟩
    replace hE:=hE.step hb;clear hb;have HV:=Lib.hid (hv.trans QM.symm);clear hv QM;go_wp2_with fail
    refine hK.out _ _ (⟨hE.h2,hE.here.2⟩) (fun hHeld=> ?_);clear hK K;try simp only[PL]
    refine wpAnyH_done (by kernel_rfl) ?_ _
    cases v with
    |true=>
     have HN:=Lib.hid (show¬ND (Yh.mk yb yd yj (some ⟨b,o,none⟩) yn yc yr) N G from fun h=>by have:=HV.out.2 (h.2.2.2.2 k hlt);cases this);go_wp2_with fail
     go_ret
     exact⟨true,rfl,mW HN.out,hE.av⟩
    |false=>
     have HR:=Lib.hid (HV.out.1 rfl);go_wp2_with fail
     go_roundw
     case rel=>
      refine⟨k+1,by omega,by go_num,Lib.hid (fun i hi=> ?_),(by simpa only[true_and] using(((Env.again hE.av).af (hE.h2)).yrd (hE.here.1.2)))⟩
      by_cases e:i=k
      ·subst e;exact HR.out
      ·exact HK.out i (by omega)
     case measure=>simp[intOf];omega
def UsY (y:Yh):Prop:=ND y 10 6/\Gk y
theorem UsY.ys {y:Yh}(h:UsY y):YS y:=⟨h.2,h.1.2.2.1,by have:=h.1.1.1.1;omega,by have:=h.1.2.1.1.1;omega⟩
theorem EF {y:Yh}{N:Int}{G:Nat}{w:World}(hY:y.rd w)(h1:0<=N)(h2:N<=1000000)(h3:y.n<=9223372036854775807):Calls Tryz.prog 95 #[.agg #[.int .i64 y.b.F,.int .i64 y.b.S,.slice y.b.A y.b.n y.b.c,.bool y.b.i.s,.slice y.b.i.A y.b.i.n y.b.i.c,.bool y.b.i.t,.slice y.b.i.B y.b.i.m y.b.i.d,.int .i64 y.d.F,.int .i64 y.d.S,.slice y.d.A y.d.n y.d.c,.bool y.d.i.s,.slice y.d.i.A y.d.i.n y.d.i.c,.bool y.d.i.t,.slice y.d.i.B y.d.i.m y.d.i.d,.bool y.j.s,.slice y.j.A y.j.n y.j.c,.bool y.j.t,.slice y.j.B y.j.m y.j.d,.slice y.A y.n y.c],.int .i64 N,.int .i64 (G:Int)] w (GN (ND y N G) w):=Cn hY h1 h2 h3
theorem iI {y:Yh}{w:World}(hY:y.rd w)(hi:y.i)(uS:y.n<=9223372036854775807):
  Calls Tryz.prog 39 #[.agg #[.int .i64 y.b.F,.int .i64 y.b.S,.slice y.b.A y.b.n y.b.c,.bool y.b.i.s,.slice y.b.i.A y.b.i.n y.b.i.c,.bool y.b.i.t,.slice y.b.i.B y.b.i.m y.b.i.d,.int .i64 y.d.F,.int .i64 y.d.S,.slice y.d.A y.d.n y.d.c,.bool y.d.i.s,.slice y.d.i.A y.d.i.n y.d.i.c,.bool y.d.i.t,.slice y.d.i.B y.d.i.m y.d.i.d,.bool y.j.s,.slice y.j.A y.j.n y.j.c,.bool y.j.t,.slice y.j.B y.j.m y.j.d,.slice y.A y.n y.c]] w (fY (UsY y) w):=by
 have eU:=Lib.hid hY;clear hY;have mP:=Lib.hid hi;clear hi;have ua:=Lib.hid uS;clear uS;have hE:=(Env.start w).blk 67 #[.int .i64 y.b.F,.int .i64 y.b.S,.slice y.b.A y.b.n y.b.c,.bool y.b.i.s,.slice y.b.i.A y.b.i.n y.b.i.c,.bool y.b.i.t,.slice y.b.i.B y.b.i.m y.b.i.d,.int .i64 y.d.F,.int .i64 y.d.S,.slice y.d.A y.d.n y.d.c,.bool y.d.i.s,.slice y.d.i.A y.d.i.n y.d.i.c,.bool y.d.i.t,.slice y.d.i.B y.d.i.m y.d.i.d,.bool y.j.s,.slice y.j.A y.j.n y.j.c,.bool y.j.t,.slice y.j.B y.j.m y.j.d,.slice y.A y.n y.c] (g:=w.heap.size) rfl
 obtain⟨W0,aC⟩:∃W0,W0=(w.alloc (.cells #[.int .i64 y.b.F,.int .i64 y.b.S,.slice y.b.A y.b.n y.b.c,.bool y.b.i.s,.slice y.b.i.A y.b.i.n y.b.i.c,.bool y.b.i.t,.slice y.b.i.B y.b.i.m y.b.i.d,.int .i64 y.d.F,.int .i64 y.d.S,.slice y.d.A y.d.n y.d.c,.bool y.d.i.s,.slice y.d.i.A y.d.i.n y.d.i.c,.bool y.d.i.t,.slice y.d.i.B y.d.i.m y.d.i.d,.bool y.j.s,.slice y.j.A y.j.n y.j.c,.bool y.j.t,.slice y.j.B y.j.m y.j.d,.slice y.A y.n y.c] 67)):=⟨_,rfl⟩
 rw[<-aC] at hE;have aU:=Lib.hid aC;clear aC
 go_enter Tryz.func39,Tryz.ntmps39
 go_upto_region 1 with(fail)
 rw[<-aU.out];have dH:(Instr.loadAt 67 (.pointer (some ⟨w.heap.size,0,none⟩))).run Tryz.prog W0= .ok (.agg #[.int .i64 y.b.F,.int .i64 y.b.S,.slice y.b.A y.b.n y.b.c,.bool y.b.i.s,.slice y.b.i.A y.b.i.n y.b.i.c,.bool y.b.i.t,.slice y.b.i.B y.b.i.m y.b.i.d,.int .i64 y.d.F,.int .i64 y.d.S,.slice y.d.A y.d.n y.d.c,.bool y.d.i.s,.slice y.d.i.A y.d.i.n y.d.i.c,.bool y.d.i.t,.slice y.d.i.B y.d.i.m y.d.i.d,.bool y.j.s,.slice y.j.A y.j.n y.j.c,.bool y.j.t,.slice y.j.B y.j.m y.j.d,.slice y.A y.n y.c]) W0:=run_loadAt_mid _ _ _ _ [.int .i64 y.b.F,.int .i64 y.b.S,.slice y.b.A y.b.n y.b.c,.bool y.b.i.s,.slice y.b.i.A y.b.i.n y.b.i.c,.bool y.b.i.t,.slice y.b.i.B y.b.i.m y.b.i.d,.int .i64 y.d.F,.int .i64 y.d.S,.slice y.d.A y.d.n y.d.c,.bool y.d.i.s,.slice y.d.i.A y.d.i.n y.d.i.c,.bool y.d.i.t,.slice y.d.i.B y.d.i.m y.d.i.d,.bool y.j.s,.slice y.j.A y.j.n y.j.c,.bool y.j.t,.slice y.j.B y.j.m y.j.d,.slice y.A y.n y.c] _ (ak.mid (hE.here.2) 0 rfl) Tryz.underlying67 rfl (by kernel_rfl);go_wp2_with (first|refine aK dH rfl rfl rfl ?_)
 clear dH;refine(EF (y:=y) (N:=10) (G:=6) (Yh.aA eU.out hE.av) (by decide) (by decide) ua.out).mono ?_
 rintro e w5 ⟨v,rfl,hv,hb⟩
 replace hE:=hE.step hb;clear hb
 cases v with
 |true=>
  have HN:=Lib.hid (show¬UsY y from fun h=>by have:=hv.2 h.1;cases this);clear hv;go_wp2_with fail
  go_ret
  exact⟨false,rfl,bt HN.out,hE.av⟩
 |false=>
  have hs:=hv.1 rfl;clear hv;have hbd:=hs.bd (by decide) mP.out;have yh:=Lib.hid hs;clear hs;have jX:=Lib.hid hbd;clear hbd;have dH:(Instr.loadAt 67 (.pointer (some ⟨w.heap.size,0,none⟩))).run Tryz.prog w5= .ok (.agg #[.int .i64 y.b.F,.int .i64 y.b.S,.slice y.b.A y.b.n y.b.c,.bool y.b.i.s,.slice y.b.i.A y.b.i.n y.b.i.c,.bool y.b.i.t,.slice y.b.i.B y.b.i.m y.b.i.d,.int .i64 y.d.F,.int .i64 y.d.S,.slice y.d.A y.d.n y.d.c,.bool y.d.i.s,.slice y.d.i.A y.d.i.n y.d.i.c,.bool y.d.i.t,.slice y.d.i.B y.d.i.m y.d.i.d,.bool y.j.s,.slice y.j.A y.j.n y.j.c,.bool y.j.t,.slice y.j.B y.j.m y.j.d,.slice y.A y.n y.c]) w5:=run_loadAt_mid _ _ _ _ [.int .i64 y.b.F,.int .i64 y.b.S,.slice y.b.A y.b.n y.b.c,.bool y.b.i.s,.slice y.b.i.A y.b.i.n y.b.i.c,.bool y.b.i.t,.slice y.b.i.B y.b.i.m y.b.i.d,.int .i64 y.d.F,.int .i64 y.d.S,.slice y.d.A y.d.n y.d.c,.bool y.d.i.s,.slice y.d.i.A y.d.i.n y.d.i.c,.bool y.d.i.t,.slice y.d.i.B y.d.i.m y.d.i.d,.bool y.j.s,.slice y.j.A y.j.n y.j.c,.bool y.j.t,.slice y.j.B y.j.m y.j.d,.slice y.A y.n y.c] _ (ak.mid (hE.here.2) 0 rfl) Tryz.underlying67 rfl (by kernel_rfl);go_wp2_with (first|refine aK dH rfl rfl rfl ?_|refine bC dH (by rfl) rfl rfl ?_)
  clear dH;refine(kU (y:=y) (Yh.aA eU.out hE.av) jX.out mP.out).mono ?_
  rintro e w6 ⟨v,rfl,hv,hb⟩
  replace hE:=hE.step hb;clear hb;have VK:=Lib.hid hv;clear hv;go_wp2_with fail
  go_ret
  exact⟨v,rfl,⟨fun h=>⟨yh.out,VK.out.1 h⟩,fun h=>VK.out.2 h.2⟩,hE.av⟩
end Go.Proofs.YtclbiihcbfnjmaaGreat
