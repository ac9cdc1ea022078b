/-
  Parts.
-/
import Derived.Test.YtclbiihcbfnjmaaGreatE3
import Derived.Test.YtclbiihcbfnjmaaGreatEY
set_option linter.unusedSimpArgs false
set_option maxRecDepth 100000
set_option maxHeartbeats 8000000
namespace Go.Proofs.YtclbiihcbfnjmaaGreat
open Go.RowKit

theorem Z0 {b:Bh}{E Y:Int}{w:World}{t:Nat}(_:dA w b.A b.n b.r)(hR:b.right E Y)(ht:9223372036854775807<=t):pr (b.rt E Y) t=0:=by
 obtain⟨N,hN,hc⟩:=tW 1 hR;have h1:=(kH.pr (v:=1) (by decide+kernel)).1 hc;have hn:=hR.1.2.1.2
 have all:∀m,pr (b.rt E Y) (N+m)=0:=fun m=>by
  induction m with
  |zero=>exact h1.1
  |succ m ih=>rw[<-Nat.add_assoc];simp only[pr];rw[ih];grind
 obtain⟨m,rfl⟩:∃m,t=N+m:=⟨t-N,by omega⟩
 exact all m
theorem Tf {y:Yh}{x:Ct}{z a d:Int}{gy:Nat}{w:World}(hb:y.b.rd w)(hd:y.d.rd w)(hx:x.rd w)(lS:y.b.bd)(hdb:y.d.bd)(iB:x.bd)(hi:(Gr.mk x z a d).i)(hY:ak 67 gy y.C.toArray w):
  Calls Tryz.prog 98 #[.agg #[.int .i64 x.E,.int .i64 x.Y,.int .i64 x.T,.bool x.p.s,.slice x.p.A x.p.n x.p.c,.bool x.p.t,.slice x.p.B x.p.m x.p.d,.slice x.A x.n x.c,.slice x.B x.m x.d,.int .i64 z,.int .i64 a,.int .i64 d],.pointer (some ⟨gy,0,none⟩)] w (fY (oz y.b y.d ⟨x,z,a,d⟩) w):=by
 have hY1:ak 67 gy #[.int .i64 y.b.F,.int .i64 y.b.S,.slice y.b.A y.b.n y.b.c,.bool y.b.i.s,.slice y.b.i.A y.b.i.n y.b.i.c,.bool y.b.i.t,.slice y.b.i.B y.b.i.m y.b.i.d,.int .i64 y.d.F,.int .i64 y.d.S,.slice y.d.A y.d.n y.d.c,.bool y.d.i.s,.slice y.d.i.A y.d.i.n y.d.i.c,.bool y.d.i.t,.slice y.d.i.B y.d.i.m y.d.i.d,.bool y.j.s,.slice y.j.A y.j.n y.j.c,.bool y.j.t,.slice y.j.B y.j.m y.j.d,.slice y.A y.n y.c] w:=hY;have hgy:=hY1.lt;have eU:=Lib.hid hY1;clear hY1 hY;have hz:=hi.1;unfold i64 at hz;replace hz:-9223372036854775808<=z/\z<=9223372036854775807:=hz;have jG:=Lib.hid hb;clear hb;have Hhd:=Lib.hid hd;clear hd;have mB:=Lib.hid hx;clear hx;have fS:=Lib.hid lS;clear lS;have SY:=Lib.hid hdb;clear hdb;have fZ:=Lib.hid iB;clear iB;have hE:=((Env.start w).af eU.out).blk 72 #[.int .i64 x.E,.int .i64 x.Y,.int .i64 x.T,.bool x.p.s,.slice x.p.A x.p.n x.p.c,.bool x.p.t,.slice x.p.B x.p.m x.p.d,.slice x.A x.n x.c,.slice x.B x.m x.d,.int .i64 z,.int .i64 a,.int .i64 d] (g:=w.heap.size) rfl
 obtain⟨W0,aC⟩:∃W0,W0=(w.alloc (.cells #[.int .i64 x.E,.int .i64 x.Y,.int .i64 x.T,.bool x.p.s,.slice x.p.A x.p.n x.p.c,.bool x.p.t,.slice x.p.B x.p.m x.p.d,.slice x.A x.n x.c,.slice x.B x.m x.d,.int .i64 z,.int .i64 a,.int .i64 d] 72)):=⟨_,rfl⟩
 rw[<-aC] at hE;have aU:=Lib.hid aC;clear aC
 go_enter Tryz.func98,Tryz.ntmps98
 go_upto_region 1 with(fail)
 rw[<-aU.out];have k1:=(hE.here.1.2).cell 0;have k2:=(hE.here.1.2).cell 1;have k3:=(hE.here.1.2).cell 2;have k4:=(hE.here.1.2).cell 3;have k5:=(hE.here.1.2).cell 4;have k6:=(hE.here.1.2).cell 5;have k7:=(hE.here.1.2).cell 6;have k8:=(hE.here.2).cell 0;have k9:=(hE.here.2).cell 1;have eG:=(hE.here.2).cell 2;have cS:=(hE.here.2).cell 3;have cZ:=(hE.here.2).cell 4;have dG:=(hE.here.2).cell 5;have dN:=(hE.here.2).cell 6;have fP:=(hE.here.2).cell 7;have lC:=(hE.here.2).cell 8;go_wp2_with fail
 refine(oA (Bh.aA jG.out hE.av) fS.out (Ct.aA mB.out hE.av) fZ.out).mono ?_;clear k1 k2 k3 k4 k5 k6 k7 k8 k9 eG cS cZ dG dN fP lC
 rintro e Mc ⟨r,rfl,hr,hb⟩
 replace hE:=hE.step hb;clear hb
 cases r with
 |false=>
  have HN:=Lib.hid (show¬oz y.b y.d ⟨x,z,a,d⟩ from fun h=>Bool.false_ne_true (hr.2 (h.1.1)));clear hr;go_wp2_with fail
  go_ret
  exact⟨false,rfl,bt HN.out,hE.av⟩
 |true=>
  have alF:=Lib.hid (hr.1 rfl);clear hr;have jx:=(hE.here.1.2).cell 7;have lO:=(hE.here.1.2).cell 8;have kI:=(hE.here.1.2).cell 9;have og:=(hE.here.1.2).cell 10;have mQ:=(hE.here.1.2).cell 11;have oh:=(hE.here.1.2).cell 12;have oU:=(hE.here.1.2).cell 13;have mS:=(hE.here.2).cell 0;have lW:=(hE.here.2).cell 1;have oV:=(hE.here.2).cell 2;have om:=(hE.here.2).cell 3;have FP:=(hE.here.2).cell 4;have zL:=(hE.here.2).cell 5;have zM:=(hE.here.2).cell 6;have FQ:=(hE.here.2).cell 7;have vH:=(hE.here.2).cell 8;go_wp2_with fail
  refine(oA (Bh.aA Hhd.out hE.av) SY.out (Ct.aA mB.out hE.av) fZ.out).mono ?_;clear jx lO kI og mQ oh oU mS lW oV om FP zL zM FQ vH
  rintro e VN ⟨r,rfl,hr,hb⟩
  replace hE:=hE.step hb;clear hb
  cases r with
  |false=>
   have HN:=Lib.hid (show¬oz y.b y.d ⟨x,z,a,d⟩ from fun h=>Bool.false_ne_true (hr.2 (h.1.2)));clear hr;go_wp2_with fail
   go_ret
   exact⟨false,rfl,bt HN.out,hE.av⟩
  |true=>
   have alG:=Lib.hid (hr.1 rfl);clear hr;have sF:=alF.out;have I3:=alG.out;have Gj:=sF.2.1;have DW:=I3.2.1;have AU:=Lib.hid sF;clear sF;have FY:=Lib.hid I3;clear I3;have Z2:=Lib.hid Gj;clear Gj;have alH:=Lib.hid DW;clear DW
   by_cases Tg:0<=z
   rotate_left 1
   ·
    have t1:decide (z<0)=true:=decide_eq_true (by omega)
    have t2:z<0:=by omega
    have HN:=Lib.hid (show¬oz y.b y.d ⟨x,z,a,d⟩ from fun h=>Tg (h.2.1.1));have YX:=(hE.here.2).cell 9;go_wp2_with fail
    go_ret
    exact⟨false,rfl,bt HN.out,hE.av⟩
   obtain⟨t,rfl⟩:∃t:Nat,z=(t:Int):=⟨z.toNat,by omega⟩
   have t1:decide ((t:Int)<0)=false:=decide_eq_false (by omega)
   have t2:¬(t:Int)<0:=by omega
   have Kr:=(hE.here.1.2).cell 0;have Ek:=(hE.here.1.2).cell 1;have DT:=(hE.here.1.2).cell 2;have zN:=(hE.here.1.2).cell 3;have QH:=(hE.here.1.2).cell 4;have VP:=(hE.here.1.2).cell 5;have ID:=(hE.here.1.2).cell 6;have KR:=(hE.here.2).cell 0;have xw:=(hE.here.2).cell 1;have El:=(hE.here.2).cell 9;go_wp2_with fail
   refine(tL (Bh.aA jG.out hE.av) fS.out.1 Z2.out t (by omega)).mono ?_;clear Kr Ek DT zN QH VP ID KR xw El
   rintro e w47 ⟨r,rfl,hr,hb⟩
   replace hE:=hE.step hb;clear hb
   cases r with
   |false=>
    have HN:=Lib.hid (show¬oz y.b y.d ⟨x,(t:Int),a,d⟩ from fun h=>Bool.false_ne_true (hr.2 (h.2.1.2)));clear hr;go_wp2_with fail
    go_ret
    exact⟨false,rfl,bt HN.out,hE.av⟩
   |true=>
    have Z3:=Lib.hid (hr.1 rfl);clear hr;clear t1 t2
    by_cases Z4:0<=a
    rotate_left 1
    ·
     have u0:decide (a<0)=true:=decide_eq_true (by omega)
     have u1:a<0:=by omega
     have HN:=Lib.hid (show¬oz y.b y.d ⟨x,(t:Int),a,d⟩ from fun h=>Z4 (h.2.2.1.1));have Km:=(hE.here.2).cell 10;have Ko:=(hE.here.2).cell 11;go_wp2_with fail
     go_ret
     exact⟨false,rfl,bt HN.out,hE.av⟩
    have u0:decide (a<0)=false:=decide_eq_false (by omega)
    have u1:¬a<0:=by omega
    by_cases Z5:a<=1099511627776
    rotate_left 1
    ·
     have u2:decide (1099511627776<a)=true:=decide_eq_true (by omega)
     have u3:1099511627776<a:=by omega
     have HN:=Lib.hid (show¬oz y.b y.d ⟨x,(t:Int),a,d⟩ from fun h=>Z5 (h.2.2.1.2.1));have QF:=(hE.here.2).cell 10;have k53:=(hE.here.2).cell 11;go_wp2_with fail
     go_ret
     exact⟨false,rfl,bt HN.out,hE.av⟩
    have u2:decide (1099511627776<a)=false:=decide_eq_false (by omega)
    have u3:¬1099511627776<a:=by omega
    by_cases Z6:0<=d
    rotate_left 1
    ·
     have u4:decide (d<0)=true:=decide_eq_true (by omega)
     have u5:d<0:=by omega
     have HN:=Lib.hid (show¬oz y.b y.d ⟨x,(t:Int),a,d⟩ from fun h=>Z6 (h.2.2.1.2.2.1));have k55:=(hE.here.2).cell 10;have k56:=(hE.here.2).cell 11;go_wp2_with fail
     go_ret
     exact⟨false,rfl,bt HN.out,hE.av⟩
    have u4:decide (d<0)=false:=decide_eq_false (by omega)
    have u5:¬d<0:=by omega
    by_cases Z7:d<=a
    rotate_left 1
    ·
     have u6:decide (a<d)=true:=decide_eq_true (by omega)
     have u7:a<d:=by omega
     have HN:=Lib.hid (show¬oz y.b y.d ⟨x,(t:Int),a,d⟩ from fun h=>Z7 (h.2.2.1.2.2.2));have k58:=(hE.here.2).cell 10;have k59:=(hE.here.2).cell 11;go_wp2_with fail
     go_ret
     exact⟨false,rfl,bt HN.out,hE.av⟩
    have u6:decide (a<d)=false:=decide_eq_false (by omega)
    have u7:¬a<d:=by omega
    by_cases hq:d=a
    ·
     have k60:=(hE.here.2).cell 10;have k61:=(hE.here.2).cell 11;have v1:decide (d=a)=true:=decide_eq_true hq
     have v2:(d==a)=true:=by rw[hq];exact beq_self_eq_true a
     have Hq:=Lib.hid hq;clear hq;go_wp2_with fail
     go_ret
     exact⟨true,rfl,sR ⟨⟨AU.out,FY.out⟩,⟨Int.natCast_nonneg t,Z3.out⟩,⟨Z4,Z5,Z6,Z7⟩,.inl Hq.out⟩,hE.av⟩
    have k62:=(hE.here.1.2).cell 0;have k63:=(hE.here.1.2).cell 1;have k64:=(hE.here.1.2).cell 2;have k65:=(hE.here.1.2).cell 3;have k66:=(hE.here.1.2).cell 4;have k67:=(hE.here.1.2).cell 5;have k68:=(hE.here.1.2).cell 6;have k69:=(hE.here.2).cell 0;have k70:=(hE.here.2).cell 1;have k71:=(hE.here.2).cell 9;have k72:=(hE.here.2).cell 10;have k73:=(hE.here.2).cell 11;have v1:decide (d=a)=false:=decide_eq_false hq
    have v2:(d==a)=false:=by simpa using hq
    have Hq:=Lib.hid hq;clear hq
    have htl:t<9223372036854775807:=Nat.lt_of_not_le fun h9=>Z3.out (Z0 jG.out.1 Z2.out (by omega))
    obtain⟨u,hu⟩:∃u:Nat,u=t+1:=⟨_,rfl⟩
    have o1:IntKind.i64.wrap ((t:Int)+1)=(u:Int):=by rw[IntKind.wrap_i64];omega
    have Mw:u<=9223372036854775807:=by omega
    have Hhu:=Lib.hid hu;clear hu;go_wp2_with fail
    refine(tL (Bh.aA jG.out hE.av) fS.out.1 Z2.out u Mw).mono ?_;clear k62 k63 k64 k65 k66 k67 k68 k69 k70 k71 k72 k73
    rintro e w74 ⟨r,rfl,hr,hb⟩
    replace hE:=hE.step hb;clear hb
    cases r with
    |false=>
     have HN:=Lib.hid (show¬oz y.b y.d ⟨x,(t:Int),a,d⟩ from fun h=>Bool.false_ne_true (hr.2 (by rw[Hhu.out];exact(h.2.2.2.resolve_left (show¬d=a from Hq.out)).1)));clear hr;go_wp2_with fail
     go_ret
     exact⟨false,rfl,bt HN.out,hE.av⟩
    |true=>
     have alI:=Lib.hid (hr.1 rfl);clear hr;have k75:=(hE.here.1.2).cell 7;have k76:=(hE.here.1.2).cell 8;have k77:=(hE.here.1.2).cell 9;have k78:=(hE.here.1.2).cell 10;have k79:=(hE.here.1.2).cell 11;have k80:=(hE.here.1.2).cell 12;have k81:=(hE.here.1.2).cell 13;have k82:=(hE.here.2).cell 0;have k83:=(hE.here.2).cell 1;have k84:=(hE.here.2).cell 9;go_wp2_with fail
     refine(tL (Bh.aA Hhd.out hE.av) SY.out.1 alH.out u Mw).mono ?_;clear k75 k76 k77 k78 k79 k80 k81 k82 k83 k84
     rintro e w99 ⟨r,rfl,hr,hb⟩
     replace hE:=hE.step hb;have HR:=Lib.hid hr;clear hb hr;go_wp2_with fail
     go_ret
     have h4:=alI.out;have h5:=HR.out;rw[Hhu.out] at h4 h5;exact⟨r,rfl,⟨fun h=>⟨⟨AU.out,FY.out⟩,⟨Int.natCast_nonneg t,Z3.out⟩,⟨Z4,Z5,Z6,Z7⟩,.inr ⟨h4,h5.1 h⟩⟩,fun h=>h5.2 (h.2.2.2.resolve_left (show¬d=a from Hq.out)).2⟩,hE.av⟩
theorem Cf {yb yd:Bh}{yj:FH}{yA:Option Addr}{yn yc:Nat}{yr:Nat->Gr}{w:World}(hY:(Yh.mk yb yd yj yA yn yc yr).rd w)(hbd:(Yh.mk yb yd yj yA yn yc yr).bd)(hi:(Yh.mk yb yd yj yA yn yc yr).i):
  Calls Tryz.prog 44 #[.agg #[.int .i64 yb.F,.int .i64 yb.S,.slice yb.A yb.n yb.c,.bool yb.i.s,.slice yb.i.A yb.i.n yb.i.c,.bool yb.i.t,.slice yb.i.B yb.i.m yb.i.d,.int .i64 yd.F,.int .i64 yd.S,.slice yd.A yd.n yd.c,.bool yd.i.s,.slice yd.i.A yd.i.n yd.i.c,.bool yd.i.t,.slice yd.i.B yd.i.m yd.i.d,.bool yj.s,.slice yj.A yj.n yj.c,.bool yj.t,.slice yj.B yj.m yj.d,.slice yA yn yc]] w (fY (Gk (Yh.mk yb yd yj yA yn yc yr)) w):=by
 have eU:=Lib.hid hY;clear hY;have jX:=Lib.hid hbd;clear hbd;have mP:=Lib.hid hi;clear hi;have hE:=(Env.start w).blk 67 #[.int .i64 yb.F,.int .i64 yb.S,.slice yb.A yb.n yb.c,.bool yb.i.s,.slice yb.i.A yb.i.n yb.i.c,.bool yb.i.t,.slice yb.i.B yb.i.m yb.i.d,.int .i64 yd.F,.int .i64 yd.S,.slice yd.A yd.n yd.c,.bool yd.i.s,.slice yd.i.A yd.i.n yd.i.c,.bool yd.i.t,.slice yd.i.B yd.i.m yd.i.d,.bool yj.s,.slice yj.A yj.n yj.c,.bool yj.t,.slice yj.B yj.m yj.d,.slice yA yn yc] (g:=w.heap.size) rfl
 obtain⟨W0,aC⟩:∃W0,W0=(w.alloc (.cells #[.int .i64 yb.F,.int .i64 yb.S,.slice yb.A yb.n yb.c,.bool yb.i.s,.slice yb.i.A yb.i.n yb.i.c,.bool yb.i.t,.slice yb.i.B yb.i.m yb.i.d,.int .i64 yd.F,.int .i64 yd.S,.slice yd.A yd.n yd.c,.bool yd.i.s,.slice yd.i.A yd.i.n yd.i.c,.bool yd.i.t,.slice yd.i.B yd.i.m yd.i.d,.bool yj.s,.slice yj.A yj.n yj.c,.bool yj.t,.slice yj.B yj.m yj.d,.slice yA yn yc] 67)):=⟨_,rfl⟩
 rw[<-aC] at hE;have aU:=Lib.hid aC;clear aC
 go_enter Tryz.func44,Tryz.ntmps44
 go_upto_region 1 with(fail)
 rw[<-aU.out]
 by_cases Cg:yn<=32
 rotate_left 1
 ·
  have t1:decide (32<(yn:Int))=true:=decide_eq_true (by omega)
  have t2:32<(yn:Int):=by omega
  have HN:=Lib.hid (show¬Gk (Yh.mk yb yd yj yA yn yc yr) from fun h=>Cg (h.1));have k2:=(hE.here.2).cell 18;go_wp2_with fail
  go_ret
  exact⟨false,rfl,bt HN.out,hE.av⟩
 have t1:decide (32<(yn:Int))=false:=decide_eq_false (by omega)
 have t2:¬32<(yn:Int):=by omega
 have k3:=(hE.here.2).cell 0;have k4:=(hE.here.2).cell 1;have k5:=(hE.here.2).cell 2;have k6:=(hE.here.2).cell 3;have k7:=(hE.here.2).cell 4;have k8:=(hE.here.2).cell 5;have k9:=(hE.here.2).cell 6;have eG:=(hE.here.2).cell 18;go_wp2_with fail
 refine(kS yb.F yb.S yb.A yb.n yb.c yb.r yb.i.s yb.i.t yb.i.A yb.i.B yb.i.n yb.i.m yb.i.c yb.i.d yb.i.f yb.i.g _ (Yh.aA eU.out hE.av).1.1 jX.out.1.1 (Yh.aA eU.out hE.av).1.2 jX.out.1.2.1 jX.out.1.2.2).mono ?_;clear k3 k4 k5 k6 k7 k8 k9 eG
 rintro e zY ⟨r,rfl,hr,hb⟩
 replace hE:=hE.step hb;clear hb
 cases r with
 |false=>
  have HN:=Lib.hid (show¬Gk (Yh.mk yb yd yj yA yn yc yr) from fun h=>Bool.false_ne_true (hr.2 (h.2.1)));clear hr;go_wp2_with fail
  go_ret
  exact⟨false,rfl,bt HN.out,hE.av⟩
 |true=>
  have alJ:=Lib.hid (hr.1 rfl);clear hr;have cZ:=(hE.here.2).cell 7;have dG:=(hE.here.2).cell 8;have dN:=(hE.here.2).cell 9;have fP:=(hE.here.2).cell 10;have lC:=(hE.here.2).cell 11;have nL:=(hE.here.2).cell 12;have jx:=(hE.here.2).cell 13;go_wp2_with fail
  refine(kS yd.F yd.S yd.A yd.n yd.c yd.r yd.i.s yd.i.t yd.i.A yd.i.B yd.i.n yd.i.m yd.i.c yd.i.d yd.i.f yd.i.g _ (Yh.aA eU.out hE.av).2.1.1 jX.out.2.1.1 (Yh.aA eU.out hE.av).2.1.2 jX.out.2.1.2.1 jX.out.2.1.2.2).mono ?_;clear cZ dG dN fP lC nL jx
  rintro e w19 ⟨r,rfl,hr,hb⟩
  replace hE:=hE.step hb;clear hb
  cases r with
  |false=>
   have HN:=Lib.hid (show¬Gk (Yh.mk yb yd yj yA yn yc yr) from fun h=>Bool.false_ne_true (hr.2 (h.2.2.1)));clear hr;go_wp2_with fail
   go_ret
   exact⟨false,rfl,bt HN.out,hE.av⟩
  |true=>
   have alK:=Lib.hid (hr.1 rfl);clear hr;have kI:=(hE.here.2).cell 14;have og:=(hE.here.2).cell 15;have mQ:=(hE.here.2).cell 16;have oh:=(hE.here.2).cell 17
   go_upto_region 4 with(fail)
   clear kI og mQ oh;clear t1 t2
   obtain⟨g24,kT⟩:∃g24,g24=w19.heap.size:=⟨_,rfl⟩
   have Nk:w.heap.size<g24:=by rw[kT];exact(hE.here.2).lt
   replace hE:=hE.blk 29 (az yj.s yj.A yj.n yj.c yj.t yj.B yj.m yj.d) (g:=g24) kT.symm;generalize w19.alloc (.cells (az yj.s yj.A yj.n yj.c yj.t yj.B yj.m yj.d) 29)=W24 at hE⊢;rw[<-kT];clear kT;obtain⟨mS,lW,oV,om⟩:=(hE.here.2).c4;go_wp2_with fail
   cases hv:okF yj.s yj.n yj.f yj.t yj.m yj.g with
   |false=>
    have HN:=Lib.hid (show¬Gk (Yh.mk yb yd yj yA yn yc yr) from fun h=>Bool.false_ne_true (hv.symm.trans h.2.2.2.1.1));refine(cT yj.s yj.t yj.A yj.B yj.n yj.m yj.c yj.d yj.f yj.g _ (Yh.aA eU.out hE.av).2.2.1 jX.out.2.2.1.1 jX.out.2.2.1.2 false hv).mono ?_;clear mS lW oV om
    rintro e QG ⟨rfl,hb⟩
    replace hE:=hE.step hb;clear hb hv;go_wp2_with fail
    go_ret
    exact⟨false,rfl,bt HN.out,hE.av⟩
   |true=>
    refine(cT yj.s yj.t yj.A yj.B yj.n yj.m yj.c yj.d yj.f yj.g _ (Yh.aA eU.out hE.av).2.2.1 jX.out.2.2.1.1 jX.out.2.2.1.2 true hv).mono ?_;clear mS lW oV om
    rintro e QG ⟨rfl,hb⟩
    replace hE:=hE.step hb;have HV:=Lib.hid hv;clear hb hv
    by_cases hs:yj.s=true
    ·
     have HN:=Lib.hid (show¬Gk (Yh.mk yb yd yj yA yn yc yr) from fun h=>Bool.false_ne_true (h.2.2.2.1.2.1.symm.trans hs));have zL:=(hE.here.2).cell 0;go_wp2_with fail
     go_ret
     exact⟨false,rfl,bt HN.out,hE.av⟩
    replace hs:yj.s=false:=by simpa using hs
    by_cases Z8:yj.n<=1
    rotate_left 1
    ·
     have t1:decide (1<(yj.n:Int))=true:=decide_eq_true (by omega)
     have t2:1<(yj.n:Int):=by omega
     have HN:=Lib.hid (show¬Gk (Yh.mk yb yd yj yA yn yc yr) from fun h=>Z8 (h.2.2.2.1.2.2.1));have FQ:=(hE.here.2).cell 0;have vH:=(hE.here.2).cell 1;go_wp2_with fail
     go_ret
     exact⟨false,rfl,bt HN.out,hE.av⟩
    have t1:decide (1<(yj.n:Int))=false:=decide_eq_false (by omega)
    have t2:¬1<(yj.n:Int):=by omega
    by_cases Z9:yj.m<=1
    rotate_left 1
    ·
     have t3:decide (1<(yj.m:Int))=true:=decide_eq_true (by omega)
     have t4:1<(yj.m:Int):=by omega
     have HN:=Lib.hid (show¬Gk (Yh.mk yb yd yj yA yn yc yr) from fun h=>Z9 (h.2.2.2.1.2.2.2));have Rq:=(hE.here.2).cell 0;have YX:=(hE.here.2).cell 1;have Kr:=(hE.here.2).cell 3;go_wp2_with fail
     go_ret
     exact⟨false,rfl,bt HN.out,hE.av⟩
    have t3:decide (1<(yj.m:Int))=false:=decide_eq_false (by omega)
    have t4:¬1<(yj.m:Int):=by omega
    have Ek:=(hE.here.2).cell 0;have DT:=(hE.here.2).cell 1;have zN:=(hE.here.2).cell 3;have QH:=(hE.here.1.2).cell 18;go_wp2_with fail
    clear Ek DT zN QH;clear t1 t2 t3 t4;have HJ:Hid (SX yj):=Lib.hid ⟨HV.out,hs,Z8,Z9⟩;clear HV hs Z8 Z9;replace hE:=hE.yrd (Yh.aA eU.out hE.av)
    go_loopw [51] (fun p wr=>∃k:Nat,k<=yn/\p= .int .i64 (k:Int)/\Hid (∀j,j<k->oz yb yd (yr j))/\Env w (fun V=>(((True/\ak 67 (w.heap.size) #[.int .i64 yb.F,.int .i64 yb.S,.slice yb.A yb.n yb.c,.bool yb.i.s,.slice yb.i.A yb.i.n yb.i.c,.bool yb.i.t,.slice yb.i.B yb.i.m yb.i.d,.int .i64 yd.F,.int .i64 yd.S,.slice yd.A yd.n yd.c,.bool yd.i.s,.slice yd.i.A yd.i.n yd.i.c,.bool yd.i.t,.slice yd.i.B yd.i.m yd.i.d,.bool yj.s,.slice yj.A yj.n yj.c,.bool yj.t,.slice yj.B yj.m yj.d,.slice yA yn yc] V)/\ak 29 (g24) (az yj.s yj.A yj.n yj.c yj.t yj.B yj.m yj.d) V)/\Yh.rd (Yh.mk yb yd yj yA yn yc yr) V)) wr) (fun p _=>yn-(intOf p).toNat)
    case atStart=>exact⟨0,Nat.zero_le _,rfl,Lib.hid (fun j hj=>absurd hj (Nat.not_lt_zero j)),((((Env.again hE.av).af (hE.h2)).af (hE.here.1.2)).yrd (hE.here.2))⟩
    case round=>
     clear hE;obtain⟨k,hk,rfl,HK,hE⟩:=hrel
     by_cases hlt:k<yn
     rotate_left
     ·
      have hkn:k=yn:=by omega
      have t1:decide ((k:Int)<(yn:Int))=false:=decide_eq_false (by omega)
      have t2:¬(k:Int)<(yn:Int):=by omega
      have HK2:Hid (∀j,j<yn->oz yb yd (yr j)):=Lib.hid (by rw[<-hkn];exact HK.out);clear HK hkn;go_wp2_with fail
      go_ret
      exact⟨true,rfl,sR ⟨Cg,alJ.out,alK.out,HJ.out,HK2.out⟩,hE.av⟩
     have Nl:nP yA yn yr wr:=(hE.here.2).2.2.2;obtain⟨b,o,rfl,eP,hc⟩:=Nl (by omega);clear Nl
     obtain⟨⟨x,z,a,d⟩,hg⟩:∃g,g=yr k:=⟨_,rfl⟩
     obtain⟨gV,Th⟩:=hc k hlt;rw[<-hg] at gV Th;have hxi:(yr k).i:=mP.out k hlt;have hxd:(yr k).x.bd:=jX.out.2.2.2 k hlt;rw[<-hg] at hxi hxd;have t1:decide ((k:Int)<(yn:Int))=true:=decide_eq_true (by omega)
     have t2:(k:Int)<(yn:Int):=by omega
     have d0:wr.cell? ⟨b,o+k*12,none⟩=some (.int .i64 x.E):=gV 0 _ rfl;have d1:wr.cell? ⟨b,o+k*12+1,none⟩=some (.int .i64 x.Y):=gV 1 _ rfl;have d2:wr.cell? ⟨b,o+k*12+2,none⟩=some (.int .i64 x.T):=gV 2 _ rfl;have d3:wr.cell? ⟨b,o+k*12+3,none⟩=some (.bool x.p.s):=gV 3 _ rfl;have d4:wr.cell? ⟨b,o+k*12+4,none⟩=some (.slice x.p.A x.p.n x.p.c):=gV 4 _ rfl;have d5:wr.cell? ⟨b,o+k*12+5,none⟩=some (.bool x.p.t):=gV 5 _ rfl;have d6:wr.cell? ⟨b,o+k*12+6,none⟩=some (.slice x.p.B x.p.m x.p.d):=gV 6 _ rfl;have d7:wr.cell? ⟨b,o+k*12+7,none⟩=some (.slice x.A x.n x.c):=gV 7 _ rfl;have d8:wr.cell? ⟨b,o+k*12+8,none⟩=some (.slice x.B x.m x.d):=gV 8 _ rfl;have d9:wr.cell? ⟨b,o+k*12+9,none⟩=some (.int .i64 z):=gV 9 _ rfl;have d10:wr.cell? ⟨b,o+k*12+10,none⟩=some (.int .i64 a):=gV 10 _ rfl;have d11:wr.cell? ⟨b,o+k*12+11,none⟩=some (.int .i64 d):=gV 11 _ rfl;have uZ:=Lib.hid hg;clear hg;have alL:=Lib.hid hxi;clear hxi;have aac:=Lib.hid hxd;clear hxd;clear gV Th hc
     go_upto_region 10 with(fail)
     clear d0 d1 d2 d3 d4 d5 d6 d7 d8 d9 d10 d11 t1
     obtain⟨g42,Nn⟩:∃g42,g42=wr.heap.size:=⟨_,rfl⟩
     have alM:w.heap.size<g42:=by rw[Nn];exact(hE.h2).lt
     have alN:g24<g42:=by rw[Nn];exact(hE.here.1.2).lt
     replace hE:=hE.blk 72 #[.int .i64 x.E,.int .i64 x.Y,.int .i64 x.T,.bool x.p.s,.slice x.p.A x.p.n x.p.c,.bool x.p.t,.slice x.p.B x.p.m x.p.d,.slice x.A x.n x.c,.slice x.B x.m x.d,.int .i64 z,.int .i64 a,.int .i64 d] (g:=g42) Nn.symm;generalize wr.alloc (.cells #[.int .i64 x.E,.int .i64 x.Y,.int .i64 x.T,.bool x.p.s,.slice x.p.A x.p.n x.p.c,.bool x.p.t,.slice x.p.B x.p.m x.p.d,.slice x.A x.n x.c,.slice x.B x.m x.d,.int .i64 z,.int .i64 a,.int .i64 d] 72)=W42 at hE⊢;rw[<-Nn];clear Nn;have ID:=(hE.here.2).cell 0;have KR:=(hE.here.2).cell 1;have xw:=(hE.here.2).cell 2;have El:=(hE.here.2).cell 3;have KT:=(hE.here.2).cell 4;have KU:=(hE.here.2).cell 5;have Km:=(hE.here.2).cell 6;have Ko:=(hE.here.2).cell 7;have KV:=(hE.here.2).cell 8;have QF:=(hE.here.2).cell 9;have k53:=(hE.here.2).cell 10;have k54:=(hE.here.2).cell 11;go_wp2_with fail
     refine(Tf (y:=(Yh.mk yb yd yj (some ⟨b,o,none⟩) yn yc yr)) (hE.here.1.2).1 (hE.here.1.2).2.1 (by have h9:(yr k).x.rd _:=nP.rd (hE.here.1.2).2.2.2 hlt;rw[<-uZ.out] at h9;exact h9) jX.out.1 jX.out.2.1 aac.out alL.out (hE.h3)).mono ?_;clear ID KR xw El KT KU Km Ko KV QF k53 k54
     rintro e w77 ⟨r,rfl,hr,hb⟩
     replace hE:=hE.step hb;clear hb
     cases r with
     |false=>
      have HN:=Lib.hid (show¬Gk (Yh.mk yb yd yj (some ⟨b,o,none⟩) yn yc yr) from fun h=>Bool.false_ne_true (hr.2 (by rw[uZ.out];exact h.2.2.2.2 k hlt)));clear hr;go_wp2_with fail
      go_ret
      exact⟨false,rfl,bt HN.out,hE.av⟩
     |true=>
      have HR:=Lib.hid (hr.1 rfl);clear hr;go_wp2_with fail
      go_roundw
      case rel=>
       refine⟨k+1,by omega,by go_num,Lib.hid (fun i hi=> ?_),((((Env.again hE.av).af (hE.h3)).af (hE.h2)).yrd (hE.here.1.2))⟩
       by_cases e:i=k
       ·subst e;rw[<-uZ.out];exact HR.out
       ·exact HK.out i (by omega)
      case measure=>simp[intOf];omega
theorem kU {y:Yh}{w:World}(hY:y.rd w)(hbd:y.bd)(hi:y.i):Calls Tryz.prog 44 #[.agg #[.int .i64 y.b.F,.int .i64 y.b.S,.slice y.b.A y.b.n y.b.c,.bool y.b.i.s,.slice y.b.i.A y.b.i.n y.b.i.c,.bool y.b.i.t,.slice y.b.i.B y.b.i.m y.b.i.d,.int .i64 y.d.F,.int .i64 y.d.S,.slice y.d.A y.d.n y.d.c,.bool y.d.i.s,.slice y.d.i.A y.d.i.n y.d.i.c,.bool y.d.i.t,.slice y.d.i.B y.d.i.m y.d.i.d,.bool y.j.s,.slice y.j.A y.j.n y.j.c,.bool y.j.t,.slice y.j.B y.j.m y.j.d,.slice y.A y.n y.c]] w (fY (Gk y) w):=Cf hY hbd hi
theorem Np {y:Yh}{w:World}(hY:y.rd w)(hbd:y.bd)(hi:y.i)(h:Gk y):
  Calls Tryz.prog 44 #[.agg #[.int .i64 y.b.F,.int .i64 y.b.S,.slice y.b.A y.b.n y.b.c,.bool y.b.i.s,.slice y.b.i.A y.b.i.n y.b.i.c,.bool y.b.i.t,.slice y.b.i.B y.b.i.m y.b.i.d,.int .i64 y.d.F,.int .i64 y.d.S,.slice y.d.A y.d.n y.d.c,.bool y.d.i.s,.slice y.d.i.A y.d.i.n y.d.i.c,.bool y.d.i.t,.slice y.d.i.B y.d.i.m y.d.i.d,.bool y.j.s,.slice y.j.A y.j.n y.j.c,.bool y.j.t,.slice y.j.B y.j.m y.j.d,.slice y.A y.n y.c]] w fun e w'=>e= .returned (.bool true)/\Below w.heap.size w w':=
 (kU hY hbd hi).mono fun _ _ ⟨v,he,hv,hw⟩=>by obtain rfl:v=true:=hv.2 h;exact⟨he,hw⟩
end Go.Proofs.YtclbiihcbfnjmaaGreat
