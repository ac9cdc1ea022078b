/-
  Parts.
-/
import Derived.Test.YtclbiihcbfnjmaaGreatK8
import Derived.Test.YtclbiihcbfnjmaaGreatE3
import Derived.Test.YtclbiihcbfnjmaaGreatEY
set_option linter.unusedSimpArgs false
set_option maxRecDepth 100000
set_option maxHeartbeats 8000000
namespace Go.Proofs.YtclbiihcbfnjmaaGreat
open Go.RowKit

theorem pr_far {b:Bh}{E Y:Int}{w:World}{t:Nat}(_:TabM w b.A b.n b.r)(hR:b.right E Y)(ht:9223372036854775807<=t):pr (b.rt E Y) t=0:=by
 obtain⟨N,hN,hc⟩:=life_cnt 1 hR;have h1:=(Cnt.pr (v:=1) (by decide+kernel)).1 hc;have hn:=hR.1.2.1.2
 have all:∀m,pr (b.rt E Y) (N+m)=0:=fun m=>by
  induction m with
  |zero=>exact h1.1
  |succ m ih=>rw[<-Nat.add_assoc];simp only[pr];rw[ih];grind
 obtain⟨m,rfl⟩:∃m,t=N+m:=⟨t-N,by omega⟩
 exact all m
theorem egood_v {y:Yh}{x:Ct}{z a d:Int}{gy:Nat}{w:World}(hb:y.b.rd w)(hd:y.d.rd w)(hx:x.rd w)(hbb:y.b.bd)(hdb:y.d.bd)(hxb:x.bd)(hi:(Gr.mk x z a d).i)(hY:Blk 67 gy y.C.toArray w):
  Calls Tryz.prog 98 #[.agg #[.int .i64 x.E,.int .i64 x.Y,.int .i64 x.T,.bool x.p.s,.slice x.p.A x.p.n x.p.c,.bool x.p.t,.slice x.p.B x.p.m x.p.d,.slice x.A x.n x.c,.slice x.B x.m x.d,.int .i64 z,.int .i64 a,.int .i64 d],.pointer (some ⟨gy,0,none⟩)] w (BoolIff (GrOK y.b y.d ⟨x,z,a,d⟩) w):=by
 have hY1:Blk 67 gy #[.int .i64 y.b.F,.int .i64 y.b.S,.slice y.b.A y.b.n y.b.c,.bool y.b.i.s,.slice y.b.i.A y.b.i.n y.b.i.c,.bool y.b.i.t,.slice y.b.i.B y.b.i.m y.b.i.d,.int .i64 y.d.F,.int .i64 y.d.S,.slice y.d.A y.d.n y.d.c,.bool y.d.i.s,.slice y.d.i.A y.d.i.n y.d.i.c,.bool y.d.i.t,.slice y.d.i.B y.d.i.m y.d.i.d,.bool y.j.s,.slice y.j.A y.j.n y.j.c,.bool y.j.t,.slice y.j.B y.j.m y.j.d,.slice y.A y.n y.c] w:=hY;have hgy:=hY1.lt;have HhY:=Lib.hid hY1;clear hY1 hY;have hz:=hi.1;unfold i64 at hz;replace hz:-9223372036854775808<=z/\z<=9223372036854775807:=hz;have Hhb:=Lib.hid hb;clear hb;have Hhd:=Lib.hid hd;clear hd;have Hhx:=Lib.hid hx;clear hx;have Hhbb:=Lib.hid hbb;clear hbb;have Hhdb:=Lib.hid hdb;clear hdb;have Hhxb:=Lib.hid hxb;clear hxb;have hE:=((Env.start w).blkI HhY.out).blk 72 #[.int .i64 x.E,.int .i64 x.Y,.int .i64 x.T,.bool x.p.s,.slice x.p.A x.p.n x.p.c,.bool x.p.t,.slice x.p.B x.p.m x.p.d,.slice x.A x.n x.c,.slice x.B x.m x.d,.int .i64 z,.int .i64 a,.int .i64 d] (g:=w.heap.size) rfl
 obtain⟨W0,hW0⟩:∃W0,W0=(w.alloc (.cells #[.int .i64 x.E,.int .i64 x.Y,.int .i64 x.T,.bool x.p.s,.slice x.p.A x.p.n x.p.c,.bool x.p.t,.slice x.p.B x.p.m x.p.d,.slice x.A x.n x.c,.slice x.B x.m x.d,.int .i64 z,.int .i64 a,.int .i64 d] 72)):=⟨_,rfl⟩
 rw[<-hW0] at hE;have HW0:=Lib.hid hW0;clear hW0
 go_enter Tryz.func98,Tryz.ntmps98
 go_upto_region 1 with(fail)
 rw[<-HW0.out];have k1:=(hE.here.1.2).cell 0;have k2:=(hE.here.1.2).cell 1;have k3:=(hE.here.1.2).cell 2;have k4:=(hE.here.1.2).cell 3;have k5:=(hE.here.1.2).cell 4;have k6:=(hE.here.1.2).cell 5;have k7:=(hE.here.1.2).cell 6;have k8:=(hE.here.2).cell 0;have k9:=(hE.here.2).cell 1;have k10:=(hE.here.2).cell 2;have k11:=(hE.here.2).cell 3;have k12:=(hE.here.2).cell 4;have k13:=(hE.here.2).cell 5;have k14:=(hE.here.2).cell 6;have k15:=(hE.here.2).cell 7;have k16:=(hE.here.2).cell 8;go_wp2_with fail
 refine(vvalid_any (Bh.rd_below Hhb.out hE.bel) Hhbb.out (Ct.rd_below Hhx.out hE.bel) Hhxb.out).mono ?_;clear k1 k2 k3 k4 k5 k6 k7 k8 k9 k10 k11 k12 k13 k14 k15 k16
 rintro e w17 ⟨r,rfl,hr,hb⟩
 replace hE:=hE.step hb;clear hb
 cases r with
 |false=>
  have HN:=Lib.hid (show¬GrOK y.b y.d ⟨x,z,a,d⟩ from fun h=>Bool.false_ne_true (hr.2 (h.1.1)));clear hr;go_wp2_with fail
  go_ret
  exact⟨false,rfl,no_iff HN.out,hE.bel⟩
 |true=>
  have HP17:=Lib.hid (hr.1 rfl);clear hr;have k18:=(hE.here.1.2).cell 7;have k19:=(hE.here.1.2).cell 8;have k20:=(hE.here.1.2).cell 9;have k21:=(hE.here.1.2).cell 10;have k22:=(hE.here.1.2).cell 11;have k23:=(hE.here.1.2).cell 12;have k24:=(hE.here.1.2).cell 13;have k25:=(hE.here.2).cell 0;have k26:=(hE.here.2).cell 1;have k27:=(hE.here.2).cell 2;have k28:=(hE.here.2).cell 3;have k29:=(hE.here.2).cell 4;have k30:=(hE.here.2).cell 5;have k31:=(hE.here.2).cell 6;have k32:=(hE.here.2).cell 7;have k33:=(hE.here.2).cell 8;go_wp2_with fail
  refine(vvalid_any (Bh.rd_below Hhd.out hE.bel) Hhdb.out (Ct.rd_below Hhx.out hE.bel) Hhxb.out).mono ?_;clear k18 k19 k20 k21 k22 k23 k24 k25 k26 k27 k28 k29 k30 k31 k32 k33
  rintro e w34 ⟨r,rfl,hr,hb⟩
  replace hE:=hE.step hb;clear hb
  cases r with
  |false=>
   have HN:=Lib.hid (show¬GrOK y.b y.d ⟨x,z,a,d⟩ from fun h=>Bool.false_ne_true (hr.2 (h.1.2)));clear hr;go_wp2_with fail
   go_ret
   exact⟨false,rfl,no_iff HN.out,hE.bel⟩
  |true=>
   have HP34:=Lib.hid (hr.1 rfl);clear hr;have hok0:=HP17.out;have hok1:=HP34.out;have hr0:=hok0.2.1;have hr1:=hok1.2.1;have Hhok0:=Lib.hid hok0;clear hok0;have Hhok1:=Lib.hid hok1;clear hok1;have Hhr0:=Lib.hid hr0;clear hr0;have Hhr1:=Lib.hid hr1;clear hr1
   by_cases hp35:0<=z
   rotate_left 1
   ·
    have t1:decide (z<0)=true:=decide_eq_true (by omega)
    have t2:z<0:=by omega
    have HN:=Lib.hid (show¬GrOK y.b y.d ⟨x,z,a,d⟩ from fun h=>hp35 (h.2.1.1));have k36:=(hE.here.2).cell 9;go_wp2_with fail
    go_ret
    exact⟨false,rfl,no_iff HN.out,hE.bel⟩
   obtain⟨t,rfl⟩:∃t:Nat,z=(t:Int):=⟨z.toNat,by omega⟩
   have t1:decide ((t:Int)<0)=false:=decide_eq_false (by omega)
   have t2:¬(t:Int)<0:=by omega
   have k37:=(hE.here.1.2).cell 0;have k38:=(hE.here.1.2).cell 1;have k39:=(hE.here.1.2).cell 2;have k40:=(hE.here.1.2).cell 3;have k41:=(hE.here.1.2).cell 4;have k42:=(hE.here.1.2).cell 5;have k43:=(hE.here.1.2).cell 6;have k44:=(hE.here.2).cell 0;have k45:=(hE.here.2).cell 1;have k46:=(hE.here.2).cell 9;go_wp2_with fail
   refine(elives_v (Bh.rd_below Hhb.out hE.bel) Hhbb.out.1 Hhr0.out t (by omega)).mono ?_;clear k37 k38 k39 k40 k41 k42 k43 k44 k45 k46
   rintro e w47 ⟨r,rfl,hr,hb⟩
   replace hE:=hE.step hb;clear hb
   cases r with
   |false=>
    have HN:=Lib.hid (show¬GrOK y.b y.d ⟨x,(t:Int),a,d⟩ from fun h=>Bool.false_ne_true (hr.2 (h.2.1.2)));clear hr;go_wp2_with fail
    go_ret
    exact⟨false,rfl,no_iff HN.out,hE.bel⟩
   |true=>
    have HP47:=Lib.hid (hr.1 rfl);clear hr;clear t1 t2
    by_cases hp48:0<=a
    rotate_left 1
    ·
     have u0:decide (a<0)=true:=decide_eq_true (by omega)
     have u1:a<0:=by omega
     have HN:=Lib.hid (show¬GrOK y.b y.d ⟨x,(t:Int),a,d⟩ from fun h=>hp48 (h.2.2.1.1));have k49:=(hE.here.2).cell 10;have k50:=(hE.here.2).cell 11;go_wp2_with fail
     go_ret
     exact⟨false,rfl,no_iff HN.out,hE.bel⟩
    have u0:decide (a<0)=false:=decide_eq_false (by omega)
    have u1:¬a<0:=by omega
    by_cases hp51:a<=1099511627776
    rotate_left 1
    ·
     have u2:decide (1099511627776<a)=true:=decide_eq_true (by omega)
     have u3:1099511627776<a:=by omega
     have HN:=Lib.hid (show¬GrOK y.b y.d ⟨x,(t:Int),a,d⟩ from fun h=>hp51 (h.2.2.1.2.1));have k52:=(hE.here.2).cell 10;have k53:=(hE.here.2).cell 11;go_wp2_with fail
     go_ret
     exact⟨false,rfl,no_iff HN.out,hE.bel⟩
    have u2:decide (1099511627776<a)=false:=decide_eq_false (by omega)
    have u3:¬1099511627776<a:=by omega
    by_cases hp54:0<=d
    rotate_left 1
    ·
     have u4:decide (d<0)=true:=decide_eq_true (by omega)
     have u5:d<0:=by omega
     have HN:=Lib.hid (show¬GrOK y.b y.d ⟨x,(t:Int),a,d⟩ from fun h=>hp54 (h.2.2.1.2.2.1));have k55:=(hE.here.2).cell 10;have k56:=(hE.here.2).cell 11;go_wp2_with fail
     go_ret
     exact⟨false,rfl,no_iff HN.out,hE.bel⟩
    have u4:decide (d<0)=false:=decide_eq_false (by omega)
    have u5:¬d<0:=by omega
    by_cases hp57:d<=a
    rotate_left 1
    ·
     have u6:decide (a<d)=true:=decide_eq_true (by omega)
     have u7:a<d:=by omega
     have HN:=Lib.hid (show¬GrOK y.b y.d ⟨x,(t:Int),a,d⟩ from fun h=>hp57 (h.2.2.1.2.2.2));have k58:=(hE.here.2).cell 10;have k59:=(hE.here.2).cell 11;go_wp2_with fail
     go_ret
     exact⟨false,rfl,no_iff HN.out,hE.bel⟩
    have u6:decide (a<d)=false:=decide_eq_false (by omega)
    have u7:¬a<d:=by omega
    by_cases hq:d=a
    ·
     have k60:=(hE.here.2).cell 10;have k61:=(hE.here.2).cell 11;have v1:decide (d=a)=true:=decide_eq_true hq
     have v2:(d==a)=true:=by rw[hq];exact beq_self_eq_true a
     have Hq:=Lib.hid hq;clear hq;go_wp2_with fail
     go_ret
     exact⟨true,rfl,yes_iff ⟨⟨Hhok0.out,Hhok1.out⟩,⟨Int.natCast_nonneg t,HP47.out⟩,⟨hp48,hp51,hp54,hp57⟩,.inl Hq.out⟩,hE.bel⟩
    have k62:=(hE.here.1.2).cell 0;have k63:=(hE.here.1.2).cell 1;have k64:=(hE.here.1.2).cell 2;have k65:=(hE.here.1.2).cell 3;have k66:=(hE.here.1.2).cell 4;have k67:=(hE.here.1.2).cell 5;have k68:=(hE.here.1.2).cell 6;have k69:=(hE.here.2).cell 0;have k70:=(hE.here.2).cell 1;have k71:=(hE.here.2).cell 9;have k72:=(hE.here.2).cell 10;have k73:=(hE.here.2).cell 11;have v1:decide (d=a)=false:=decide_eq_false hq
    have v2:(d==a)=false:=by simpa using hq
    have Hq:=Lib.hid hq;clear hq
    have htl:t<9223372036854775807:=Nat.lt_of_not_le fun h9=>HP47.out (pr_far Hhb.out.1 Hhr0.out (by omega))
    obtain⟨u,hu⟩:∃u:Nat,u=t+1:=⟨_,rfl⟩
    have o1:IntKind.i64.wrap ((t:Int)+1)=(u:Int):=by rw[IntKind.wrap_i64];omega
    have hu64:u<=9223372036854775807:=by omega
    have Hhu:=Lib.hid hu;clear hu;go_wp2_with fail
    refine(elives_v (Bh.rd_below Hhb.out hE.bel) Hhbb.out.1 Hhr0.out u hu64).mono ?_;clear k62 k63 k64 k65 k66 k67 k68 k69 k70 k71 k72 k73
    rintro e w74 ⟨r,rfl,hr,hb⟩
    replace hE:=hE.step hb;clear hb
    cases r with
    |false=>
     have HN:=Lib.hid (show¬GrOK y.b y.d ⟨x,(t:Int),a,d⟩ from fun h=>Bool.false_ne_true (hr.2 (by rw[Hhu.out];exact(h.2.2.2.resolve_left (show¬d=a from Hq.out)).1)));clear hr;go_wp2_with fail
     go_ret
     exact⟨false,rfl,no_iff HN.out,hE.bel⟩
    |true=>
     have HP74:=Lib.hid (hr.1 rfl);clear hr;have k75:=(hE.here.1.2).cell 7;have k76:=(hE.here.1.2).cell 8;have k77:=(hE.here.1.2).cell 9;have k78:=(hE.here.1.2).cell 10;have k79:=(hE.here.1.2).cell 11;have k80:=(hE.here.1.2).cell 12;have k81:=(hE.here.1.2).cell 13;have k82:=(hE.here.2).cell 0;have k83:=(hE.here.2).cell 1;have k84:=(hE.here.2).cell 9;go_wp2_with fail
     refine(elives_v (Bh.rd_below Hhd.out hE.bel) Hhdb.out.1 Hhr1.out u hu64).mono ?_;clear k75 k76 k77 k78 k79 k80 k81 k82 k83 k84
     rintro e w99 ⟨r,rfl,hr,hb⟩
     replace hE:=hE.step hb;have HR:=Lib.hid hr;clear hb hr;go_wp2_with fail
     go_ret
     have h4:=HP74.out;have h5:=HR.out;rw[Hhu.out] at h4 h5;exact⟨r,rfl,⟨fun h=>⟨⟨Hhok0.out,Hhok1.out⟩,⟨Int.natCast_nonneg t,HP47.out⟩,⟨hp48,hp51,hp54,hp57⟩,.inr ⟨h4,h5.1 h⟩⟩,fun h=>h5.2 (h.2.2.2.resolve_left (show¬d=a from Hq.out)).2⟩,hE.bel⟩
theorem evalid1_any {yb yd:Bh}{yj:FH}{yA:Option Addr}{yn yc:Nat}{yr:Nat->Gr}{w:World}(hY:(Yh.mk yb yd yj yA yn yc yr).rd w)(hbd:(Yh.mk yb yd yj yA yn yc yr).bd)(hi:(Yh.mk yb yd yj yA yn yc yr).i):
  Calls Tryz.prog 44 #[.agg #[.int .i64 yb.F,.int .i64 yb.S,.slice yb.A yb.n yb.c,.bool yb.i.s,.slice yb.i.A yb.i.n yb.i.c,.bool yb.i.t,.slice yb.i.B yb.i.m yb.i.d,.int .i64 yd.F,.int .i64 yd.S,.slice yd.A yd.n yd.c,.bool yd.i.s,.slice yd.i.A yd.i.n yd.i.c,.bool yd.i.t,.slice yd.i.B yd.i.m yd.i.d,.bool yj.s,.slice yj.A yj.n yj.c,.bool yj.t,.slice yj.B yj.m yj.d,.slice yA yn yc]] w (BoolIff (YOK (Yh.mk yb yd yj yA yn yc yr)) w):=by
 have HhY:=Lib.hid hY;clear hY;have Hhbd:=Lib.hid hbd;clear hbd;have Hhi:=Lib.hid hi;clear hi;have hE:=(Env.start w).blk 67 #[.int .i64 yb.F,.int .i64 yb.S,.slice yb.A yb.n yb.c,.bool yb.i.s,.slice yb.i.A yb.i.n yb.i.c,.bool yb.i.t,.slice yb.i.B yb.i.m yb.i.d,.int .i64 yd.F,.int .i64 yd.S,.slice yd.A yd.n yd.c,.bool yd.i.s,.slice yd.i.A yd.i.n yd.i.c,.bool yd.i.t,.slice yd.i.B yd.i.m yd.i.d,.bool yj.s,.slice yj.A yj.n yj.c,.bool yj.t,.slice yj.B yj.m yj.d,.slice yA yn yc] (g:=w.heap.size) rfl
 obtain⟨W0,hW0⟩:∃W0,W0=(w.alloc (.cells #[.int .i64 yb.F,.int .i64 yb.S,.slice yb.A yb.n yb.c,.bool yb.i.s,.slice yb.i.A yb.i.n yb.i.c,.bool yb.i.t,.slice yb.i.B yb.i.m yb.i.d,.int .i64 yd.F,.int .i64 yd.S,.slice yd.A yd.n yd.c,.bool yd.i.s,.slice yd.i.A yd.i.n yd.i.c,.bool yd.i.t,.slice yd.i.B yd.i.m yd.i.d,.bool yj.s,.slice yj.A yj.n yj.c,.bool yj.t,.slice yj.B yj.m yj.d,.slice yA yn yc] 67)):=⟨_,rfl⟩
 rw[<-hW0] at hE;have HW0:=Lib.hid hW0;clear hW0
 go_enter Tryz.func44,Tryz.ntmps44
 go_upto_region 1 with(fail)
 rw[<-HW0.out]
 by_cases hp1:yn<=32
 rotate_left 1
 ·
  have t1:decide (32<(yn:Int))=true:=decide_eq_true (by omega)
  have t2:32<(yn:Int):=by omega
  have HN:=Lib.hid (show¬YOK (Yh.mk yb yd yj yA yn yc yr) from fun h=>hp1 (h.1));have k2:=(hE.here.2).cell 18;go_wp2_with fail
  go_ret
  exact⟨false,rfl,no_iff HN.out,hE.bel⟩
 have t1:decide (32<(yn:Int))=false:=decide_eq_false (by omega)
 have t2:¬32<(yn:Int):=by omega
 have k3:=(hE.here.2).cell 0;have k4:=(hE.here.2).cell 1;have k5:=(hE.here.2).cell 2;have k6:=(hE.here.2).cell 3;have k7:=(hE.here.2).cell 4;have k8:=(hE.here.2).cell 5;have k9:=(hE.here.2).cell 6;have k10:=(hE.here.2).cell 18;go_wp2_with fail
 refine(cvalid_any yb.F yb.S yb.A yb.n yb.c yb.r yb.i.s yb.i.t yb.i.A yb.i.B yb.i.n yb.i.m yb.i.c yb.i.d yb.i.f yb.i.g _ (Yh.rd_below HhY.out hE.bel).1.1 Hhbd.out.1.1 (Yh.rd_below HhY.out hE.bel).1.2 Hhbd.out.1.2.1 Hhbd.out.1.2.2).mono ?_;clear k3 k4 k5 k6 k7 k8 k9 k10
 rintro e w11 ⟨r,rfl,hr,hb⟩
 replace hE:=hE.step hb;clear hb
 cases r with
 |false=>
  have HN:=Lib.hid (show¬YOK (Yh.mk yb yd yj yA yn yc yr) from fun h=>Bool.false_ne_true (hr.2 (h.2.1)));clear hr;go_wp2_with fail
  go_ret
  exact⟨false,rfl,no_iff HN.out,hE.bel⟩
 |true=>
  have HP11:=Lib.hid (hr.1 rfl);clear hr;have k12:=(hE.here.2).cell 7;have k13:=(hE.here.2).cell 8;have k14:=(hE.here.2).cell 9;have k15:=(hE.here.2).cell 10;have k16:=(hE.here.2).cell 11;have k17:=(hE.here.2).cell 12;have k18:=(hE.here.2).cell 13;go_wp2_with fail
  refine(cvalid_any yd.F yd.S yd.A yd.n yd.c yd.r yd.i.s yd.i.t yd.i.A yd.i.B yd.i.n yd.i.m yd.i.c yd.i.d yd.i.f yd.i.g _ (Yh.rd_below HhY.out hE.bel).2.1.1 Hhbd.out.2.1.1 (Yh.rd_below HhY.out hE.bel).2.1.2 Hhbd.out.2.1.2.1 Hhbd.out.2.1.2.2).mono ?_;clear k12 k13 k14 k15 k16 k17 k18
  rintro e w19 ⟨r,rfl,hr,hb⟩
  replace hE:=hE.step hb;clear hb
  cases r with
  |false=>
   have HN:=Lib.hid (show¬YOK (Yh.mk yb yd yj yA yn yc yr) from fun h=>Bool.false_ne_true (hr.2 (h.2.2.1)));clear hr;go_wp2_with fail
   go_ret
   exact⟨false,rfl,no_iff HN.out,hE.bel⟩
  |true=>
   have HP19:=Lib.hid (hr.1 rfl);clear hr;have k20:=(hE.here.2).cell 14;have k21:=(hE.here.2).cell 15;have k22:=(hE.here.2).cell 16;have k23:=(hE.here.2).cell 17
   go_upto_region 4 with(fail)
   clear k20 k21 k22 k23;clear t1 t2
   obtain⟨g24,hg24⟩:∃g24,g24=w19.heap.size:=⟨_,rfl⟩
   have hl24_0:w.heap.size<g24:=by rw[hg24];exact(hE.here.2).lt
   replace hE:=hE.blk 29 (qf4 yj.s yj.A yj.n yj.c yj.t yj.B yj.m yj.d) (g:=g24) hg24.symm;generalize w19.alloc (.cells (qf4 yj.s yj.A yj.n yj.c yj.t yj.B yj.m yj.d) 29)=W24 at hE⊢;rw[<-hg24];clear hg24;obtain⟨k25,k26,k27,k28⟩:=(hE.here.2).c4;go_wp2_with fail
   cases hv:okF yj.s yj.n yj.f yj.t yj.m yj.g with
   |false=>
    have HN:=Lib.hid (show¬YOK (Yh.mk yb yd yj yA yn yc yr) from fun h=>Bool.false_ne_true (hv.symm.trans h.2.2.2.1.1));refine(fvalid_r yj.s yj.t yj.A yj.B yj.n yj.m yj.c yj.d yj.f yj.g _ (Yh.rd_below HhY.out hE.bel).2.2.1 Hhbd.out.2.2.1.1 Hhbd.out.2.2.1.2 false hv).mono ?_;clear k25 k26 k27 k28
    rintro e w29 ⟨rfl,hb⟩
    replace hE:=hE.step hb;clear hb hv;go_wp2_with fail
    go_ret
    exact⟨false,rfl,no_iff HN.out,hE.bel⟩
   |true=>
    refine(fvalid_r yj.s yj.t yj.A yj.B yj.n yj.m yj.c yj.d yj.f yj.g _ (Yh.rd_below HhY.out hE.bel).2.2.1 Hhbd.out.2.2.1.1 Hhbd.out.2.2.1.2 true hv).mono ?_;clear k25 k26 k27 k28
    rintro e w29 ⟨rfl,hb⟩
    replace hE:=hE.step hb;have HV:=Lib.hid hv;clear hb hv
    by_cases hs:yj.s=true
    ·
     have HN:=Lib.hid (show¬YOK (Yh.mk yb yd yj yA yn yc yr) from fun h=>Bool.false_ne_true (h.2.2.2.1.2.1.symm.trans hs));have k30:=(hE.here.2).cell 0;go_wp2_with fail
     go_ret
     exact⟨false,rfl,no_iff HN.out,hE.bel⟩
    replace hs:yj.s=false:=by simpa using hs
    by_cases hp31:yj.n<=1
    rotate_left 1
    ·
     have t1:decide (1<(yj.n:Int))=true:=decide_eq_true (by omega)
     have t2:1<(yj.n:Int):=by omega
     have HN:=Lib.hid (show¬YOK (Yh.mk yb yd yj yA yn yc yr) from fun h=>hp31 (h.2.2.2.1.2.2.1));have k32:=(hE.here.2).cell 0;have k33:=(hE.here.2).cell 1;go_wp2_with fail
     go_ret
     exact⟨false,rfl,no_iff HN.out,hE.bel⟩
    have t1:decide (1<(yj.n:Int))=false:=decide_eq_false (by omega)
    have t2:¬1<(yj.n:Int):=by omega
    by_cases hp34:yj.m<=1
    rotate_left 1
    ·
     have t3:decide (1<(yj.m:Int))=true:=decide_eq_true (by omega)
     have t4:1<(yj.m:Int):=by omega
     have HN:=Lib.hid (show¬YOK (Yh.mk yb yd yj yA yn yc yr) from fun h=>hp34 (h.2.2.2.1.2.2.2));have k35:=(hE.here.2).cell 0;have k36:=(hE.here.2).cell 1;have k37:=(hE.here.2).cell 3;go_wp2_with fail
     go_ret
     exact⟨false,rfl,no_iff HN.out,hE.bel⟩
    have t3:decide (1<(yj.m:Int))=false:=decide_eq_false (by omega)
    have t4:¬1<(yj.m:Int):=by omega
    have k38:=(hE.here.2).cell 0;have k39:=(hE.here.2).cell 1;have k40:=(hE.here.2).cell 3;have k41:=(hE.here.1.2).cell 18;go_wp2_with fail
    clear k38 k39 k40 k41;clear t1 t2 t3 t4;have HJ:Hid (JOK yj):=Lib.hid ⟨HV.out,hs,hp31,hp34⟩;clear HV hs hp31 hp34;replace hE:=hE.yrd (Yh.rd_below HhY.out hE.bel)
    go_loopw [51] (fun p wr=>∃k:Nat,k<=yn/\p= .int .i64 (k:Int)/\Hid (∀j,j<k->GrOK yb yd (yr j))/\Env w (fun V=>(((True/\Blk 67 (w.heap.size) #[.int .i64 yb.F,.int .i64 yb.S,.slice yb.A yb.n yb.c,.bool yb.i.s,.slice yb.i.A yb.i.n yb.i.c,.bool yb.i.t,.slice yb.i.B yb.i.m yb.i.d,.int .i64 yd.F,.int .i64 yd.S,.slice yd.A yd.n yd.c,.bool yd.i.s,.slice yd.i.A yd.i.n yd.i.c,.bool yd.i.t,.slice yd.i.B yd.i.m yd.i.d,.bool yj.s,.slice yj.A yj.n yj.c,.bool yj.t,.slice yj.B yj.m yj.d,.slice yA yn yc] V)/\Blk 29 (g24) (qf4 yj.s yj.A yj.n yj.c yj.t yj.B yj.m yj.d) V)/\Yh.rd (Yh.mk yb yd yj yA yn yc yr) V)) wr) (fun p _=>yn-(intOf p).toNat)
    case atStart=>exact⟨0,Nat.zero_le _,rfl,Lib.hid (fun j hj=>absurd hj (Nat.not_lt_zero j)),((((Env.again hE.bel).blkI (hE.h2)).blkI (hE.here.1.2)).yrd (hE.here.2))⟩
    case round=>
     clear hE;obtain⟨k,hk,rfl,HK,hE⟩:=hrel
     by_cases hlt:k<yn
     rotate_left
     ·
      have hkn:k=yn:=by omega
      have t1:decide ((k:Int)<(yn:Int))=false:=decide_eq_false (by omega)
      have t2:¬(k:Int)<(yn:Int):=by omega
      have HK2:Hid (∀j,j<yn->GrOK yb yd (yr j)):=Lib.hid (by rw[<-hkn];exact HK.out);clear HK hkn;go_wp2_with fail
      go_ret
      exact⟨true,rfl,yes_iff ⟨hp1,HP11.out,HP19.out,HJ.out,HK2.out⟩,hE.bel⟩
     have hgm:GrM yA yn yr wr:=(hE.here.2).2.2.2;obtain⟨b,o,rfl,hbl,hc⟩:=hgm (by omega);clear hgm
     obtain⟨⟨x,z,a,d⟩,hg⟩:∃g,g=yr k:=⟨_,rfl⟩
     obtain⟨hra,hrx⟩:=hc k hlt;rw[<-hg] at hra hrx;have hxi:(yr k).i:=Hhi.out k hlt;have hxd:(yr k).x.bd:=Hhbd.out.2.2.2 k hlt;rw[<-hg] at hxi hxd;have t1:decide ((k:Int)<(yn:Int))=true:=decide_eq_true (by omega)
     have t2:(k:Int)<(yn:Int):=by omega
     have d0:wr.cell? ⟨b,o+k*12,none⟩=some (.int .i64 x.E):=hra 0 _ rfl;have d1:wr.cell? ⟨b,o+k*12+1,none⟩=some (.int .i64 x.Y):=hra 1 _ rfl;have d2:wr.cell? ⟨b,o+k*12+2,none⟩=some (.int .i64 x.T):=hra 2 _ rfl;have d3:wr.cell? ⟨b,o+k*12+3,none⟩=some (.bool x.p.s):=hra 3 _ rfl;have d4:wr.cell? ⟨b,o+k*12+4,none⟩=some (.slice x.p.A x.p.n x.p.c):=hra 4 _ rfl;have d5:wr.cell? ⟨b,o+k*12+5,none⟩=some (.bool x.p.t):=hra 5 _ rfl;have d6:wr.cell? ⟨b,o+k*12+6,none⟩=some (.slice x.p.B x.p.m x.p.d):=hra 6 _ rfl;have d7:wr.cell? ⟨b,o+k*12+7,none⟩=some (.slice x.A x.n x.c):=hra 7 _ rfl;have d8:wr.cell? ⟨b,o+k*12+8,none⟩=some (.slice x.B x.m x.d):=hra 8 _ rfl;have d9:wr.cell? ⟨b,o+k*12+9,none⟩=some (.int .i64 z):=hra 9 _ rfl;have d10:wr.cell? ⟨b,o+k*12+10,none⟩=some (.int .i64 a):=hra 10 _ rfl;have d11:wr.cell? ⟨b,o+k*12+11,none⟩=some (.int .i64 d):=hra 11 _ rfl;have Hhg:=Lib.hid hg;clear hg;have Hhxi:=Lib.hid hxi;clear hxi;have Hhxd:=Lib.hid hxd;clear hxd;clear hra hrx hc
     go_upto_region 10 with(fail)
     clear d0 d1 d2 d3 d4 d5 d6 d7 d8 d9 d10 d11 t1
     obtain⟨g42,hg42⟩:∃g42,g42=wr.heap.size:=⟨_,rfl⟩
     have hl42_0:w.heap.size<g42:=by rw[hg42];exact(hE.h2).lt
     have hl42_1:g24<g42:=by rw[hg42];exact(hE.here.1.2).lt
     replace hE:=hE.blk 72 #[.int .i64 x.E,.int .i64 x.Y,.int .i64 x.T,.bool x.p.s,.slice x.p.A x.p.n x.p.c,.bool x.p.t,.slice x.p.B x.p.m x.p.d,.slice x.A x.n x.c,.slice x.B x.m x.d,.int .i64 z,.int .i64 a,.int .i64 d] (g:=g42) hg42.symm;generalize wr.alloc (.cells #[.int .i64 x.E,.int .i64 x.Y,.int .i64 x.T,.bool x.p.s,.slice x.p.A x.p.n x.p.c,.bool x.p.t,.slice x.p.B x.p.m x.p.d,.slice x.A x.n x.c,.slice x.B x.m x.d,.int .i64 z,.int .i64 a,.int .i64 d] 72)=W42 at hE⊢;rw[<-hg42];clear hg42;have k43:=(hE.here.2).cell 0;have k44:=(hE.here.2).cell 1;have k45:=(hE.here.2).cell 2;have k46:=(hE.here.2).cell 3;have k47:=(hE.here.2).cell 4;have k48:=(hE.here.2).cell 5;have k49:=(hE.here.2).cell 6;have k50:=(hE.here.2).cell 7;have k51:=(hE.here.2).cell 8;have k52:=(hE.here.2).cell 9;have k53:=(hE.here.2).cell 10;have k54:=(hE.here.2).cell 11;go_wp2_with fail
     refine(egood_v (y:=(Yh.mk yb yd yj (some ⟨b,o,none⟩) yn yc yr)) (hE.here.1.2).1 (hE.here.1.2).2.1 (by have h9:(yr k).x.rd _:=GrM.rd (hE.here.1.2).2.2.2 hlt;rw[<-Hhg.out] at h9;exact h9) Hhbd.out.1 Hhbd.out.2.1 Hhxd.out Hhxi.out (hE.h3)).mono ?_;clear k43 k44 k45 k46 k47 k48 k49 k50 k51 k52 k53 k54
     rintro e w77 ⟨r,rfl,hr,hb⟩
     replace hE:=hE.step hb;clear hb
     cases r with
     |false=>
      have HN:=Lib.hid (show¬YOK (Yh.mk yb yd yj (some ⟨b,o,none⟩) yn yc yr) from fun h=>Bool.false_ne_true (hr.2 (by rw[Hhg.out];exact h.2.2.2.2 k hlt)));clear hr;go_wp2_with fail
      go_ret
      exact⟨false,rfl,no_iff HN.out,hE.bel⟩
     |true=>
      have HR:=Lib.hid (hr.1 rfl);clear hr;go_wp2_with fail
      go_roundw
      case rel=>
       refine⟨k+1,by omega,by go_num,Lib.hid (fun i hi=> ?_),((((Env.again hE.bel).blkI (hE.h3)).blkI (hE.h2)).yrd (hE.here.1.2))⟩
       by_cases e:i=k
       ·subst e;rw[<-Hhg.out];exact HR.out
       ·exact HK.out i (by omega)
      case measure=>simp[intOf];omega
theorem evalid_any {y:Yh}{w:World}(hY:y.rd w)(hbd:y.bd)(hi:y.i):Calls Tryz.prog 44 #[.agg #[.int .i64 y.b.F,.int .i64 y.b.S,.slice y.b.A y.b.n y.b.c,.bool y.b.i.s,.slice y.b.i.A y.b.i.n y.b.i.c,.bool y.b.i.t,.slice y.b.i.B y.b.i.m y.b.i.d,.int .i64 y.d.F,.int .i64 y.d.S,.slice y.d.A y.d.n y.d.c,.bool y.d.i.s,.slice y.d.i.A y.d.i.n y.d.i.c,.bool y.d.i.t,.slice y.d.i.B y.d.i.m y.d.i.d,.bool y.j.s,.slice y.j.A y.j.n y.j.c,.bool y.j.t,.slice y.j.B y.j.m y.j.d,.slice y.A y.n y.c]] w (BoolIff (YOK y) w):=evalid1_any hY hbd hi
theorem evalid_t {y:Yh}{w:World}(hY:y.rd w)(hbd:y.bd)(hi:y.i)(h:YOK y):
  Calls Tryz.prog 44 #[.agg #[.int .i64 y.b.F,.int .i64 y.b.S,.slice y.b.A y.b.n y.b.c,.bool y.b.i.s,.slice y.b.i.A y.b.i.n y.b.i.c,.bool y.b.i.t,.slice y.b.i.B y.b.i.m y.b.i.d,.int .i64 y.d.F,.int .i64 y.d.S,.slice y.d.A y.d.n y.d.c,.bool y.d.i.s,.slice y.d.i.A y.d.i.n y.d.i.c,.bool y.d.i.t,.slice y.d.i.B y.d.i.m y.d.i.d,.bool y.j.s,.slice y.j.A y.j.n y.j.c,.bool y.j.t,.slice y.j.B y.j.m y.j.d,.slice y.A y.n y.c]] w fun e w'=>e= .returned (.bool true)/\Below w.heap.size w w':=
 (evalid_any hY hbd hi).mono fun _ _ ⟨v,he,hv,hw⟩=>by obtain rfl:v=true:=hv.2 h;exact⟨he,hw⟩
end Go.Proofs.YtclbiihcbfnjmaaGreat
