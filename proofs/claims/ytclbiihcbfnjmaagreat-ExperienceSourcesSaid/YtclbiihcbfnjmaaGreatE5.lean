/-
  Parts.
-/
import Derived.Test.YtclbiihcbfnjmaaGreatE3
import Derived.Test.YtclbiihcbfnjmaaGreatEY
set_option linter.unusedSimpArgs false
set_option maxRecDepth 100000
set_option maxHeartbeats 8000000
namespace Go.Proofs.YtclbiihcbfnjmaaGreat
open Go.RowKit

theorem acV {b:Bh}{E Y:Int}{w:World}{t:Nat}(_:eZ w b.A b.n b.r)(hR:b.right E Y)(ht:9223372036854775807<=t):pr (b.rt E Y) t=0:=by
 obtain⟨N,hN,hc⟩:=vI 1 hR;have h1:=(lT.pr (v:=1) (by decide+kernel)).1 hc;have hn:=hR.1.2.1.2
 have all:∀m,pr (b.rt E Y) (N+m)=0:=fun m=>by
  induction m with
  |zero=>exact h1.1
  |succ m ih=>rw[<-Nat.add_assoc];simp only[pr];rw[ih];grind
 obtain⟨m,rfl⟩:∃m,t=N+m:=⟨t-N,by omega⟩
 exact all m
theorem Wi {y:Yh}{x:Ct}{z a d:Int}{gy:Nat}{w:World}(hb:y.b.rd w)(hd:y.d.rd w)(hx:x.rd w)(nS:y.b.bd)(hdb:y.d.bd)(jw:x.bd)(hi:(Gr.mk x z a d).i)(hY:au 67 gy y.C.toArray w):
  Calls Tryz.prog 98 #[.agg #[.int .i64 x.E,.int .i64 x.Y,.int .i64 x.T,.bool x.p.s,.slice x.p.A x.p.n x.p.c,.bool x.p.t,.slice x.p.B x.p.m x.p.d,.slice x.A x.n x.c,.slice x.B x.m x.d,.int .i64 z,.int .i64 a,.int .i64 d],.pointer (some ⟨gy,0,none⟩)] w (js (pX y.b y.d ⟨x,z,a,d⟩) w):=by
 have hY1:au 67 gy #[.int .i64 y.b.F,.int .i64 y.b.S,.slice y.b.A y.b.n y.b.c,.bool y.b.i.s,.slice y.b.i.A y.b.i.n y.b.i.c,.bool y.b.i.t,.slice y.b.i.B y.b.i.m y.b.i.d,.int .i64 y.d.F,.int .i64 y.d.S,.slice y.d.A y.d.n y.d.c,.bool y.d.i.s,.slice y.d.i.A y.d.i.n y.d.i.c,.bool y.d.i.t,.slice y.d.i.B y.d.i.m y.d.i.d,.bool y.j.s,.slice y.j.A y.j.n y.j.c,.bool y.j.t,.slice y.j.B y.j.m y.j.d,.slice y.A y.n y.c] w:=hY;have hgy:=hY1.lt;have AH:=af hY1;clear hY1 hY;have hz:=hi.1;unfold i64 at hz;replace hz:-9223372036854775808<=z/\z<=9223372036854775807:=hz;have kX:=af hb;clear hb;have Hhd:=af hd;clear hd;have og:=af hx;clear hx;have iy:=af nS;clear nS;have VT:=af hdb;clear hdb;have iI:=af jw;clear jw;have hE:=((Env.start w).ag AH.out).blk 72 #[.int .i64 x.E,.int .i64 x.Y,.int .i64 x.T,.bool x.p.s,.slice x.p.A x.p.n x.p.c,.bool x.p.t,.slice x.p.B x.p.m x.p.d,.slice x.A x.n x.c,.slice x.B x.m x.d,.int .i64 z,.int .i64 a,.int .i64 d] (g:=w.heap.size) rfl
 obtain⟨W0,aC⟩:∃W0,W0=(w.alloc (.cells #[.int .i64 x.E,.int .i64 x.Y,.int .i64 x.T,.bool x.p.s,.slice x.p.A x.p.n x.p.c,.bool x.p.t,.slice x.p.B x.p.m x.p.d,.slice x.A x.n x.c,.slice x.B x.m x.d,.int .i64 z,.int .i64 a,.int .i64 d] 72)):=⟨_,rfl⟩
 rw[<-aC] at hE;have aZ:=af aC;clear aC
 go_enter Tryz.func98,Tryz.ntmps98
 go_upto_region 1 with(fail)
 rw[<-aZ.out];have k1:=(hE.g1).cell 0;have k2:=(hE.g1).cell 1;have k3:=(hE.g1).cell 2;have k4:=(hE.g1).cell 3;have k5:=(hE.g1).cell 4;have k6:=(hE.g1).cell 5;have k7:=(hE.g1).cell 6;have k8:=(hE.g0).cell 0;have k9:=(hE.g0).cell 1;have fU:=(hE.g0).cell 2;have dX:=(hE.g0).cell 3;have dY:=(hE.g0).cell 4;have eu:=(hE.g0).cell 5;have eF:=(hE.g0).cell 6;have iA:=(hE.g0).cell 7;have kz:=(hE.g0).cell 8;go_wp2_with fail
 refine(pY (Bh.aN kX.out hE.ax) iy.out (Ct.aN og.out hE.ax) iI.out).mono ?_;clear k1 k2 k3 k4 k5 k6 k7 k8 k9 fU dX dY eu eF iA kz
 rintro e Gc ⟨r,rfl,hr,hb⟩
 replace hE:=hE.step hb;clear hb
 cases r with
 |false=>
  have HN:=af (show¬pX y.b y.d ⟨x,z,a,d⟩ from fun h=>gS (hr.2 (h.1.1)));clear hr;go_wp2_with fail
  go_ret
  exact⟨false,rfl,bQ HN.out,hE.ax⟩
 |true=>
  have anP:=af (hr.1 rfl);clear hr;have jS:=(hE.g1).cell 7;have kT:=(hE.g1).cell 8;have kB:=(hE.g1).cell 9;have lV:=(hE.g1).cell 10;have lW:=(hE.g1).cell 11;have nC:=(hE.g1).cell 12;have rP:=(hE.g1).cell 13;have pU:=(hE.g0).cell 0;have nQ:=(hE.g0).cell 1;have qH:=(hE.g0).cell 2;have pM:=(hE.g0).cell 3;have Fy:=(hE.g0).cell 4;have wW:=(hE.g0).cell 5;have uG:=(hE.g0).cell 6;have tC:=(hE.g0).cell 7;have tD:=(hE.g0).cell 8;go_wp2_with fail
  refine(pY (Bh.aN Hhd.out hE.ax) VT.out (Ct.aN og.out hE.ax) iI.out).mono ?_;clear jS kT kB lV lW nC rP pU nQ qH pM Fy wW uG tC tD
  rintro e CA ⟨r,rfl,hr,hb⟩
  replace hE:=hE.step hb;clear hb
  cases r with
  |false=>
   have HN:=af (show¬pX y.b y.d ⟨x,z,a,d⟩ from fun h=>gS (hr.2 (h.1.2)));clear hr;go_wp2_with fail
   go_ret
   exact⟨false,rfl,bQ HN.out,hE.ax⟩
  |true=>
   have anQ:=af (hr.1 rfl);clear hr;have ux:=anP.out;have KR:=anQ.out;have Jc:=ux.2.1;have FB:=KR.2.1;have CS:=af ux;clear ux;have ID:=af KR;clear KR;have acW:=af Jc;clear Jc;have anR:=af FB;clear FB
   by_cases Wj:0<=z
   rotate_left 1
   ·
    have t1:decide (z<0)=true:=aL (by omega)
    have t2:z<0:=by omega
    have HN:=af (show¬pX y.b y.d ⟨x,z,a,d⟩ from fun h=>Wj (h.2.1.1));have KN:=(hE.g0).cell 9;go_wp2_with fail
    go_ret
    exact⟨false,rfl,bQ HN.out,hE.ax⟩
   obtain⟨t,rfl⟩:∃t:Nat,z=(t:Int):=⟨z.toNat,by omega⟩
   have t1:decide ((t:Int)<0)=false:=aH (by omega)
   have t2:¬(t:Int)<0:=by omega
   have Cp:=(hE.g1).cell 0;have xj:=(hE.g1).cell 1;have xP:=(hE.g1).cell 2;have Cq:=(hE.g1).cell 3;have Fz:=(hE.g1).cell 4;have Iw:=(hE.g1).cell 5;have zl:=(hE.g1).cell 6;have CC:=(hE.g0).cell 0;have zm:=(hE.g0).cell 1;have CM:=(hE.g0).cell 9;go_wp2_with fail
   refine(vo (Bh.aN kX.out hE.ax) iy.out.1 acW.out t (by omega)).mono ?_;clear Cp xj xP Cq Fz Iw zl CC zm CM
   rintro e w47 ⟨r,rfl,hr,hb⟩
   replace hE:=hE.step hb;clear hb
   cases r with
   |false=>
    have HN:=af (show¬pX y.b y.d ⟨x,(t:Int),a,d⟩ from fun h=>gS (hr.2 (h.2.1.2)));clear hr;go_wp2_with fail
    go_ret
    exact⟨false,rfl,bQ HN.out,hE.ax⟩
   |true=>
    have acX:=af (hr.1 rfl);clear hr;clear t1 t2
    by_cases acY:0<=a
    rotate_left 1
    ·
     have u0:decide (a<0)=true:=aL (by omega)
     have u1:a<0:=by omega
     have HN:=af (show¬pX y.b y.d ⟨x,(t:Int),a,d⟩ from fun h=>acY (h.2.2.1.1));have MB:=(hE.g0).cell 10;have TH:=(hE.g0).cell 11;go_wp2_with fail
     go_ret
     exact⟨false,rfl,bQ HN.out,hE.ax⟩
    have u0:decide (a<0)=false:=aH (by omega)
    have u1:¬a<0:=by omega
    by_cases acZ:a<=1099511627776
    rotate_left 1
    ·
     have u2:decide (1099511627776<a)=true:=aL (by omega)
     have u3:1099511627776<a:=by omega
     have HN:=af (show¬pX y.b y.d ⟨x,(t:Int),a,d⟩ from fun h=>acZ (h.2.2.1.2.1));have TI:=(hE.g0).cell 10;have Zb:=(hE.g0).cell 11;go_wp2_with fail
     go_ret
     exact⟨false,rfl,bQ HN.out,hE.ax⟩
    have u2:decide (1099511627776<a)=false:=aH (by omega)
    have u3:¬1099511627776<a:=by omega
    by_cases ac0:0<=d
    rotate_left 1
    ·
     have u4:decide (d<0)=true:=aL (by omega)
     have u5:d<0:=by omega
     have HN:=af (show¬pX y.b y.d ⟨x,(t:Int),a,d⟩ from fun h=>ac0 (h.2.2.1.2.2.1));have k55:=(hE.g0).cell 10;have k56:=(hE.g0).cell 11;go_wp2_with fail
     go_ret
     exact⟨false,rfl,bQ HN.out,hE.ax⟩
    have u4:decide (d<0)=false:=aH (by omega)
    have u5:¬d<0:=by omega
    by_cases ac1:d<=a
    rotate_left 1
    ·
     have u6:decide (a<d)=true:=aL (by omega)
     have u7:a<d:=by omega
     have HN:=af (show¬pX y.b y.d ⟨x,(t:Int),a,d⟩ from fun h=>ac1 (h.2.2.1.2.2.2));have k58:=(hE.g0).cell 10;have k59:=(hE.g0).cell 11;go_wp2_with fail
     go_ret
     exact⟨false,rfl,bQ HN.out,hE.ax⟩
    have u6:decide (a<d)=false:=aH (by omega)
    have u7:¬a<d:=by omega
    by_cases hq:d=a
    ·
     have k60:=(hE.g0).cell 10;have k61:=(hE.g0).cell 11;have v1:decide (d=a)=true:=aL hq
     have v2:(d==a)=true:=by rw[hq];exact beq_self_eq_true a
     have Hq:=af hq;clear hq;go_wp2_with fail
     go_ret
     exact⟨true,rfl,uO ⟨⟨CS.out,ID.out⟩,⟨Int.natCast_nonneg t,acX.out⟩,⟨acY,acZ,ac0,ac1⟩,.inl Hq.out⟩,hE.ax⟩
    have k62:=(hE.g1).cell 0;have k63:=(hE.g1).cell 1;have k64:=(hE.g1).cell 2;have k65:=(hE.g1).cell 3;have k66:=(hE.g1).cell 4;have k67:=(hE.g1).cell 5;have k68:=(hE.g1).cell 6;have k69:=(hE.g0).cell 0;have k70:=(hE.g0).cell 1;have k71:=(hE.g0).cell 9;have k72:=(hE.g0).cell 10;have k73:=(hE.g0).cell 11;have v1:decide (d=a)=false:=aH hq
    have v2:(d==a)=false:=by simpa using hq
    have Hq:=af hq;clear hq
    have htl:t<9223372036854775807:=Nat.lt_of_not_le fun h9=>acX.out (acV kX.out.1 acW.out (by omega))
    obtain⟨u,hu⟩:∃u:Nat,u=t+1:=⟨_,rfl⟩
    have o1:IntKind.i64.wrap ((t:Int)+1)=(u:Int):=by rw[cL];omega
    have OC:u<=9223372036854775807:=by omega
    have Hhu:=af hu;clear hu;go_wp2_with fail
    refine(vo (Bh.aN kX.out hE.ax) iy.out.1 acW.out u OC).mono ?_;clear k62 k63 k64 k65 k66 k67 k68 k69 k70 k71 k72 k73
    rintro e w74 ⟨r,rfl,hr,hb⟩
    replace hE:=hE.step hb;clear hb
    cases r with
    |false=>
     have HN:=af (show¬pX y.b y.d ⟨x,(t:Int),a,d⟩ from fun h=>gS (hr.2 (by rw[Hhu.out];exact(h.2.2.2.resolve_left (show¬d=a from Hq.out)).1)));clear hr;go_wp2_with fail
     go_ret
     exact⟨false,rfl,bQ HN.out,hE.ax⟩
    |true=>
     have anS:=af (hr.1 rfl);clear hr;have k75:=(hE.g1).cell 7;have k76:=(hE.g1).cell 8;have k77:=(hE.g1).cell 9;have k78:=(hE.g1).cell 10;have k79:=(hE.g1).cell 11;have k80:=(hE.g1).cell 12;have k81:=(hE.g1).cell 13;have k82:=(hE.g0).cell 0;have k83:=(hE.g0).cell 1;have k84:=(hE.g0).cell 9;go_wp2_with fail
     refine(vo (Bh.aN Hhd.out hE.ax) VT.out.1 anR.out u OC).mono ?_;clear k75 k76 k77 k78 k79 k80 k81 k82 k83 k84
     rintro e w99 ⟨r,rfl,hr,hb⟩
     replace hE:=hE.step hb;have HR:=af hr;clear hb hr;go_wp2_with fail
     go_ret
     have h4:=anS.out;have h5:=HR.out;rw[Hhu.out] at h4 h5;exact⟨r,rfl,⟨fun h=>⟨⟨CS.out,ID.out⟩,⟨Int.natCast_nonneg t,acX.out⟩,⟨acY,acZ,ac0,ac1⟩,.inr ⟨h4,h5.1 h⟩⟩,fun h=>h5.2 (h.2.2.2.resolve_left (show¬d=a from Hq.out)).2⟩,hE.ax⟩
theorem DK {yb yd:Bh}{yj:FH}{yA:Option Addr}{yn yc:Nat}{yr:Nat->Gr}{w:World}(hY:(Yh.mk yb yd yj yA yn yc yr).rd w)(hbd:(Yh.mk yb yd yj yA yn yc yr).bd)(hi:(Yh.mk yb yd yj yA yn yc yr).i):
  Calls Tryz.prog 44 #[.agg #[.int .i64 yb.F,.int .i64 yb.S,.slice yb.A yb.n yb.c,.bool yb.i.s,.slice yb.i.A yb.i.n yb.i.c,.bool yb.i.t,.slice yb.i.B yb.i.m yb.i.d,.int .i64 yd.F,.int .i64 yd.S,.slice yd.A yd.n yd.c,.bool yd.i.s,.slice yd.i.A yd.i.n yd.i.c,.bool yd.i.t,.slice yd.i.B yd.i.m yd.i.d,.bool yj.s,.slice yj.A yj.n yj.c,.bool yj.t,.slice yj.B yj.m yj.d,.slice yA yn yc]] w (js (Ld (Yh.mk yb yd yj yA yn yc yr)) w):=by
 have AH:=af hY;clear hY;have nN:=af hbd;clear hbd;have YX:=af hi;clear hi;have hE:=(Env.start w).blk 67 #[.int .i64 yb.F,.int .i64 yb.S,.slice yb.A yb.n yb.c,.bool yb.i.s,.slice yb.i.A yb.i.n yb.i.c,.bool yb.i.t,.slice yb.i.B yb.i.m yb.i.d,.int .i64 yd.F,.int .i64 yd.S,.slice yd.A yd.n yd.c,.bool yd.i.s,.slice yd.i.A yd.i.n yd.i.c,.bool yd.i.t,.slice yd.i.B yd.i.m yd.i.d,.bool yj.s,.slice yj.A yj.n yj.c,.bool yj.t,.slice yj.B yj.m yj.d,.slice yA yn yc] (g:=w.heap.size) rfl
 obtain⟨W0,aC⟩:∃W0,W0=(w.alloc (.cells #[.int .i64 yb.F,.int .i64 yb.S,.slice yb.A yb.n yb.c,.bool yb.i.s,.slice yb.i.A yb.i.n yb.i.c,.bool yb.i.t,.slice yb.i.B yb.i.m yb.i.d,.int .i64 yd.F,.int .i64 yd.S,.slice yd.A yd.n yd.c,.bool yd.i.s,.slice yd.i.A yd.i.n yd.i.c,.bool yd.i.t,.slice yd.i.B yd.i.m yd.i.d,.bool yj.s,.slice yj.A yj.n yj.c,.bool yj.t,.slice yj.B yj.m yj.d,.slice yA yn yc] 67)):=⟨_,rfl⟩
 rw[<-aC] at hE;have aZ:=af aC;clear aC
 go_enter Tryz.func44,Tryz.ntmps44
 go_upto_region 1 with(fail)
 rw[<-aZ.out]
 by_cases DL:yn<=32
 rotate_left 1
 ·
  have t1:decide (32<(yn:Int))=true:=aL (by omega)
  have t2:32<(yn:Int):=by omega
  have HN:=af (show¬Ld (Yh.mk yb yd yj yA yn yc yr) from fun h=>DL (h.1));have k2:=(hE.g0).cell 18;go_wp2_with fail
  go_ret
  exact⟨false,rfl,bQ HN.out,hE.ax⟩
 have t1:decide (32<(yn:Int))=false:=aH (by omega)
 have t2:¬32<(yn:Int):=by omega
 have k3:=(hE.g0).cell 0;have k4:=(hE.g0).cell 1;have k5:=(hE.g0).cell 2;have k6:=(hE.g0).cell 3;have k7:=(hE.g0).cell 4;have k8:=(hE.g0).cell 5;have k9:=(hE.g0).cell 6;have fU:=(hE.g0).cell 18;go_wp2_with fail
 refine(mJ yb.F yb.S yb.A yb.n yb.c yb.r yb.i.s yb.i.t yb.i.A yb.i.B yb.i.n yb.i.m yb.i.c yb.i.d yb.i.f yb.i.g _ (Yh.aN AH.out hE.ax).1.1 nN.out.1.1 (Yh.aN AH.out hE.ax).1.2 nN.out.1.2.1 nN.out.1.2.2).mono ?_;clear k3 k4 k5 k6 k7 k8 k9 fU
 rintro e Kw ⟨r,rfl,hr,hb⟩
 replace hE:=hE.step hb;clear hb
 cases r with
 |false=>
  have HN:=af (show¬Ld (Yh.mk yb yd yj yA yn yc yr) from fun h=>gS (hr.2 (h.2.1)));clear hr;go_wp2_with fail
  go_ret
  exact⟨false,rfl,bQ HN.out,hE.ax⟩
 |true=>
  have anT:=af (hr.1 rfl);clear hr;have dY:=(hE.g0).cell 7;have eu:=(hE.g0).cell 8;have eF:=(hE.g0).cell 9;have iA:=(hE.g0).cell 10;have kz:=(hE.g0).cell 11;have lU:=(hE.g0).cell 12;have jS:=(hE.g0).cell 13;go_wp2_with fail
  refine(mJ yd.F yd.S yd.A yd.n yd.c yd.r yd.i.s yd.i.t yd.i.A yd.i.B yd.i.n yd.i.m yd.i.c yd.i.d yd.i.f yd.i.g _ (Yh.aN AH.out hE.ax).2.1.1 nN.out.2.1.1 (Yh.aN AH.out hE.ax).2.1.2 nN.out.2.1.2.1 nN.out.2.1.2.2).mono ?_;clear dY eu eF iA kz lU jS
  rintro e w19 ⟨r,rfl,hr,hb⟩
  replace hE:=hE.step hb;clear hb
  cases r with
  |false=>
   have HN:=af (show¬Ld (Yh.mk yb yd yj yA yn yc yr) from fun h=>gS (hr.2 (h.2.2.1)));clear hr;go_wp2_with fail
   go_ret
   exact⟨false,rfl,bQ HN.out,hE.ax⟩
  |true=>
   have anU:=af (hr.1 rfl);clear hr;have kB:=(hE.g0).cell 14;have lV:=(hE.g0).cell 15;have lW:=(hE.g0).cell 16;have nC:=(hE.g0).cell 17
   go_upto_region 4 with(fail)
   clear kB lV lW nC;clear t1 t2
   obtain⟨g24,mK⟩:∃g24,g24=w19.heap.size:=⟨_,rfl⟩
   have PJ:w.heap.size<g24:=by rw[mK];exact(hE.g0).lt
   replace hE:=hE.blk 29 (az yj.s yj.A yj.n yj.c yj.t yj.B yj.m yj.d) (g:=g24) mK.symm;generalize w19.alloc (.cells (az yj.s yj.A yj.n yj.c yj.t yj.B yj.m yj.d) 29)=W24 at hE⊢;rw[<-mK];clear mK;obtain⟨pU,nQ,qH,pM⟩:=(hE.g0).c4;go_wp2_with fail
   cases hv:okF yj.s yj.n yj.f yj.t yj.m yj.g with
   |false=>
    have HN:=af (show¬Ld (Yh.mk yb yd yj yA yn yc yr) from fun h=>gS (hv.symm.trans h.2.2.2.1.1));refine(cV yj.s yj.t yj.A yj.B yj.n yj.m yj.c yj.d yj.f yj.g _ (Yh.aN AH.out hE.ax).2.2.1 nN.out.2.2.1.1 nN.out.2.2.1.2 false hv).mono ?_;clear pU nQ qH pM
    rintro e MD ⟨rfl,hb⟩
    replace hE:=hE.step hb;clear hb hv;go_wp2_with fail
    go_ret
    exact⟨false,rfl,bQ HN.out,hE.ax⟩
   |true=>
    refine(cV yj.s yj.t yj.A yj.B yj.n yj.m yj.c yj.d yj.f yj.g _ (Yh.aN AH.out hE.ax).2.2.1 nN.out.2.2.1.1 nN.out.2.2.1.2 true hv).mono ?_;clear pU nQ qH pM
    rintro e MD ⟨rfl,hb⟩
    replace hE:=hE.step hb;have HV:=af hv;clear hb hv
    by_cases hs:yj.s=true
    ·
     have HN:=af (show¬Ld (Yh.mk yb yd yj yA yn yc yr) from fun h=>gS (h.2.2.2.1.2.1.symm.trans hs));have wW:=(hE.g0).cell 0;go_wp2_with fail
     go_ret
     exact⟨false,rfl,bQ HN.out,hE.ax⟩
    replace hs:yj.s=false:=by simpa using hs
    by_cases ac2:yj.n<=1
    rotate_left 1
    ·
     have t1:decide (1<(yj.n:Int))=true:=aL (by omega)
     have t2:1<(yj.n:Int):=by omega
     have HN:=af (show¬Ld (Yh.mk yb yd yj yA yn yc yr) from fun h=>ac2 (h.2.2.2.1.2.2.1));have tC:=(hE.g0).cell 0;have tD:=(hE.g0).cell 1;go_wp2_with fail
     go_ret
     exact⟨false,rfl,bQ HN.out,hE.ax⟩
    have t1:decide (1<(yj.n:Int))=false:=aH (by omega)
    have t2:¬1<(yj.n:Int):=by omega
    by_cases ac3:yj.m<=1
    rotate_left 1
    ·
     have t3:decide (1<(yj.m:Int))=true:=aL (by omega)
     have t4:1<(yj.m:Int):=by omega
     have HN:=af (show¬Ld (Yh.mk yb yd yj yA yn yc yr) from fun h=>ac3 (h.2.2.2.1.2.2.2));have Un:=(hE.g0).cell 0;have KN:=(hE.g0).cell 1;have Cp:=(hE.g0).cell 3;go_wp2_with fail
     go_ret
     exact⟨false,rfl,bQ HN.out,hE.ax⟩
    have t3:decide (1<(yj.m:Int))=false:=aH (by omega)
    have t4:¬1<(yj.m:Int):=by omega
    have xj:=(hE.g0).cell 0;have xP:=(hE.g0).cell 1;have Cq:=(hE.g0).cell 3;have Fz:=(hE.g1).cell 18;go_wp2_with fail
    clear xj xP Cq Fz;clear t1 t2 t3 t4;have HJ:Hid (VS yj):=af ⟨HV.out,hs,ac2,ac3⟩;clear HV hs ac2 ac3;replace hE:=hE.yrd (Yh.aN AH.out hE.ax)
    go_loopw [51] (fun p wr=>∃k:Nat,k<=yn/\p= .int .i64 (k:Int)/\Hid (∀j,j<k->pX yb yd (yr j))/\Env w (fun V=>(((True/\au 67 (w.heap.size) #[.int .i64 yb.F,.int .i64 yb.S,.slice yb.A yb.n yb.c,.bool yb.i.s,.slice yb.i.A yb.i.n yb.i.c,.bool yb.i.t,.slice yb.i.B yb.i.m yb.i.d,.int .i64 yd.F,.int .i64 yd.S,.slice yd.A yd.n yd.c,.bool yd.i.s,.slice yd.i.A yd.i.n yd.i.c,.bool yd.i.t,.slice yd.i.B yd.i.m yd.i.d,.bool yj.s,.slice yj.A yj.n yj.c,.bool yj.t,.slice yj.B yj.m yj.d,.slice yA yn yc] V)/\au 29 (g24) (az yj.s yj.A yj.n yj.c yj.t yj.B yj.m yj.d) V)/\Yh.rd (Yh.mk yb yd yj yA yn yc yr) V)) wr) (fun p _=>yn-(intOf p).toNat)
    case atStart=>exact⟨0,bF _,rfl,af (fun j hj=>absurd hj (nY j)),((((Env.again hE.ax).ag (hE.h2)).ag (hE.g1)).yrd (hE.g0))⟩
    case round=>
     clear hE;obtain⟨k,hk,rfl,HK,hE⟩:=hrel
     by_cases hlt:k<yn
     rotate_left
     ·
      have hkn:k=yn:=by omega
      have t1:decide ((k:Int)<(yn:Int))=false:=aH (by omega)
      have t2:¬(k:Int)<(yn:Int):=by omega
      have HK2:Hid (∀j,j<yn->pX yb yd (yr j)):=af (by rw[<-hkn];exact HK.out);clear HK hkn;go_wp2_with fail
      go_ret
      exact⟨true,rfl,uO ⟨DL,anT.out,anU.out,HJ.out,HK2.out⟩,hE.ax⟩
     have hgm:DN yA yn yr wr:=(hE.g0).2.2.2;obtain⟨b,o,rfl,iZ,hc⟩:=hgm (by omega);clear hgm
     obtain⟨⟨x,z,a,d⟩,hg⟩:∃g,g=yr k:=⟨_,rfl⟩
     obtain⟨qV,hrx⟩:=hc k hlt;rw[<-hg] at qV hrx;have hxi:(yr k).i:=YX.out k hlt;have hxd:(yr k).x.bd:=nN.out.2.2.2 k hlt;rw[<-hg] at hxi hxd;have t1:decide ((k:Int)<(yn:Int))=true:=aL (by omega)
     have t2:(k:Int)<(yn:Int):=by omega
     have d0:wr.cell? ⟨b,o+k*12,none⟩=some (.int .i64 x.E):=qV 0 _ rfl;have d1:wr.cell? ⟨b,o+k*12+1,none⟩=some (.int .i64 x.Y):=qV 1 _ rfl;have d2:wr.cell? ⟨b,o+k*12+2,none⟩=some (.int .i64 x.T):=qV 2 _ rfl;have d3:wr.cell? ⟨b,o+k*12+3,none⟩=some (.bool x.p.s):=qV 3 _ rfl;have d4:wr.cell? ⟨b,o+k*12+4,none⟩=some (.slice x.p.A x.p.n x.p.c):=qV 4 _ rfl;have d5:wr.cell? ⟨b,o+k*12+5,none⟩=some (.bool x.p.t):=qV 5 _ rfl;have d6:wr.cell? ⟨b,o+k*12+6,none⟩=some (.slice x.p.B x.p.m x.p.d):=qV 6 _ rfl;have d7:wr.cell? ⟨b,o+k*12+7,none⟩=some (.slice x.A x.n x.c):=qV 7 _ rfl;have d8:wr.cell? ⟨b,o+k*12+8,none⟩=some (.slice x.B x.m x.d):=qV 8 _ rfl;have d9:wr.cell? ⟨b,o+k*12+9,none⟩=some (.int .i64 z):=qV 9 _ rfl;have d10:wr.cell? ⟨b,o+k*12+10,none⟩=some (.int .i64 a):=qV 10 _ rfl;have d11:wr.cell? ⟨b,o+k*12+11,none⟩=some (.int .i64 d):=qV 11 _ rfl;have Le:=af hg;clear hg;have anV:=af hxi;clear hxi;have ac4:=af hxd;clear hxd;clear qV hrx hc
     go_upto_region 10 with(fail)
     clear d0 d1 d2 d3 d4 d5 d6 d7 d8 d9 d10 d11 t1
     obtain⟨g42,PK⟩:∃g42,g42=wr.heap.size:=⟨_,rfl⟩
     have anW:w.heap.size<g42:=by rw[PK];exact(hE.h2).lt
     have anX:g24<g42:=by rw[PK];exact(hE.g1).lt
     replace hE:=hE.blk 72 #[.int .i64 x.E,.int .i64 x.Y,.int .i64 x.T,.bool x.p.s,.slice x.p.A x.p.n x.p.c,.bool x.p.t,.slice x.p.B x.p.m x.p.d,.slice x.A x.n x.c,.slice x.B x.m x.d,.int .i64 z,.int .i64 a,.int .i64 d] (g:=g42) PK.symm;generalize wr.alloc (.cells #[.int .i64 x.E,.int .i64 x.Y,.int .i64 x.T,.bool x.p.s,.slice x.p.A x.p.n x.p.c,.bool x.p.t,.slice x.p.B x.p.m x.p.d,.slice x.A x.n x.c,.slice x.B x.m x.d,.int .i64 z,.int .i64 a,.int .i64 d] 72)=W42 at hE⊢;rw[<-PK];clear PK;have zl:=(hE.g0).cell 0;have CC:=(hE.g0).cell 1;have zm:=(hE.g0).cell 2;have CM:=(hE.g0).cell 3;have Ky:=(hE.g0).cell 4;have MX:=(hE.g0).cell 5;have MB:=(hE.g0).cell 6;have TH:=(hE.g0).cell 7;have MY:=(hE.g0).cell 8;have TI:=(hE.g0).cell 9;have Zb:=(hE.g0).cell 10;have k54:=(hE.g0).cell 11;go_wp2_with fail
     refine(Wi (y:=(Yh.mk yb yd yj (some ⟨b,o,none⟩) yn yc yr)) (hE.g1).1 (hE.g1).2.1 (by have h9:(yr k).x.rd _:=DN.rd (hE.g1).2.2.2 hlt;rw[<-Le.out] at h9;exact h9) nN.out.1 nN.out.2.1 ac4.out anV.out (hE.h3)).mono ?_;clear zl CC zm CM Ky MX MB TH MY TI Zb k54
     rintro e w77 ⟨r,rfl,hr,hb⟩
     replace hE:=hE.step hb;clear hb
     cases r with
     |false=>
      have HN:=af (show¬Ld (Yh.mk yb yd yj (some ⟨b,o,none⟩) yn yc yr) from fun h=>gS (hr.2 (by rw[Le.out];exact h.2.2.2.2 k hlt)));clear hr;go_wp2_with fail
      go_ret
      exact⟨false,rfl,bQ HN.out,hE.ax⟩
     |true=>
      have HR:=af (hr.1 rfl);clear hr;go_wp2_with fail
      go_roundw
      case rel=>
       refine⟨k+1,by omega,by go_num,af (fun i hi=> ?_),((((Env.again hE.ax).ag (hE.h3)).ag (hE.h2)).yrd (hE.g1))⟩
       by_cases e:i=k
       ·subst e;rw[<-Le.out];exact HR.out
       ·exact HK.out i (by omega)
      case measure=>simp[intOf];omega
theorem Gh {y:Yh}{w:World}(hY:y.rd w)(hbd:y.bd)(hi:y.i):Calls Tryz.prog 44 #[.agg #[.int .i64 y.b.F,.int .i64 y.b.S,.slice y.b.A y.b.n y.b.c,.bool y.b.i.s,.slice y.b.i.A y.b.i.n y.b.i.c,.bool y.b.i.t,.slice y.b.i.B y.b.i.m y.b.i.d,.int .i64 y.d.F,.int .i64 y.d.S,.slice y.d.A y.d.n y.d.c,.bool y.d.i.s,.slice y.d.i.A y.d.i.n y.d.i.c,.bool y.d.i.t,.slice y.d.i.B y.d.i.m y.d.i.d,.bool y.j.s,.slice y.j.A y.j.n y.j.c,.bool y.j.t,.slice y.j.B y.j.m y.j.d,.slice y.A y.n y.c]] w (js (Ld y) w):=DK hY hbd hi
theorem PM {y:Yh}{w:World}(hY:y.rd w)(hbd:y.bd)(hi:y.i)(h:Ld y):
  Calls Tryz.prog 44 #[.agg #[.int .i64 y.b.F,.int .i64 y.b.S,.slice y.b.A y.b.n y.b.c,.bool y.b.i.s,.slice y.b.i.A y.b.i.n y.b.i.c,.bool y.b.i.t,.slice y.b.i.B y.b.i.m y.b.i.d,.int .i64 y.d.F,.int .i64 y.d.S,.slice y.d.A y.d.n y.d.c,.bool y.d.i.s,.slice y.d.i.A y.d.i.n y.d.i.c,.bool y.d.i.t,.slice y.d.i.B y.d.i.m y.d.i.d,.bool y.j.s,.slice y.j.A y.j.n y.j.c,.bool y.j.t,.slice y.j.B y.j.m y.j.d,.slice y.A y.n y.c]] w fun e w'=>e= .returned (.bool true)/\Below w.heap.size w w':=
 (Gh hY hbd hi).mono fun _ _ ⟨v,he,hv,hw⟩=>by obtain rfl:v=true:=hv.2 h;exact⟨he,hw⟩
end Go.Proofs.YtclbiihcbfnjmaaGreat
