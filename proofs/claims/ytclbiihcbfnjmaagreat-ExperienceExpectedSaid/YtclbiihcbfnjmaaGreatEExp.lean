/-
  Parts.
-/
import Derived.Test.YtclbiihcbfnjmaaGreatE9
import Derived.Test.YtclbiihcbfnjmaaGreatE10
set_option linter.unusedSimpArgs false
set_option maxRecDepth 100000
set_option maxHeartbeats 8000000
namespace Go.Proofs.YtclbiihcbfnjmaaGreat
open Go.RowKit

abbrev Yh.same (y:Yh):Yh:=⟨y.b,y.b,y.b.i,y.A,y.n,y.c,y.r⟩
theorem Cu (b:Bh)(g:Gr):wq b b b.i.q g 7=0/\wq b b b.i.q g 9=0:=NM
theorem Tq (b d:Bh)(g:Gr):wq b d b.i.q g 6=wq b d b.i.q g 1+wq b d b.i.q g 3-wq b d b.i.q g 2:=Tr
theorem aas {b d:Bh}{j:Rat}{g:Gr}(h:b.rt g.x.E g.x.Y g.t.toNat*((g.a:Int):Rat)=((g.d:Int):Rat)):wq b d j g 8=0:=aat h
theorem NN {y:Yh}{w:World}(h:YS y.same)(hr:y.same.rd w):rep y.same.it y.n 7=0/\rep y.same.it y.n 9=0/\fI (rep y.same.it y.n)=rep y.same.it y.n 8/\
  rep y.same.it y.n 6=rep y.same.it y.n 1+rep y.same.it y.n 3-rep y.same.it y.n 2/\
  ((∀k,k<y.n->y.b.rt (y.r k).x.E (y.r k).x.Y (y.r k).t.toNat*(((y.r k).a:Int):Rat)=(((y.r k).d:Int):Rat))->fI (rep y.same.it y.n)=0):=by
 have h7:rep y.same.it y.n 7=0:=uc fun g _=>(Cu y.b (y.r g)).1
 have h9:rep y.same.it y.n 9=0:=uc fun g _=>(Cu y.b (y.r g)).2
 have hs:fI (rep y.same.it y.n)=rep y.same.it y.n 7+rep y.same.it y.n 8+rep y.same.it y.n 9:=h.sum hr;rw[h7,h9] at hs
 have hs2:fI (rep y.same.it y.n)=rep y.same.it y.n 8:=by rw[hs];grind
 refine⟨h7,h9,hs2,GU fun g _=>Tq y.b y.b (y.r g),fun ha=> ?_⟩;rw[hs2]
 exact uc fun g hg=>aas (ha g hg)
theorem Ji (y:Yh)(w:World)(hY:y.rd w)(hi:y.i)(uS:y.n<=9223372036854775807):
  Calls Tryz.prog 10 #[.agg #[.int .i64 y.b.F,.int .i64 y.b.S,.slice y.b.A y.b.n y.b.c,.bool y.b.i.s,.slice y.b.i.A y.b.i.n y.b.i.c,.bool y.b.i.t,.slice y.b.i.B y.b.i.m y.b.i.d,.int .i64 y.d.F,.int .i64 y.d.S,.slice y.d.A y.d.n y.d.c,.bool y.d.i.s,.slice y.d.i.A y.d.i.n y.d.i.c,.bool y.d.i.t,.slice y.d.i.B y.d.i.m y.d.i.d,.bool y.j.s,.slice y.j.A y.j.n y.j.c,.bool y.j.t,.slice y.j.B y.j.m y.j.d,.slice y.A y.n y.c]] w (fun e w'=>e= .returned (.bool true)/\Below w.heap.size w w'):=by
 have eU:=Lib.hid hY;clear hY;have mP:=Lib.hid hi;clear hi;have ua:=Lib.hid uS;clear uS;have hE:=(Env.start w).blk 67 #[.int .i64 y.b.F,.int .i64 y.b.S,.slice y.b.A y.b.n y.b.c,.bool y.b.i.s,.slice y.b.i.A y.b.i.n y.b.i.c,.bool y.b.i.t,.slice y.b.i.B y.b.i.m y.b.i.d,.int .i64 y.d.F,.int .i64 y.d.S,.slice y.d.A y.d.n y.d.c,.bool y.d.i.s,.slice y.d.i.A y.d.i.n y.d.i.c,.bool y.d.i.t,.slice y.d.i.B y.d.i.m y.d.i.d,.bool y.j.s,.slice y.j.A y.j.n y.j.c,.bool y.j.t,.slice y.j.B y.j.m y.j.d,.slice y.A y.n y.c] (g:=w.heap.size) rfl
 obtain⟨W0,aC⟩:∃W0,W0=(w.alloc (.cells #[.int .i64 y.b.F,.int .i64 y.b.S,.slice y.b.A y.b.n y.b.c,.bool y.b.i.s,.slice y.b.i.A y.b.i.n y.b.i.c,.bool y.b.i.t,.slice y.b.i.B y.b.i.m y.b.i.d,.int .i64 y.d.F,.int .i64 y.d.S,.slice y.d.A y.d.n y.d.c,.bool y.d.i.s,.slice y.d.i.A y.d.i.n y.d.i.c,.bool y.d.i.t,.slice y.d.i.B y.d.i.m y.d.i.d,.bool y.j.s,.slice y.j.A y.j.n y.j.c,.bool y.j.t,.slice y.j.B y.j.m y.j.d,.slice y.A y.n y.c] 67)):=⟨_,rfl⟩
 rw[<-aC] at hE;have aU:=Lib.hid aC;clear aC
 go_enter Tryz.func10,Tryz.ntmps10
 go_upto_region 1 with(fail)
 rw[<-aU.out];go_wp2_with fail
 refine hE.br (mC _) ?_;clear hE;intro w1 hE;have dH:(Instr.loadAt 67 (.pointer (some ⟨w.heap.size,0,none⟩))).run Tryz.prog w1= .ok (.agg #[.int .i64 y.b.F,.int .i64 y.b.S,.slice y.b.A y.b.n y.b.c,.bool y.b.i.s,.slice y.b.i.A y.b.i.n y.b.i.c,.bool y.b.i.t,.slice y.b.i.B y.b.i.m y.b.i.d,.int .i64 y.d.F,.int .i64 y.d.S,.slice y.d.A y.d.n y.d.c,.bool y.d.i.s,.slice y.d.i.A y.d.i.n y.d.i.c,.bool y.d.i.t,.slice y.d.i.B y.d.i.m y.d.i.d,.bool y.j.s,.slice y.j.A y.j.n y.j.c,.bool y.j.t,.slice y.j.B y.j.m y.j.d,.slice y.A y.n y.c]) w1:=run_loadAt_mid _ _ _ _ [.int .i64 y.b.F,.int .i64 y.b.S,.slice y.b.A y.b.n y.b.c,.bool y.b.i.s,.slice y.b.i.A y.b.i.n y.b.i.c,.bool y.b.i.t,.slice y.b.i.B y.b.i.m y.b.i.d,.int .i64 y.d.F,.int .i64 y.d.S,.slice y.d.A y.d.n y.d.c,.bool y.d.i.s,.slice y.d.i.A y.d.i.n y.d.i.c,.bool y.d.i.t,.slice y.d.i.B y.d.i.m y.d.i.d,.bool y.j.s,.slice y.j.A y.j.n y.j.c,.bool y.j.t,.slice y.j.B y.j.m y.j.d,.slice y.A y.n y.c] _ (ak.mid (hE.here.2) 0 rfl) Tryz.underlying67 rfl (by kernel_rfl);go_wp2_with (first|refine aK dH rfl rfl rfl ?_|refine bC dH (by rfl) rfl rfl ?_)
 clear dH;refine(iI (y:=y) (Yh.aA eU.out hE.av) mP.out ua.out).mono ?_
 rintro e w2 ⟨v,rfl,hv,hb⟩
 replace hE:=hE.step hb;clear hb
 cases v with
 |false=>
  clear hv;go_wp2_with fail
  go_ret
  exact⟨rfl,hE.av⟩
 |true=>
  have hU:=hv.1 rfl;clear hv;have yo:=hU.ys;have ym:=hU.1.bd (by decide) mP.out;have HhU:=Lib.hid hU;clear hU;have iR:=Lib.hid yo;clear yo;have jw:=Lib.hid ym;clear ym;have k3:=(hE.here.2).cell 0;have k4:=(hE.here.2).cell 1;have k5:=(hE.here.2).cell 2;have k6:=(hE.here.2).cell 3;have k7:=(hE.here.2).cell 4;have k8:=(hE.here.2).cell 5;have k9:=(hE.here.2).cell 6
  have mF:w.heap.size<=w.heap.size:=by omega
  have NP:=(dU [.int .i64 y.b.F,.int .i64 y.b.S,.slice y.b.A y.b.n y.b.c,.bool y.b.i.s,.slice y.b.i.A y.b.i.n y.b.i.c,.bool y.b.i.t,.slice y.b.i.B y.b.i.m y.b.i.d,.bool y.b.i.s,.slice y.b.i.A y.b.i.n y.b.i.c,.bool y.b.i.t,.slice y.b.i.B y.b.i.m y.b.i.d] 7 w2 ⟨_,hE.here.2,rfl⟩).1;change w2.grownBy (((((((((((w2.setCell ⟨w.heap.size,7,none⟩ (.int .i64 y.b.F)).setCell ⟨w.heap.size,8,none⟩ (.int .i64 y.b.S)).setCell ⟨w.heap.size,9,none⟩ (.slice y.b.A y.b.n y.b.c)).setCell ⟨w.heap.size,10,none⟩ (.bool y.b.i.s)).setCell ⟨w.heap.size,11,none⟩ (.slice y.b.i.A y.b.i.n y.b.i.c)).setCell ⟨w.heap.size,12,none⟩ (.bool y.b.i.t)).setCell ⟨w.heap.size,13,none⟩ (.slice y.b.i.B y.b.i.m y.b.i.d)).setCell ⟨w.heap.size,14,none⟩ (.bool y.b.i.s)).setCell ⟨w.heap.size,15,none⟩ (.slice y.b.i.A y.b.i.n y.b.i.c)).setCell ⟨w.heap.size,16,none⟩ (.bool y.b.i.t)).setCell ⟨w.heap.size,17,none⟩ (.slice y.b.i.B y.b.i.m y.b.i.d)) _ at NP;have tQ:=(hE.here.2).cell 7;have tS:=(hE.here.2).frozen 7;have tR:=(hE.here.2).cell 8;have tT:=(hE.here.2).frozen 8;have AY:=(hE.here.2).cell 9;have Bk:=(hE.here.2).frozen 9;have AZ:=(hE.here.2).cell 10;have BA:=(hE.here.2).frozen 10;have afw:=(hE.here.2).cell 11;have afx:=(hE.here.2).frozen 11;have Gd:=(hE.here.2).cell 12;have afy:=(hE.here.2).frozen 12;have Gf:=(hE.here.2).cell 13;have afz:=(hE.here.2).frozen 13;have afA:=(hE.here.2).cell 14;have afB:=(hE.here.2).frozen 14;have afC:=(hE.here.2).cell 15;have afD:=(hE.here.2).frozen 15;have afE:=(hE.here.2).cell 16;have afF:=(hE.here.2).frozen 16;have aau:=(hE.here.2).cell 17;have aav:=(hE.here.2).frozen 17;replace hE:=((Env.again (Go.Proofs.YtclbiihcbfnjmaaGreat.Below.ax hE.av NP hE.av.size mF)).af (show ak 67 w.heap.size #[.int .i64 y.b.F,.int .i64 y.b.S,.slice y.b.A y.b.n y.b.c,.bool y.b.i.s,.slice y.b.i.A y.b.i.n y.b.i.c,.bool y.b.i.t,.slice y.b.i.B y.b.i.m y.b.i.d,.int .i64 y.b.F,.int .i64 y.b.S,.slice y.b.A y.b.n y.b.c,.bool y.b.i.s,.slice y.b.i.A y.b.i.n y.b.i.c,.bool y.b.i.t,.slice y.b.i.B y.b.i.m y.b.i.d,.bool y.b.i.s,.slice y.b.i.A y.b.i.n y.b.i.c,.bool y.b.i.t,.slice y.b.i.B y.b.i.m y.b.i.d,.slice y.A y.n y.c] _ by simpa using((((((((((((((((((((((hE.here.2).bW 7 (.int .i64 y.b.F))).bW 8 (.int .i64 y.b.S))).bW 9 (.slice y.b.A y.b.n y.b.c))).bW 10 (.bool y.b.i.s))).bW 11 (.slice y.b.i.A y.b.i.n y.b.i.c))).bW 12 (.bool y.b.i.t))).bW 13 (.slice y.b.i.B y.b.i.m y.b.i.d))).bW 14 (.bool y.b.i.s))).bW 15 (.slice y.b.i.A y.b.i.n y.b.i.c))).bW 16 (.bool y.b.i.t))).bW 17 (.slice y.b.i.B y.b.i.m y.b.i.d))))
  go_upto_region 6 with(fail)
  clear tQ tS tR tT AY Bk AZ BA afw afx Gd afy Gf afz afA afB afC afD afE afF aau aav mF NP;generalize (((((((((((w2.setCell ⟨w.heap.size,7,none⟩ (.int .i64 y.b.F)).setCell ⟨w.heap.size,8,none⟩ (.int .i64 y.b.S)).setCell ⟨w.heap.size,9,none⟩ (.slice y.b.A y.b.n y.b.c)).setCell ⟨w.heap.size,10,none⟩ (.bool y.b.i.s)).setCell ⟨w.heap.size,11,none⟩ (.slice y.b.i.A y.b.i.n y.b.i.c)).setCell ⟨w.heap.size,12,none⟩ (.bool y.b.i.t)).setCell ⟨w.heap.size,13,none⟩ (.slice y.b.i.B y.b.i.m y.b.i.d)).setCell ⟨w.heap.size,14,none⟩ (.bool y.b.i.s)).setCell ⟨w.heap.size,15,none⟩ (.slice y.b.i.A y.b.i.n y.b.i.c)).setCell ⟨w.heap.size,16,none⟩ (.bool y.b.i.t)).setCell ⟨w.heap.size,17,none⟩ (.slice y.b.i.B y.b.i.m y.b.i.d))=V10 at hE⊢;clear k3 k4 k5 k6 k7 k8 k9;have hY2:y.same.rd w:=⟨eU.out.1,eU.out.1,eU.out.1.2,eU.out.2.2.2⟩;have dL:y.same.bd:=⟨jw.out.1,jw.out.1,jw.out.1.2,jw.out.2.2.2⟩;have hi2:y.same.i:=mP.out;have NQ:=Lib.hid hY2;clear hY2;have NR:=Lib.hid dL;clear dL;have NS:=Lib.hid hi2;clear hi2;have dH:(Instr.loadAt 67 (.pointer (some ⟨w.heap.size,0,none⟩))).run Tryz.prog V10= .ok (.agg #[.int .i64 y.b.F,.int .i64 y.b.S,.slice y.b.A y.b.n y.b.c,.bool y.b.i.s,.slice y.b.i.A y.b.i.n y.b.i.c,.bool y.b.i.t,.slice y.b.i.B y.b.i.m y.b.i.d,.int .i64 y.b.F,.int .i64 y.b.S,.slice y.b.A y.b.n y.b.c,.bool y.b.i.s,.slice y.b.i.A y.b.i.n y.b.i.c,.bool y.b.i.t,.slice y.b.i.B y.b.i.m y.b.i.d,.bool y.b.i.s,.slice y.b.i.A y.b.i.n y.b.i.c,.bool y.b.i.t,.slice y.b.i.B y.b.i.m y.b.i.d,.slice y.A y.n y.c]) V10:=run_loadAt_mid _ _ _ _ [.int .i64 y.b.F,.int .i64 y.b.S,.slice y.b.A y.b.n y.b.c,.bool y.b.i.s,.slice y.b.i.A y.b.i.n y.b.i.c,.bool y.b.i.t,.slice y.b.i.B y.b.i.m y.b.i.d,.int .i64 y.b.F,.int .i64 y.b.S,.slice y.b.A y.b.n y.b.c,.bool y.b.i.s,.slice y.b.i.A y.b.i.n y.b.i.c,.bool y.b.i.t,.slice y.b.i.B y.b.i.m y.b.i.d,.bool y.b.i.s,.slice y.b.i.A y.b.i.n y.b.i.c,.bool y.b.i.t,.slice y.b.i.B y.b.i.m y.b.i.d,.slice y.A y.n y.c] _ (ak.mid (hE.here.2) 0 rfl) Tryz.underlying67 rfl (by kernel_rfl);go_wp2_with (first|refine aK dH rfl rfl rfl ?_|refine bC dH (by rfl) rfl rfl ?_)
  clear dH;refine(kU (y:=y.same) (Yh.aA NQ.out hE.av) NR.out NS.out).mono ?_
  rintro e w6 ⟨v,rfl,hv,hb⟩
  replace hE:=hE.step hb;clear hb
  cases v with
  |false=>
   clear hv;go_wp2_with fail
   go_ret
   exact⟨rfl,hE.av⟩
  |true=>
   have Cj:YS y.same:=⟨hv.1 rfl,iR.out.n6,iR.out.n0,iR.out.n0⟩;clear hv;have Cv:=Lib.hid Cj;clear Cj;have dH:(Instr.loadAt 67 (.pointer (some ⟨w.heap.size,0,none⟩))).run Tryz.prog w6= .ok (.agg #[.int .i64 y.b.F,.int .i64 y.b.S,.slice y.b.A y.b.n y.b.c,.bool y.b.i.s,.slice y.b.i.A y.b.i.n y.b.i.c,.bool y.b.i.t,.slice y.b.i.B y.b.i.m y.b.i.d,.int .i64 y.b.F,.int .i64 y.b.S,.slice y.b.A y.b.n y.b.c,.bool y.b.i.s,.slice y.b.i.A y.b.i.n y.b.i.c,.bool y.b.i.t,.slice y.b.i.B y.b.i.m y.b.i.d,.bool y.b.i.s,.slice y.b.i.A y.b.i.n y.b.i.c,.bool y.b.i.t,.slice y.b.i.B y.b.i.m y.b.i.d,.slice y.A y.n y.c]) w6:=run_loadAt_mid _ _ _ _ [.int .i64 y.b.F,.int .i64 y.b.S,.slice y.b.A y.b.n y.b.c,.bool y.b.i.s,.slice y.b.i.A y.b.i.n y.b.i.c,.bool y.b.i.t,.slice y.b.i.B y.b.i.m y.b.i.d,.int .i64 y.b.F,.int .i64 y.b.S,.slice y.b.A y.b.n y.b.c,.bool y.b.i.s,.slice y.b.i.A y.b.i.n y.b.i.c,.bool y.b.i.t,.slice y.b.i.B y.b.i.m y.b.i.d,.bool y.b.i.s,.slice y.b.i.A y.b.i.n y.b.i.c,.bool y.b.i.t,.slice y.b.i.B y.b.i.m y.b.i.d,.slice y.A y.n y.c] _ (ak.mid (hE.here.2) 0 rfl) Tryz.underlying67 rfl (by kernel_rfl);go_wp2_with (first|refine aK dH rfl rfl rfl ?_|refine bC dH (by rfl) rfl rfl ?_)
   clear dH;refine(ep (y:=y.same) (Yh.aA NQ.out hE.av) NR.out NS.out Cv.out).mono ?_
   rintro e zY ⟨h,rfl,hF,hb⟩
   replace hE:=hE.step hb;clear hb;have KA:yL (rep y.same.it y.n):=(Cv.out).rep NQ.out y.n (Nat.le_refl _);have NT:=NN Cv.out NQ.out
   obtain⟨X,hX⟩:∃X,X=rep y.same.it y.n:=⟨_,rfl⟩
   rw[show(y.same).n=y.n from rfl,<-hX] at hF;rw[<-hX] at KA NT;clear hX
   obtain⟨Q,hQ⟩:∃Q:Nat->Rat,Q=fun k=>if k=10 then fI X else X k:=⟨_,rfl⟩
   rw[<-hQ] at hF
   have q0:X 0=Q 0:=by rw[hQ];rfl
   have q1:X 1=Q 1:=by rw[hQ];rfl
   have q2:X 2=Q 2:=by rw[hQ];rfl
   have q3:X 3=Q 3:=by rw[hQ];rfl
   have q4:X 4=Q 4:=by rw[hQ];rfl
   have q5:X 5=Q 5:=by rw[hQ];rfl
   have q6:X 6=Q 6:=by rw[hQ];rfl
   have q7:X 7=Q 7:=by rw[hQ];rfl
   have q8:X 8=Q 8:=by rw[hQ];rfl
   have q9:X 9=Q 9:=by rw[hQ];rfl
   have q10:fI X=Q 10:=by rw[hQ];rfl
   have Nh:Q 7=((0:Int):Rat):=by rw[<-q7,NT.1];rfl
   have Ni:Q 9=((0:Int):Rat):=by rw[<-q9,NT.2.1];rfl
   have Wl:Q 10=Q 8:=by rw[<-q10,<-q8,NT.2.2.1]
   have hq6:Q 6=Q 1+Q 3-Q 2:=by rw[<-q6,<-q1,<-q2,<-q3,NT.2.2.2.1]
   have hqa:=NT.2.2.2.2;rw[q10] at hqa
   have hlq:∀k,k<11->fl (Q k)<=256:=fun k hk=>by
    rw[hQ];show fl (if k=10 then fI X else X k)<=256
    by_cases h10:k=10
    ·rw[if_pos h10];exact KA.fI.2.2.2.2
    ·rw[if_neg h10];exact KA.l k
   have hle:=KA.exp;rw[q1,q3,q2] at hle;clear q0 q1 q2 q3 q4 q5 q6 q7 q8 q9 q10 hQ KA NT;replace hE:=hE.lP hF;clear hF;have al8:=Lib.hid Nh;clear Nh;have al9:=Lib.hid Ni;clear Ni;have Mz:=Lib.hid Wl;clear Wl;have afG:=Lib.hid hq6;clear hq6;have Zk:=Lib.hid hqa;clear hqa;have qz:=Lib.hid hlq;clear hlq;have Cw:=Lib.hid hle;clear hle;obtain⟨VR,hst,dY,iC⟩:=dO zY 61 (z:=#[.bool false,.slice none 0 0,.bool false,.slice none 0 0,.bool false,.slice none 0 0,.bool false,.slice none 0 0,.bool false,.slice none 0 0,.bool false,.slice none 0 0,.bool false,.slice none 0 0,.bool false,.slice none 0 0,.bool false,.slice none 0 0,.bool false,.slice none 0 0,.bool false,.slice none 0 0,.bool false,.slice none 0 0,.bool false,.slice none 0 0,.bool false,.slice none 0 0,.bool false,.slice none 0 0,.bool false,.slice none 0 0,.bool false,.slice none 0 0,.bool false,.slice none 0 0,.bool false,.slice none 0 0,.bool false,.slice none 0 0,.bool false,.slice none 0 0,.bool false,.slice none 0 0]) (cP h) rfl (by kernel_rfl) rfl;have hQ:=Lib.hid (And.intro dY iC);clear dY iC
   go_upto_region 11 with(first|refine cC hst rfl rfl rfl rfl ?_)
   clear hst
   obtain⟨gR,pg⟩:∃g,g=zY.heap.size:=⟨_,rfl⟩
   have WC:w.heap.size<gR:=by rw[pg];exact(hE.here.1.2).lt
   rw[<-pg] at hQ⊢;have dY:=hQ.out.1;rw[pg] at dY;replace hE:=(hE.step dY).af (show ak 61 gR #[.bool (h 0).s,.slice (h 0).A (h 0).n (h 0).c,.bool (h 0).t,.slice (h 0).B (h 0).m (h 0).d,.bool (h 1).s,.slice (h 1).A (h 1).n (h 1).c,.bool (h 1).t,.slice (h 1).B (h 1).m (h 1).d,.bool (h 2).s,.slice (h 2).A (h 2).n (h 2).c,.bool (h 2).t,.slice (h 2).B (h 2).m (h 2).d,.bool (h 3).s,.slice (h 3).A (h 3).n (h 3).c,.bool (h 3).t,.slice (h 3).B (h 3).m (h 3).d,.bool (h 4).s,.slice (h 4).A (h 4).n (h 4).c,.bool (h 4).t,.slice (h 4).B (h 4).m (h 4).d,.bool (h 5).s,.slice (h 5).A (h 5).n (h 5).c,.bool (h 5).t,.slice (h 5).B (h 5).m (h 5).d,.bool (h 6).s,.slice (h 6).A (h 6).n (h 6).c,.bool (h 6).t,.slice (h 6).B (h 6).m (h 6).d,.bool (h 7).s,.slice (h 7).A (h 7).n (h 7).c,.bool (h 7).t,.slice (h 7).B (h 7).m (h 7).d,.bool (h 8).s,.slice (h 8).A (h 8).n (h 8).c,.bool (h 8).t,.slice (h 8).B (h 8).m (h 8).d,.bool (h 9).s,.slice (h 9).A (h 9).n (h 9).c,.bool (h 9).t,.slice (h 9).B (h 9).m (h 9).d,.bool (h 10).s,.slice (h 10).A (h 10).n (h 10).c,.bool (h 10).t,.slice (h 10).B (h 10).m (h 10).d] VR from hQ.out.2);clear dY pg hQ;go_wp2_with fail
   refine hE.fr (aR 0 _ (by decide) (by decide)) ?_;clear hE;intro sz Az nz cz tz Bz mz dz IV hE
   go_upto_region 12 with(fail)
   obtain⟨g13,NU⟩:∃g13,g13=IV.heap.size:=⟨_,rfl⟩
   have ama:w.heap.size<g13:=by rw[NU];exact(hE.h3).lt
   have amb:gR<g13:=by rw[NU];exact(hE.here.1.2).lt
   replace hE:=hE.blk 29 (az sz Az nz cz tz Bz mz dz) (g:=g13) NU.symm;generalize IV.alloc (.cells (az sz Az nz cz tz Bz mz dz) 29)=W13 at hE⊢;rw[<-NU];clear NU;go_wp2_with fail
   have hn6:y.n<=6:=iR.out.n6
   go_loopw [6,7] (fun a p wr=>∃(k:Nat) (v:Bool),k<=y.n/\p= .int .i64 (k:Int)/\a= .bool v/\Hid (v=true->∀j,j<k->y.b.rt (y.r j).x.E (y.r j).x.Y (y.r j).t.toNat*(((y.r j).a:Int):Rat)=(((y.r j).d:Int):Rat))/\Env w (fun V=>(((((True/\ak 67 (w.heap.size) #[.int .i64 y.b.F,.int .i64 y.b.S,.slice y.b.A y.b.n y.b.c,.bool y.b.i.s,.slice y.b.i.A y.b.i.n y.b.i.c,.bool y.b.i.t,.slice y.b.i.B y.b.i.m y.b.i.d,.int .i64 y.b.F,.int .i64 y.b.S,.slice y.b.A y.b.n y.b.c,.bool y.b.i.s,.slice y.b.i.A y.b.i.n y.b.i.c,.bool y.b.i.t,.slice y.b.i.B y.b.i.m y.b.i.d,.bool y.b.i.s,.slice y.b.i.A y.b.i.n y.b.i.c,.bool y.b.i.t,.slice y.b.i.B y.b.i.m y.b.i.d,.slice y.A y.n y.c] V)/\cY Q 11 h V)/\ak 61 (gR) #[.bool (h 0).s,.slice (h 0).A (h 0).n (h 0).c,.bool (h 0).t,.slice (h 0).B (h 0).m (h 0).d,.bool (h 1).s,.slice (h 1).A (h 1).n (h 1).c,.bool (h 1).t,.slice (h 1).B (h 1).m (h 1).d,.bool (h 2).s,.slice (h 2).A (h 2).n (h 2).c,.bool (h 2).t,.slice (h 2).B (h 2).m (h 2).d,.bool (h 3).s,.slice (h 3).A (h 3).n (h 3).c,.bool (h 3).t,.slice (h 3).B (h 3).m (h 3).d,.bool (h 4).s,.slice (h 4).A (h 4).n (h 4).c,.bool (h 4).t,.slice (h 4).B (h 4).m (h 4).d,.bool (h 5).s,.slice (h 5).A (h 5).n (h 5).c,.bool (h 5).t,.slice (h 5).B (h 5).m (h 5).d,.bool (h 6).s,.slice (h 6).A (h 6).n (h 6).c,.bool (h 6).t,.slice (h 6).B (h 6).m (h 6).d,.bool (h 7).s,.slice (h 7).A (h 7).n (h 7).c,.bool (h 7).t,.slice (h 7).B (h 7).m (h 7).d,.bool (h 8).s,.slice (h 8).A (h 8).n (h 8).c,.bool (h 8).t,.slice (h 8).B (h 8).m (h 8).d,.bool (h 9).s,.slice (h 9).A (h 9).n (h 9).c,.bool (h 9).t,.slice (h 9).B (h 9).m (h 9).d,.bool (h 10).s,.slice (h 10).A (h 10).n (h 10).c,.bool (h 10).t,.slice (h 10).B (h 10).m (h 10).d] V)/\FV V ((0:Int):Rat) sz Az nz tz Bz mz)/\ak 29 (g13) (az sz Az nz cz tz Bz mz dz) V)) wr) (fun _ p _=>y.n-(intOf p).toNat)
   case atStart=>exact⟨0,true,Nat.zero_le _,rfl,rfl,Lib.hid (fun _ j hj=>absurd hj (Nat.not_lt_zero j)),((((((Env.again hE.av).af (hE.h4)).lP (hE.h3)).af (hE.h2)).fv (hE.here.1.2)).af (hE.here.2))⟩
   case round=>
    clear hE;obtain⟨k,v,hk,rfl,rfl,HK,hE⟩:=hrel
    by_cases hlt:k<y.n
    rotate_left
    ·
     have hkn:k=y.n:=by omega
     have t1:decide ((k:Int)<(y.n:Int))=false:=decide_eq_false (by omega)
     have t2:¬(k:Int)<(y.n:Int):=by omega
     have HK2:Hid (v=true->Q 10=0):=Lib.hid (fun hv=>Zk.out (by rw[<-hkn];exact HK.out hv));clear HK hkn;have dN:=(hE.h4).cell 18
     go_upto_region 18 with(fail)
     clear dN;clear t1 t2 hlt;have fP:=(hE.h2).cell 28;have lC:=(hE.h2).cell 29;have nL:=(hE.h2).cell 30;have jx:=(hE.h2).cell 31;obtain⟨lO,kI,og,mQ⟩:=(hE.here.2).c4;go_wp2_with fail
     refine hE.br (ec (v:=true) (ca:=(h 7).c) (da:=(h 7).d) (cb:=cz) (db:=dz) ((hE.h3) 7 (by decide)) (hE.here.1.2) (qz.out 7 (by decide)) (by rw[bV];decide+kernel) (decide_eq_true al8.out)) ?_;clear hE fP lC nL jx lO kI og mQ;intro Zh hE;have oU:=(hE.h2).cell 36;have mS:=(hE.h2).cell 37;have lW:=(hE.h2).cell 38;have oV:=(hE.h2).cell 39;obtain⟨om,FP,zL,zM⟩:=(hE.here.2).c4;go_wp2_with fail
     refine hE.br (ec (v:=true) (ca:=(h 9).c) (da:=(h 9).d) (cb:=cz) (db:=dz) ((hE.h3) 9 (by decide)) (hE.here.1.2) (qz.out 9 (by decide)) (by rw[bV];decide+kernel) (decide_eq_true al9.out)) ?_;clear hE oU mS lW oV om FP zL zM;intro w32 hE;have vH:=(hE.h2).cell 40;have Md:=(hE.h2).cell 41;have Rq:=(hE.h2).cell 42;have YX:=(hE.h2).cell 43;have Kr:=(hE.h2).cell 32;have Ek:=(hE.h2).cell 33;have DT:=(hE.h2).cell 34;have zN:=(hE.h2).cell 35;go_wp2_with fail
     refine hE.br (ec (v:=true) (ca:=(h 10).c) (da:=(h 10).d) (cb:=(h 8).c) (db:=(h 8).d) ((hE.h3) 10 (by decide)) ((hE.h3) 8 (by decide)) (qz.out 10 (by decide)) (qz.out 8 (by decide)) (decide_eq_true Mz.out)) ?_;clear hE vH Md Rq YX Kr Ek DT zN;intro w41 hE
     cases v with
     |false=>
      go_upto_region 20 with(fail)
      replace hE:=hE.drew;refine wp_region_held_drew (S:=fun V=>ak 61 (gR) #[.bool (h 0).s,.slice (h 0).A (h 0).n (h 0).c,.bool (h 0).t,.slice (h 0).B (h 0).m (h 0).d,.bool (h 1).s,.slice (h 1).A (h 1).n (h 1).c,.bool (h 1).t,.slice (h 1).B (h 1).m (h 1).d,.bool (h 2).s,.slice (h 2).A (h 2).n (h 2).c,.bool (h 2).t,.slice (h 2).B (h 2).m (h 2).d,.bool (h 3).s,.slice (h 3).A (h 3).n (h 3).c,.bool (h 3).t,.slice (h 3).B (h 3).m (h 3).d,.bool (h 4).s,.slice (h 4).A (h 4).n (h 4).c,.bool (h 4).t,.slice (h 4).B (h 4).m (h 4).d,.bool (h 5).s,.slice (h 5).A (h 5).n (h 5).c,.bool (h 5).t,.slice (h 5).B (h 5).m (h 5).d,.bool (h 6).s,.slice (h 6).A (h 6).n (h 6).c,.bool (h 6).t,.slice (h 6).B (h 6).m (h 6).d,.bool (h 7).s,.slice (h 7).A (h 7).n (h 7).c,.bool (h 7).t,.slice (h 7).B (h 7).m (h 7).d,.bool (h 8).s,.slice (h 8).A (h 8).n (h 8).c,.bool (h 8).t,.slice (h 8).B (h 8).m (h 8).d,.bool (h 9).s,.slice (h 9).A (h 9).n (h 9).c,.bool (h 9).t,.slice (h 9).B (h 9).m (h 9).d,.bool (h 10).s,.slice (h 10).A (h 10).n (h 10).c,.bool (h 10).t,.slice (h 10).B (h 10).m (h 10).d] V) (by kernel_rfl) (hE.h2) (fun hHeld=> ?_)
      generalize w41.drew=wd at*
      refine tk 0 ?_
      refine tk 1 ?_ (hy:=by
       intro w ay;have aee:=(ay).cell 24;have aef:=(ay).cell 25;have aeg:=(ay).cell 26;have aeE:=(ay).cell 27;clear ay
       first|(go_simp;done)|(go_simp;with_reducible rfl))
      try simp only[PL]
      refine tk 2 ?_
      refine tk 3 ?_ (hy:=by
       intro w ay;have IX:=(ay).cell 4;have IY:=(ay).cell 5;have IZ:=(ay).cell 6;have VZ:=(ay).cell 7;clear ay
       first|(go_simp;done)|(go_simp;with_reducible rfl))
      try simp only[PL]
      refine tk 4 ?_
      refine tk 5 ?_ (hy:=by
       intro w ay;have SZ:=(ay).cell 12;have Mh:=(ay).cell 13;have Mi:=(ay).cell 14;have Mj:=(ay).cell 15;clear ay
       first|(go_simp;done)|(go_simp;with_reducible rfl))
      try simp only[PL]
      refine tk 7 ?_
      refine tk 8 ?_ (hy:=by
       intro w ay;have QI:=(ay).cell 8;have Rt:=(ay).cell 9;have uX:=(ay).cell 10;have MN:=(ay).cell 11;clear ay
       first|(go_simp;done)|(go_simp;with_reducible rfl))
      try simp only[PL]
      refine r1 6 (fun K hK=> ?_);go_simp;refine hE.fr (oB (ca:=(h 1).c) (da:=(h 1).d) (cb:=(h 3).c) (db:=(h 3).d) ((hE.h3) 1 (by decide)) ((hE.h3) 3 (by decide)) (qz.out 1 (by decide)) (qz.out 3 (by decide)) Cw.out.1) ?_;clear hE;intro ss As ns cs ts Bs ms ds w42 hE;go_wp2_with fail
      refine hK.out _ _ (hE.h3) (fun hHeld=> ?_);clear hK K;try simp only[PL]
      refine r1 9 (fun K hK=> ?_);go_simp;refine hE.fr (sS (ca:=cs) (da:=ds) (cb:=(h 2).c) (db:=(h 2).d) (hE.here.2) ((hE.h4) 2 (by decide)) Cw.out.1 (qz.out 2 (by decide)) Cw.out.2) ?_;clear hE;intro st At nt ct tt Bt mt dt w43 hE;go_wp2_with fail
      refine hK.out _ _ (hE.h4) (fun hHeld=> ?_);clear hK K;try simp only[PL]
      refine r1 10 (fun K hK=> ?_);go_simp;refine hE.br (ec (v:=true) (ca:=(h 6).c) (da:=(h 6).d) (cb:=ct) (db:=dt) ((hE.h5) 6 (by decide)) (hE.here.2) (qz.out 6 (by decide)) Cw.out.2 (decide_eq_true afG.out)) ?_;clear hE;intro w44 hE;go_wp2_with fail
      refine hK.out _ _ (hE.h4) (fun hHeld=> ?_);clear hK K;try simp only[PL]
      refine tk 11 ?_;refine wpAnyH_done (by kernel_rfl) ?_ _;go_wp2_with fail
      go_ret
      exact⟨rfl,hE.av⟩
     |true=>
      have xw:=(hE.h2).cell 40;have El:=(hE.h2).cell 41;have KT:=(hE.h2).cell 42;have KU:=(hE.h2).cell 43;obtain⟨Km,Ko,KV,QF⟩:=(hE.here.2).c4;go_wp2_with fail
      refine hE.br (ec (v:=true) (ca:=(h 10).c) (da:=(h 10).d) (cb:=cz) (db:=dz) ((hE.h3) 10 (by decide)) (hE.here.1.2) (qz.out 10 (by decide)) (by rw[bV];decide+kernel) (decide_eq_true (HK2.out (by simp)))) ?_;clear hE xw El KT KU Km Ko KV QF;intro w53 hE
      go_upto_region 20 with(fail)
      replace hE:=hE.drew;refine wp_region_held_drew (S:=fun V=>ak 61 (gR) #[.bool (h 0).s,.slice (h 0).A (h 0).n (h 0).c,.bool (h 0).t,.slice (h 0).B (h 0).m (h 0).d,.bool (h 1).s,.slice (h 1).A (h 1).n (h 1).c,.bool (h 1).t,.slice (h 1).B (h 1).m (h 1).d,.bool (h 2).s,.slice (h 2).A (h 2).n (h 2).c,.bool (h 2).t,.slice (h 2).B (h 2).m (h 2).d,.bool (h 3).s,.slice (h 3).A (h 3).n (h 3).c,.bool (h 3).t,.slice (h 3).B (h 3).m (h 3).d,.bool (h 4).s,.slice (h 4).A (h 4).n (h 4).c,.bool (h 4).t,.slice (h 4).B (h 4).m (h 4).d,.bool (h 5).s,.slice (h 5).A (h 5).n (h 5).c,.bool (h 5).t,.slice (h 5).B (h 5).m (h 5).d,.bool (h 6).s,.slice (h 6).A (h 6).n (h 6).c,.bool (h 6).t,.slice (h 6).B (h 6).m (h 6).d,.bool (h 7).s,.slice (h 7).A (h 7).n (h 7).c,.bool (h 7).t,.slice (h 7).B (h 7).m (h 7).d,.bool (h 8).s,.slice (h 8).A (h 8).n (h 8).c,.bool (h 8).t,.slice (h 8).B (h 8).m (h 8).d,.bool (h 9).s,.slice (h 9).A (h 9).n (h 9).c,.bool (h 9).t,.slice (h 9).B (h 9).m (h 9).d,.bool (h 10).s,.slice (h 10).A (h 10).n (h 10).c,.bool (h 10).t,.slice (h 10).B (h 10).m (h 10).d] V) (by kernel_rfl) (hE.h2) (fun hHeld=> ?_)
      generalize w53.drew=wd at*
      refine tk 0 ?_
      refine tk 1 ?_ (hy:=by
       intro w ay;have aee:=(ay).cell 24;have aef:=(ay).cell 25;have aeg:=(ay).cell 26;have aeE:=(ay).cell 27;clear ay
       first|(go_simp;done)|(go_simp;with_reducible rfl))
      try simp only[PL]
      refine tk 2 ?_
      refine tk 3 ?_ (hy:=by
       intro w ay;have IX:=(ay).cell 4;have IY:=(ay).cell 5;have IZ:=(ay).cell 6;have VZ:=(ay).cell 7;clear ay
       first|(go_simp;done)|(go_simp;with_reducible rfl))
      try simp only[PL]
      refine tk 4 ?_
      refine tk 5 ?_ (hy:=by
       intro w ay;have SZ:=(ay).cell 12;have Mh:=(ay).cell 13;have Mi:=(ay).cell 14;have Mj:=(ay).cell 15;clear ay
       first|(go_simp;done)|(go_simp;with_reducible rfl))
      try simp only[PL]
      refine tk 7 ?_
      refine tk 8 ?_ (hy:=by
       intro w ay;have QI:=(ay).cell 8;have Rt:=(ay).cell 9;have uX:=(ay).cell 10;have MN:=(ay).cell 11;clear ay
       first|(go_simp;done)|(go_simp;with_reducible rfl))
      try simp only[PL]
      refine r1 6 (fun K hK=> ?_);go_simp;refine hE.fr (oB (ca:=(h 1).c) (da:=(h 1).d) (cb:=(h 3).c) (db:=(h 3).d) ((hE.h3) 1 (by decide)) ((hE.h3) 3 (by decide)) (qz.out 1 (by decide)) (qz.out 3 (by decide)) Cw.out.1) ?_;clear hE;intro ss As ns cs ts Bs ms ds w54 hE;go_wp2_with fail
      refine hK.out _ _ (hE.h3) (fun hHeld=> ?_);clear hK K;try simp only[PL]
      refine r1 9 (fun K hK=> ?_);go_simp;refine hE.fr (sS (ca:=cs) (da:=ds) (cb:=(h 2).c) (db:=(h 2).d) (hE.here.2) ((hE.h4) 2 (by decide)) Cw.out.1 (qz.out 2 (by decide)) Cw.out.2) ?_;clear hE;intro st At nt ct tt Bt mt dt w55 hE;go_wp2_with fail
      refine hK.out _ _ (hE.h4) (fun hHeld=> ?_);clear hK K;try simp only[PL]
      refine r1 10 (fun K hK=> ?_);go_simp;refine hE.br (ec (v:=true) (ca:=(h 6).c) (da:=(h 6).d) (cb:=ct) (db:=dt) ((hE.h5) 6 (by decide)) (hE.here.2) (qz.out 6 (by decide)) Cw.out.2 (decide_eq_true afG.out)) ?_;clear hE;intro w56 hE;go_wp2_with fail
      refine hK.out _ _ (hE.h4) (fun hHeld=> ?_);clear hK K;try simp only[PL]
      refine tk 11 ?_;refine wpAnyH_done (by kernel_rfl) ?_ _;go_wp2_with fail
      go_ret
      exact⟨rfl,hE.av⟩
    have Nl:nP y.A y.n y.r wr:=(Yh.aA eU.out hE.av).2.2.2;obtain⟨b,o,hA,eP,hc⟩:=Nl (by omega);clear Nl;have Ey:Er y.b y.b (y.r k):=Cv.out.gr hlt;have hit:=Nj Ey eU.out.1 eU.out.1 (eU.out.2.2.2.rd hlt) Cv.out.ok.2.2.2.1 NQ.out.2.2.1;have qA:=Ey.ok.2.1.1;have ox:=Ey.ok.2.2.1;have oy:=vL Ey.ok.1.1 Ey.c0.2 Ey.c0.1 Ey.n0 (Ey.t0 eU.out.1)
    obtain⟨⟨x,z,a,d⟩,hg⟩:∃g,g=y.r k:=⟨_,rfl⟩
    obtain⟨gV,-⟩:=hc k hlt;rw[<-hg] at gV hit qA ox oy;clear hc Ey
    obtain⟨t,rfl⟩:∃t:Nat,z=(t:Int):=⟨z.toNat,by have:0<=z:=qA;omega⟩
    replace ox:0<=a/\a<=1099511627776/\0<=d/\d<=a:=ox;replace oy:y.b.right x.E (x.Y+(t:Int)):=oy;clear qA;have t1:decide ((k:Int)<(y.n:Int))=true:=decide_eq_true (by omega)
    have t2:(k:Int)<(y.n:Int):=by omega
    have hry:0<=x.Y+(t:Int)/\x.Y+(t:Int)<=300:=oy.2.2.2
    have o1:IntKind.i64.wrap (x.Y+(t:Int))=x.Y+(t:Int):=by rw[IntKind.wrap_i64];omega
    have hmv:fr y.b.F y.b.S y.b.n y.b.r x.E (x.Y+(t:Int)) 0=y.b.rt x.E x.Y t:=by rw[KI (k:=t) rfl];rfl
    have hl9:fl (y.b.rt x.E x.Y t)<=256:=hit.l9
    have NV:fl (y.b.rt x.E x.Y t*((a:Int):Rat))<=256:=by rw[Rat.mul_comm];exact hit.b8
    clear hit;have hla:fl ((a:Int):Rat)<=256/\fl ((d:Int):Rat)<=256:=⟨qo (by omega) (by omega),qo (by omega) (by omega)⟩
    obtain⟨v2,mX⟩:∃v2,decide (y.b.rt x.E x.Y t*((a:Int):Rat)=((d:Int):Rat))=v2:=⟨_,rfl⟩
    have d0:wr.cell? ⟨b,o+k*12,none⟩=some (.int .i64 x.E):=gV 0 _ rfl;have d1:wr.cell? ⟨b,o+k*12+1,none⟩=some (.int .i64 x.Y):=gV 1 _ rfl;have d2:wr.cell? ⟨b,o+k*12+2,none⟩=some (.int .i64 x.T):=gV 2 _ rfl;have d3:wr.cell? ⟨b,o+k*12+3,none⟩=some (.bool x.p.s):=gV 3 _ rfl;have d4:wr.cell? ⟨b,o+k*12+4,none⟩=some (.slice x.p.A x.p.n x.p.c):=gV 4 _ rfl;have d5:wr.cell? ⟨b,o+k*12+5,none⟩=some (.bool x.p.t):=gV 5 _ rfl;have d6:wr.cell? ⟨b,o+k*12+6,none⟩=some (.slice x.p.B x.p.m x.p.d):=gV 6 _ rfl;have d7:wr.cell? ⟨b,o+k*12+7,none⟩=some (.slice x.A x.n x.c):=gV 7 _ rfl;have d8:wr.cell? ⟨b,o+k*12+8,none⟩=some (.slice x.B x.m x.d):=gV 8 _ rfl;have d9:wr.cell? ⟨b,o+k*12+9,none⟩=some (.int .i64 (t:Int)):=gV 9 _ rfl;have d10:wr.cell? ⟨b,o+k*12+10,none⟩=some (.int .i64 a):=gV 10 _ rfl;have d11:wr.cell? ⟨b,o+k*12+11,none⟩=some (.int .i64 d):=gV 11 _ rfl;have uZ:=Lib.hid hg;clear hg;have Zl:=Lib.hid oy;clear oy;have Rx:=Lib.hid hmv;clear hmv;have amc:=Lib.hid hl9;clear hl9;have afH:=Lib.hid NV;clear NV;have afI:=Lib.hid hla;clear hla;have afJ:=Lib.hid mX;clear mX;have aqF:=Lib.hid hry;clear hry;clear gV;have kA:=(hE.h4).cell 18;rw[hA] at kA
    go_upto_region 16 with(fail)
    clear d0 d1 d2 d3 d4 d5 d6 d7 d8 d9 d10 d11 t1 t2 kA hA eP
    obtain⟨WD,Jj⟩:∃WD,WD=wr.heap.size:=⟨_,rfl⟩
    have amd:w.heap.size<WD:=by rw[Jj];exact(hE.h4).lt
    have ame:gR<WD:=by rw[Jj];exact(hE.h2).lt
    have amf:g13<WD:=by rw[Jj];exact(hE.here.2).lt
    replace hE:=hE.blk 72 #[.int .i64 x.E,.int .i64 x.Y,.int .i64 x.T,.bool x.p.s,.slice x.p.A x.p.n x.p.c,.bool x.p.t,.slice x.p.B x.p.m x.p.d,.slice x.A x.n x.c,.slice x.B x.m x.d,.int .i64 (t:Int),.int .i64 a,.int .i64 d] (g:=WD) Jj.symm;generalize wr.alloc (.cells #[.int .i64 x.E,.int .i64 x.Y,.int .i64 x.T,.bool x.p.s,.slice x.p.A x.p.n x.p.c,.bool x.p.t,.slice x.p.B x.p.m x.p.d,.slice x.A x.n x.c,.slice x.B x.m x.d,.int .i64 (t:Int),.int .i64 a,.int .i64 d] 72)=W57 at hE⊢;rw[<-Jj];clear Jj;have k58:=(hE.h5).cell 0;have k59:=(hE.h5).cell 1;have k60:=(hE.h5).cell 2;have k61:=(hE.here.2).cell 0;have k62:=(hE.here.2).cell 1;have k63:=(hE.here.2).cell 9;go_wp2_with fail
    refine hE.fr (qh Rx.out (oW (c:=y.b.c) ((Bh.aA eU.out.1 hE.av).1) jw.out.1.1 Zl.out)) ?_;clear hE k58 k59 k60 k61 k62 k63;intro sq Aq nq cq tq Bq mq dq w64 hE
    go_upto_region 17 with(fail)
    obtain⟨WE,EL⟩:∃WE,WE=w64.heap.size:=⟨_,rfl⟩
    have amg:w.heap.size<WE:=by rw[EL];exact(hE.h6).lt
    have amh:gR<WE:=by rw[EL];exact(hE.h4).lt
    have ami:g13<WE:=by rw[EL];exact(hE.h2).lt
    have amj:WD<WE:=by rw[EL];exact(hE.here.1.2).lt
    replace hE:=hE.blk 29 (az sq Aq nq cq tq Bq mq dq) (g:=WE) EL.symm;generalize w64.alloc (.cells (az sq Aq nq cq tq Bq mq dq) 29)=W65 at hE⊢;rw[<-EL];clear EL
    cases v with
    |false=>
     replace hE:=hE.drew;refine wp_region_held_drew (S:=fun V=>True) (by kernel_rfl) (trivial) (fun hHeld=> ?_)
     generalize W65.drew=wd at*
     refine tk 0 ?_;refine tk 1 ?_;refine tu 2 ?_;refine tu 3 ?_;refine tk 4 ?_;refine tk 5 ?_;refine tu 6 ?_;refine tu 7 ?_;refine tu 8 ?_;refine tu 9 ?_;refine tu 10 ?_;refine tu 11 ?_;refine tu 12 ?_;refine tu 13 ?_;refine tu 14 ?_;refine tk 15 ?_;refine tk 16 ?_;refine wpAnyH_done (by kernel_rfl) ?_ _;go_wp2_with fail
     go_roundw
     case rel=>
      refine⟨k+1,false,by omega,by go_num,rfl,Lib.hid (fun hv j hj=> ?_),((((((Env.again hE.av).af (hE.h7)).lP (hE.h6)).af (hE.h5)).fv (hE.h4)).af (hE.h3))⟩
      cases hv
     case measure=>simp[intOf];omega
    |true=>
     replace hE:=hE.drew;refine wp_region_held_drew (S:=fun V=>ak 72 (WD) #[.int .i64 x.E,.int .i64 x.Y,.int .i64 x.T,.bool x.p.s,.slice x.p.A x.p.n x.p.c,.bool x.p.t,.slice x.p.B x.p.m x.p.d,.slice x.A x.n x.c,.slice x.B x.m x.d,.int .i64 (t:Int),.int .i64 a,.int .i64 d] V/\ak 29 (WE) (az sq Aq nq cq tq Bq mq dq) V) (by kernel_rfl) (⟨hE.h2,hE.here.2⟩) (fun hHeld=> ?_)
     generalize W65.drew=wd at*
     refine tk 0 ?_;refine tk 1 ?_;refine tk 2 ?_;refine tk 3 ?_;refine tk 4 ?_;refine tk 5 ?_
     refine tk 6 ?_ (hy:=by
      intro w ay;have iM:=(ay.2).cell 0;have iP:=(ay.2).cell 1;have jb:=(ay.2).cell 2;have jc:=(ay.2).cell 3;clear ay
      first|(go_simp;done)|(go_simp;with_reducible rfl))
     try simp only[PL]
     refine tk 7 ?_
     refine tk 8 ?_ (hy:=by
      intro w ay;have uX:=(ay.1).cell 10;clear ay
      first|(go_simp;done)|(go_simp;with_reducible rfl))
     try simp only[PL]
     refine tk 11 ?_
     refine tk 12 ?_ (hy:=by
      intro w ay;have MN:=(ay.1).cell 11;clear ay
      first|(go_simp;done)|(go_simp;with_reducible rfl))
     try simp only[PL]
     refine r1 9 (fun K hK=> ?_);go_simp;refine hE.fr (aR a _ (by omega) (by omega)) ?_;clear hE;intro sa Aa na ca ta Ba ma da w66 hE;go_wp2_with fail
     refine hK.out _ _ (⟨hE.h3,hE.here.1.2⟩) (fun hHeld=> ?_);clear hK K;try simp only[PL]
     refine r1 10 (fun K hK=> ?_);go_simp;refine hE.fr (EM (ca:=cq) (da:=dq) (cb:=ca) (db:=da) (hE.h2) (hE.here.2) amc.out afI.out.1 afH.out) ?_;clear hE;intro sp Ap np cp tp Bp mp dp w67 hE;go_wp2_with fail
     refine hK.out _ _ (⟨hE.h4,hE.h2⟩) (fun hHeld=> ?_);clear hK K;try simp only[PL]
     refine r1 13 (fun K hK=> ?_);go_simp;refine hE.fr (aR d _ (by omega) (by omega)) ?_;clear hE;intro sd Ad nd cd td Bd md dd w68 hE;go_wp2_with fail
     refine hK.out _ _ (⟨hE.h5,hE.h3⟩) (fun hHeld=> ?_);clear hK K;try simp only[PL]
     refine r1 14 (fun K hK=> ?_);go_simp;refine hE.br (ec (v:=v2) (ca:=cp) (da:=dp) (cb:=cd) (db:=dd) (hE.here.1.2) (hE.here.2) afH.out afI.out.2 afJ.out) ?_;clear hE;intro w69 hE;go_wp2_with fail
     refine hK.out _ _ (⟨hE.h5,hE.h3⟩) (fun hHeld=> ?_);clear hK K;try simp only[PL]
     refine tk 15 ?_;refine tk 16 ?_;refine wpAnyH_done (by kernel_rfl) ?_ _;go_wp2_with fail
     go_roundw
     case rel=>
      refine⟨k+1,v2,by omega,by go_num,rfl,Lib.hid (fun hv j hj=> ?_),((((((Env.again hE.av).af (hE.h10)).lP (hE.h9)).af (hE.h8)).fv (hE.h7)).af (hE.h6))⟩
      by_cases e:j=k
      ·subst e;rw[<-uZ.out];exact of_decide_eq_true (afJ.out.trans hv)
      ·exact HK.out (by simp) j (by omega)
     case measure=>simp[intOf];omega
end Go.Proofs.YtclbiihcbfnjmaaGreat
