/-
  Parts.
-/
import Derived.Test.YtclbiihcbfnjmaaGreatK2
import Derived.Test.YtclbiihcbfnjmaaGreatK8
import Derived.Test.YtclbiihcbfnjmaaGreatK19
set_option linter.unusedSimpArgs false
set_option maxRecDepth 100000
set_option maxHeartbeats 8000000
namespace Go.Proofs.YtclbiihcbfnjmaaGreat
open Go.RowKit

theorem cpaid_v {F S E Y:Int}{A:Option Addr}{n c:Nat}{r:Nat->RH}{si ti:Bool}{Ai Bi:Option Addr}{ni ci mi di:Nat}{q:Rat}{w u:World}(hbu:Below w.heap.size w u)(hT:TabM w A n r)(hB:TabB n r)(hq:FV w q si Ai ni ti Bi mi)(hi:Rti q)(hR:RightP F S n r E Y)(N:Nat)(hN:Cnt (1/(1+q)) (fr F S n r E Y) N)(h80:N<=80)(Bp:Nat)(hBw:w.heap.size<=Bp)(hBp:Blk 133 Bp #[.int .i64 F,.int .i64 S,.slice A n c,.bool si,.slice Ai ni ci,.bool ti,.slice Bi mi di,.int .i64 E,.int .i64 Y,.slice none 0 0] u):
  Calls Tryz.prog 57 #[.pointer (some ⟨Bp,0,none⟩)] u (fun e u'=>(∃x,e= .returned x)/\∃cs0 h,Blk 133 Bp #[.int .i64 F,.int .i64 S,.slice A n c,.bool si,.slice Ai ni ci,.bool ti,.slice Bi mi di,.int .i64 E,.int .i64 Y,cs0] u'/\ColV u.heap.size cs0 N h u'/\ColQ h N (fun _ j=>j=0\/j=3) (colq (1/(1+q)) (fr F S n r E Y) N) u'/\Kept u Bp u'/\Below w.heap.size w u'):=by
 obtain⟨v,hv⟩:∃v,v=1/(1+q):=⟨_,rfl⟩
 obtain⟨f,hf⟩:∃f,f=fr F S n r E Y:=⟨_,rfl⟩
 rw[<-hv,<-hf] at hN;rw[<-hv,<-hf]
 have hD:Dis v:=by rw[hv];exact hi.dis
 have hrts:Rts f N:=by rw[hf];exact rt_rates (hT) hR N
 have hb100:3*N+3<=255:=by omega
 have hdl:∀k,k<=N->fl (dd v f k)<=256:=fun k hk=>(dd_ql hD hrts hk).l (by decide) (by decide) (by omega)
 have hnl:∀k,k<=N->fl (v*dd v f k)<=256:=fun k hk=>(hD.ql.mul (dd_ql hD hrts hk)).l (by decide) (by decide) (by omega)
 have hcl:∀k,k<N->fl (v*dd v f k*f k)<=256:=fun k hk=>(cc_ql hD hrts hk).l (by decide) (by decide) (by omega)
 have hrl:∀k,k<N->fl (f k)<=256:=fun k hk=>Nat.le_trans (rate_fl hrts hk) (by decide)
 have hvl:fl v<=256:=hD.ql.l (by decide) (by decide) (by decide);have Hhv:=Lib.hid hv;clear hv;have Hhf:=Lib.hid hf;clear hf;have HhN:=Lib.hid hN;clear hN;have HhD:=Lib.hid hD;clear hD;have Hhrts:=Lib.hid hrts;clear hrts;have Hhdl:=Lib.hid hdl;clear hdl;have Hhnl:=Lib.hid hnl;clear hnl;have Hhcl:=Lib.hid hcl;clear hcl;have Hhrl:=Lib.hid hrl;clear hrl;have Hhvl:=Lib.hid hvl;clear hvl;have HhR:=Lib.hid hR;clear hR;have Hhi:=Lib.hid hi;clear hi;have Hhb100:=Lib.hid hb100;clear hb100;have HhT:=Lib.hid hT;clear hT;have Hhq:=Lib.hid hq;clear hq;have HhB:=Lib.hid hB;clear hB;have hE:=((Env.again hbu).blkI hBp).kept (Kept.refl u Bp);clear hBp;have hws:w.heap.size<=u.heap.size:=hbu.size
 go_enter Tryz.func57,Tryz.ntmps57
 go_upto_region 0 with(fail)
 obtain⟨k1,k2,k3,k4,k5,k6,k7,k8,k9,k10⟩:=(hE.here.1.2).c10;go_wp2_with fail
 have hc:=cdiscount_v (F:=F) (S:=S) (A:=A) (n:=n) (c:=c) (ci:=ci) (di:=di) (Hhq.out.below hE.bel) Hhi.out;rw[<-Hhv.out] at hc;refine hE.fr (hc) ?_;clear hE k1 k2 k3 k4 k5 k6 k7 k8 k9 k10;intro sv Av nv cv tv Bv mv dv w11 hE;clear hc
 go_upto_region 1 with(fail)
 obtain⟨g12,hg12⟩:∃g12,g12=w11.heap.size:=⟨_,rfl⟩
 have hl12_0:Bp<g12:=by rw[hg12];exact(hE.h2).lt
 have hu12:u.heap.size<=g12:=by rw[hg12];exact(hE.here.1.2).size
 replace hE:=hE.blk 29 (qf4 sv Av nv cv tv Bv mv dv) (g:=g12) hg12.symm;generalize w11.alloc (.cells (qf4 sv Av nv cv tv Bv mv dv) 29)=W12 at hE⊢;rw[<-hg12];clear hg12;go_wp2_with fail
 have hc:=ffromInt_v 1 W12 (by decide) (by decide);rw[show(((1:Int):Rat))=dd v f 0 from rfl] at hc;refine hE.fr (hc) ?_;clear hE;intro sz Az nz cz tz Bz mz dz w13 hE;clear hc
 go_upto_region 2 with(fail)
 obtain⟨g14,hg14⟩:∃g14,g14=w13.heap.size:=⟨_,rfl⟩
 have hl14_0:Bp<g14:=by rw[hg14];exact(hE.h4).lt
 have hu14:u.heap.size<=g14:=by rw[hg14];exact(hE.h3).size
 have hl14_3:g12<g14:=by rw[hg14];exact(hE.here.1.2).lt
 replace hE:=hE.blk 29 (qf4 sz Az nz cz tz Bz mz dz) (g:=g14) hg14.symm;generalize w13.alloc (.cells (qf4 sz Az nz cz tz Bz mz dz) 29)=W14 at hE⊢;rw[<-hg14];clear hg14;obtain⟨k15,k16,k17,k18,k19,k20,k21,k22,k23,k24⟩:=(hE.h5).c10;go_wp2_with fail
 clear k15 k16 k17 k18 k19 k20 k21 k22 k23 k24
 obtain⟨g25,hg25⟩:∃g25,g25=W14.heap.size:=⟨_,rfl⟩
 have hl25_0:Bp<g25:=by rw[hg25];exact(hE.h5).lt
 have hu25:u.heap.size<=g25:=by rw[hg25];exact(hE.h4).size
 have hl25_3:g12<g25:=by rw[hg25];exact(hE.h2).lt
 have hl25_5:g14<g25:=by rw[hg25];exact(hE.here.2).lt
 replace hE:=hE.blk 33 #[.int .i64 E,.int .i64 Y] (g:=g25) hg25.symm;generalize W14.alloc (.cells #[.int .i64 E,.int .i64 Y] 33)=W25 at hE⊢;rw[<-hg25];clear hg25
 go_loopw [4] (fun p wr=>∃(k gx:Nat) (yr:Int) (cs0:Value) (h:Nat->Nat->Q8) (sz:Bool) (Az:Option Addr) (nz cz:Nat) (tz:Bool) (Bz:Option Addr) (mz dz:Nat),k<=N/\yr=Y+(k:Int)/\p= .pointer (some ⟨gx,0,none⟩)/\g14<gx/\Env w (fun V=>(((((((((True/\Blk 133 (Bp) #[.int .i64 F,.int .i64 S,.slice A n c,.bool si,.slice Ai ni ci,.bool ti,.slice Bi mi di,.int .i64 E,.int .i64 Y,cs0] V)/\Kept u Bp V)/\FV V v sv Av nv tv Bv mv)/\Blk 29 (g12) (qf4 sv Av nv cv tv Bv mv dv) V)/\FV V (dd v f k) sz Az nz tz Bz mz)/\Blk 29 (g14) (qf4 sz Az nz cz tz Bz mz dz) V)/\Blk 33 (gx) #[.int .i64 E,.int .i64 yr] V)/\ColV u.heap.size cs0 k h V)/\ColQ h k (fun _ j=>j=0\/j=3) (colq v f N) V)) wr) (fun p wr=>(Y+(N:Int)-yearAt p wr).toNat)
 case atStart=>
  exact⟨0,_,Y,_,fun _ _=>Q8.z,_,_,_,_,_,_,_,_,Nat.zero_le _,by simp,rfl,by omega,((((((((((Env.again hE.bel).blkI (hE.h6)).kept (hE.h5)).fv (hE.h4)).blkI (hE.h3)).fv (hE.h2)).blkI (hE.here.1.2)).blkI (hE.here.2)).colv (.inl ⟨rfl,rfl⟩)).colq (fun k hk=>absurd hk (Nat.not_lt_zero _)))⟩
 case round=>
  clear hE;obtain⟨k,gx,yr,cs0,h,sz,Az,nz,cz,tz,Bz,mz,dz,hk,hyr,rfl,hgx,hE⟩:=hrel;have HYR:=Lib.hid hyr;clear hyr;have HX:=Lib.hid (hE.h2)
  have hgu:u.heap.size<=g14:=by omega
  have hgw:w.heap.size<=u.heap.size:=hws
  by_cases hkN:k=N
  ·
   have hz0:nz=0:=(FV.nz hE.h4).2 (by rw[hkN];exact HhN.out.1);subst hkN;subst hz0;obtain⟨k26,k27,k28,k29⟩:=(hE.h3).c4;go_wp2_with fail
   clear k26 k27 k28 k29
   go_end0
   exact⟨⟨_,rfl⟩,cs0,h,hE.h8,hE.here.1.2,hE.here.2,hE.h7,hE.bel⟩
  ·
   have hkl:k<N:=by omega
   have hz1:0<nz:=Nat.pos_of_ne_zero (fun e0=>HhN.out.2 k hkl ((FV.nz hE.h4).1 e0));have t1:decide ((0:Int)<(nz:Int))=true:=decide_eq_true (by omega)
   have t2:(0:Int)<(nz:Int):=by omega
   have t3:decide (0<nz)=true:=decide_eq_true hz1;have hN100:N<=80:=h80;obtain⟨k30,k31,k32,k33⟩:=(hE.h3).c4;go_wp2_with fail
   refine hE.fr (ffromInt_v 1 _ (by decide) (by decide)) ?_;clear hE k30 k31 k32 k33;intro sa Aa na ca ta Ba ma da w34 hE;clear t1 t2 t3 hz1
   go_upto_region 6 with(fail)
   obtain⟨g35,hg35⟩:∃g35,g35=w34.heap.size:=⟨_,rfl⟩
   have hl35_0:Bp<g35:=by rw[hg35];exact(hE.h9).lt
   have hu35:u.heap.size<=g35:=by rw[hg35];exact(hE.h8).size
   have hl35_3:g12<g35:=by rw[hg35];exact(hE.h6).lt
   have hl35_5:g14<g35:=by rw[hg35];exact(hE.h4).lt
   have hl35_6:gx<g35:=by rw[hg35];exact(hE.h3).lt
   replace hE:=hE.blk 29 (qf4 sa Aa na ca ta Ba ma da) (g:=g35) hg35.symm;generalize w34.alloc (.cells (qf4 sa Aa na ca ta Ba ma da) 29)=W35 at hE⊢;rw[<-hg35];clear hg35
   by_cases h300:yr<=300
   ·
    have HR2:=Lib.hid (right_at HhR.out HYR.out h300);have Hfk:Hid (fr F S n r E yr 0=f k):=Lib.hid (by rw[Hhf.out];exact fr_at HYR.out)
    go_cut [6,7] from 30 to 40 (fun p0 p1 wx=>∃G6 sj Aj nj cj tj Bj mj dj,p0= .pointer (some ⟨G6,0,none⟩)/\p1= .int .i64 0/\g35<G6/\Env w (fun V=>(((((((((((((True/\Blk 133 (Bp) #[.int .i64 F,.int .i64 S,.slice A n c,.bool si,.slice Ai ni ci,.bool ti,.slice Bi mi di,.int .i64 E,.int .i64 Y,cs0] V)/\Kept u Bp V)/\FV V v sv Av nv tv Bv mv)/\Blk 29 (g12) (qf4 sv Av nv cv tv Bv mv dv) V)/\FV V (dd v f k) sz Az nz tz Bz mz)/\Blk 29 (g14) (qf4 sz Az nz cz tz Bz mz dz) V)/\Blk 33 (gx) #[.int .i64 E,.int .i64 yr] V)/\ColV u.heap.size cs0 k h V)/\ColQ h k (fun _ j=>j=0\/j=3) (colq v f N) V)/\FV V ((1:Int):Rat) sa Aa na ta Ba ma)/\Blk 29 (g35) (qf4 sa Aa na ca ta Ba ma da) V)/\FV V (f k) sj Aj nj tj Bj mj)/\Blk 29 (G6) (qf4 sj Aj nj cj tj Bj mj dj) V)) wx)
    case first=>
     replace hE:=hE.drew;refine wp_region_held_drew (S:=fun w'=>w'.cell? ⟨Bp,0,none⟩=some (.int .i64 F)/\w'.cell? ⟨Bp,1,none⟩=some (.int .i64 S)/\w'.cell? ⟨Bp,2,none⟩=some (.slice A n c)/\w'.cell? ⟨Bp,3,none⟩=some (.bool si)/\w'.cell? ⟨Bp,4,none⟩=some (.slice Ai ni ci)/\w'.cell? ⟨Bp,5,none⟩=some (.bool ti)/\w'.cell? ⟨Bp,6,none⟩=some (.slice Bi mi di)/\w'.cell? ⟨Bp,7,none⟩=some (.int .i64 E)/\w'.cell? ⟨Bp,8,none⟩=some (.int .i64 Y)/\w'.cell? ⟨Bp,9,none⟩=some (cs0)/\w'.cell? ⟨gx,0,none⟩=some (.int .i64 E)/\w'.cell? ⟨gx,1,none⟩=some (.int .i64 yr)) (by kernel_rfl) (⟨(hE.h10).c10.1,(hE.h10).c10.2.1,(hE.h10).c10.2.2.1,(hE.h10).c10.2.2.2.1,(hE.h10).c10.2.2.2.2.1,(hE.h10).c10.2.2.2.2.2.1,(hE.h10).c10.2.2.2.2.2.2.1,(hE.h10).c10.2.2.2.2.2.2.2.1,(hE.h10).c10.2.2.2.2.2.2.2.2.1,(hE.h10).c10.2.2.2.2.2.2.2.2.2,(hE.h4).c2.1,(hE.h4).c2.2⟩) (fun hHeld=> ?_)
     generalize W35.drew=wd at*
     refine tk 0 ?_;refine tk 1 ?_;refine tk 2 ?_;refine tk 3 ?_;refine tk 4 ?_;refine tk 5 ?_;refine wpAnyH_ready (rs:=[6,10]) (by kernel_rfl) (by simp) (AllReadyH.cons rfl (fun K hK=> ?_) (AllReadyH.cons rfl (fun K hK=> ?_) (AllReadyH.nil)))
     ·
      go_simp;have hc:=lRate_v (c:=c) (HhT.out.below hE.bel) HhB.out HR2.out;rw[Hfk.out] at hc;refine hE.fr (hc) ?_;clear hE;intro sj Aj nj cj tj Bj mj dj w36 hE;clear hc;go_wp2_with fail
      refine hK.out _ _ (⟨(hE.h11).c10.1,(hE.h11).c10.2.1,(hE.h11).c10.2.2.1,(hE.h11).c10.2.2.2.1,(hE.h11).c10.2.2.2.2.1,(hE.h11).c10.2.2.2.2.2.1,(hE.h11).c10.2.2.2.2.2.2.1,(hE.h11).c10.2.2.2.2.2.2.2.1,(hE.h11).c10.2.2.2.2.2.2.2.2.1,(hE.h11).c10.2.2.2.2.2.2.2.2.2,(hE.h5).c2.1,(hE.h5).c2.2⟩) (fun hHeld=> ?_);clear hK K;try simp only[PL]
      refine tk 7 ?_;refine tk 8 ?_;refine tk 9 ?_;refine r1 10 (fun K hK=> ?_);go_simp
      obtain⟨g37,hg37⟩:∃g37,g37=w36.heap.size:=⟨_,rfl⟩
      have hl37_0:Bp<g37:=by rw[hg37];exact(hE.h11).lt
      have hu37:u.heap.size<=g37:=by rw[hg37];exact(hE.h10).size
      have hl37_3:g12<g37:=by rw[hg37];exact(hE.h8).lt
      have hl37_5:g14<g37:=by rw[hg37];exact(hE.h6).lt
      have hl37_6:gx<g37:=by rw[hg37];exact(hE.h5).lt
      have hl37_10:g35<g37:=by rw[hg37];exact(hE.here.1.2).lt
      replace hE:=hE.blk 29 qz4 (g:=g37) hg37.symm;generalize w36.alloc (.cells qz4 29)=W37 at hE⊢;rw[<-hg37];clear hg37;refine hK.out _ _ (⟨(hE.h12).c10.1,(hE.h12).c10.2.1,(hE.h12).c10.2.2.1,(hE.h12).c10.2.2.2.1,(hE.h12).c10.2.2.2.2.1,(hE.h12).c10.2.2.2.2.2.1,(hE.h12).c10.2.2.2.2.2.2.1,(hE.h12).c10.2.2.2.2.2.2.2.1,(hE.h12).c10.2.2.2.2.2.2.2.2.1,(hE.h12).c10.2.2.2.2.2.2.2.2.2,(hE.h6).c2.1,(hE.h6).c2.2⟩) (fun hHeld=> ?_);clear hK K;try simp only[PL]
      refine r1 11 (fun K hK=> ?_)
      have hgl38:w.heap.size<=g37:=by omega
      obtain⟨x38_0,x38_1,x38_2,x38_3⟩:=(hE.here.2).c4;obtain⟨f38_0,f38_1,f38_2,f38_3⟩:=hE.here.2.f4;replace hE:=((((((((((((((Env.again (bel4 hE.bel hgl38 (.bool sj) (.slice Aj nj cj) (.bool tj) (.slice Bj mj dj))).blkI ((hE.h12).far4 (by omega) _ _ _ _)).kept ((hE.h11).set4 (by first|exact .inr rfl|exact .inl (by omega)) _ _ _ _)).fv ((hE.h10).sep4 hE.here.2 rfl _ _ _ _ rfl rfl rfl)).blkI ((hE.h9).far4 (by omega) _ _ _ _)).fv ((hE.h8).sep4 hE.here.2 rfl _ _ _ _ rfl rfl rfl)).blkI ((hE.h7).far4 (by omega) _ _ _ _)).blkI ((hE.h6).far4 (by omega) _ _ _ _)).colv ((hE.h5).far4 (hE.here.2) (by decide) _ _ _ _)).colq ((hE.h4).sep4 (hE.here.2) rfl _ _ _ _ rfl rfl rfl)).fv ((hE.h3).sep4 hE.here.2 rfl _ _ _ _ rfl rfl rfl)).blkI ((hE.h2).far4 (by omega) _ _ _ _)).fv ((hE.here.1.2).sep4 hE.here.2 rfl _ _ _ _ rfl rfl rfl)).blkI ((hE.here.2).s4 _ _ _ _));go_simp;clear x38_0 x38_1 x38_2 x38_3 f38_0 f38_1 f38_2 f38_3 hgl38;generalize ((((W37.setCell ⟨g37,0,none⟩ (.bool sj)).setCell ⟨g37,1,none⟩ (.slice Aj nj cj)).setCell ⟨g37,2,none⟩ (.bool tj)).setCell ⟨g37,3,none⟩ (.slice Bj mj dj))=W38 at hE⊢;refine hK.out _ _ (⟨(hE.h12).c10.1,(hE.h12).c10.2.1,(hE.h12).c10.2.2.1,(hE.h12).c10.2.2.2.1,(hE.h12).c10.2.2.2.2.1,(hE.h12).c10.2.2.2.2.2.1,(hE.h12).c10.2.2.2.2.2.2.1,(hE.h12).c10.2.2.2.2.2.2.2.1,(hE.h12).c10.2.2.2.2.2.2.2.2.1,(hE.h12).c10.2.2.2.2.2.2.2.2.2,(hE.h6).c2.1,(hE.h6).c2.2⟩) (fun hHeld=> ?_);clear hK K;try simp only[PL]
      refine tk 12 ?_;refine wpAnyH_done (by kernel_rfl) ?_ _;go_wp2_with fail
      go_meet
      exact⟨g37,sj,Aj,nj,cj,tj,Bj,mj,dj,rfl,rfl,by omega,((((((((((((((Env.again hE.bel).blkI (hE.h12)).kept (hE.h11)).fv (hE.h10)).blkI (hE.h9)).fv (hE.h8)).blkI (hE.h7)).blkI (hE.h6)).colv (hE.h5)).colq (hE.h4)).fv (hE.h3)).blkI (hE.h2)).fv (hE.here.1.2)).blkI (hE.here.2))⟩
     ·
      go_simp
      obtain⟨g39,hg39⟩:∃g39,g39=wd.heap.size:=⟨_,rfl⟩
      have hl39_0:Bp<g39:=by rw[hg39];exact(hE.h10).lt
      have hu39:u.heap.size<=g39:=by rw[hg39];exact(hE.h9).size
      have hl39_3:g12<g39:=by rw[hg39];exact(hE.h7).lt
      have hl39_5:g14<g39:=by rw[hg39];exact(hE.h5).lt
      have hl39_6:gx<g39:=by rw[hg39];exact(hE.h4).lt
      have hl39_10:g35<g39:=by rw[hg39];exact(hE.here.2).lt
      replace hE:=hE.blk 29 qz4 (g:=g39) hg39.symm;generalize wd.alloc (.cells qz4 29)=W39 at hE⊢;rw[<-hg39];clear hg39;refine hK.out _ _ (⟨(hE.h11).c10.1,(hE.h11).c10.2.1,(hE.h11).c10.2.2.1,(hE.h11).c10.2.2.2.1,(hE.h11).c10.2.2.2.2.1,(hE.h11).c10.2.2.2.2.2.1,(hE.h11).c10.2.2.2.2.2.2.1,(hE.h11).c10.2.2.2.2.2.2.2.1,(hE.h11).c10.2.2.2.2.2.2.2.2.1,(hE.h11).c10.2.2.2.2.2.2.2.2.2,(hE.h5).c2.1,(hE.h5).c2.2⟩) (fun hHeld=> ?_);clear hK K;try simp only[PL]
      refine r1 6 (fun K hK=> ?_);go_simp;have hc:=lRate_v (c:=c) (HhT.out.below hE.bel) HhB.out HR2.out;rw[Hfk.out] at hc;refine hE.fr (hc) ?_;clear hE;intro sj Aj nj cj tj Bj mj dj w40 hE;clear hc;go_wp2_with fail
      refine hK.out _ _ (⟨(hE.h12).c10.1,(hE.h12).c10.2.1,(hE.h12).c10.2.2.1,(hE.h12).c10.2.2.2.1,(hE.h12).c10.2.2.2.2.1,(hE.h12).c10.2.2.2.2.2.1,(hE.h12).c10.2.2.2.2.2.2.1,(hE.h12).c10.2.2.2.2.2.2.2.1,(hE.h12).c10.2.2.2.2.2.2.2.2.1,(hE.h12).c10.2.2.2.2.2.2.2.2.2,(hE.h6).c2.1,(hE.h6).c2.2⟩) (fun hHeld=> ?_);clear hK K;try simp only[PL]
      refine tk 7 ?_;refine tk 8 ?_;refine tk 9 ?_;refine r1 11 (fun K hK=> ?_)
      have hgl41:w.heap.size<=g39:=by omega
      obtain⟨x41_0,x41_1,x41_2,x41_3⟩:=(hE.here.1.2).c4;obtain⟨f41_0,f41_1,f41_2,f41_3⟩:=hE.here.1.2.f4;replace hE:=((((((((((((((Env.again (bel4 hE.bel hgl41 (.bool sj) (.slice Aj nj cj) (.bool tj) (.slice Bj mj dj))).blkI ((hE.h12).far4 (by omega) _ _ _ _)).kept ((hE.h11).set4 (by first|exact .inr rfl|exact .inl (by omega)) _ _ _ _)).fv ((hE.h10).sep4 hE.here.1.2 rfl _ _ _ _ rfl rfl rfl)).blkI ((hE.h9).far4 (by omega) _ _ _ _)).fv ((hE.h8).sep4 hE.here.1.2 rfl _ _ _ _ rfl rfl rfl)).blkI ((hE.h7).far4 (by omega) _ _ _ _)).blkI ((hE.h6).far4 (by omega) _ _ _ _)).colv ((hE.h5).far4 (hE.here.1.2) (by decide) _ _ _ _)).colq ((hE.h4).sep4 (hE.here.1.2) rfl _ _ _ _ rfl rfl rfl)).fv ((hE.h3).sep4 hE.here.1.2 rfl _ _ _ _ rfl rfl rfl)).blkI ((hE.h2).far4 (by omega) _ _ _ _)).blkI ((hE.here.1.2).s4 _ _ _ _)).fv ((hE.here.2).sep4 hE.here.1.2 rfl _ _ _ _ rfl rfl rfl));go_simp;clear x41_0 x41_1 x41_2 x41_3 f41_0 f41_1 f41_2 f41_3 hgl41;generalize ((((w40.setCell ⟨g39,0,none⟩ (.bool sj)).setCell ⟨g39,1,none⟩ (.slice Aj nj cj)).setCell ⟨g39,2,none⟩ (.bool tj)).setCell ⟨g39,3,none⟩ (.slice Bj mj dj))=W41 at hE⊢;refine hK.out _ _ (⟨(hE.h12).c10.1,(hE.h12).c10.2.1,(hE.h12).c10.2.2.1,(hE.h12).c10.2.2.2.1,(hE.h12).c10.2.2.2.2.1,(hE.h12).c10.2.2.2.2.2.1,(hE.h12).c10.2.2.2.2.2.2.1,(hE.h12).c10.2.2.2.2.2.2.2.1,(hE.h12).c10.2.2.2.2.2.2.2.2.1,(hE.h12).c10.2.2.2.2.2.2.2.2.2,(hE.h6).c2.1,(hE.h6).c2.2⟩) (fun hHeld=> ?_);clear hK K;try simp only[PL]
      refine tk 12 ?_;refine wpAnyH_done (by kernel_rfl) ?_ _;go_wp2_with fail
      go_meet
      exact⟨g39,sj,Aj,nj,cj,tj,Bj,mj,dj,rfl,rfl,by omega,((((((((((((((Env.again hE.bel).blkI (hE.h12)).kept (hE.h11)).fv (hE.h10)).blkI (hE.h9)).fv (hE.h8)).blkI (hE.h7)).blkI (hE.h6)).colv (hE.h5)).colq (hE.h4)).fv (hE.h3)).blkI (hE.h2)).fv (hE.here.2)).blkI (hE.here.1.2))⟩
    case rest=>
    clear hE;obtain⟨G6,sj,Aj,nj,cj,tj,Bj,mj,dj,rfl,rfl,hG6,hE⟩:=hcut;generalize wc=wk6 at hE⊢
    go_upto_region 7 with(fail)
    obtain⟨k42,k43,k44,k45⟩:=(hE.here.2).c4
    have hgl46:w.heap.size<=g35:=by omega
    obtain⟨x46_0,x46_1,x46_2,x46_3⟩:=(hE.h2).c4;obtain⟨f46_0,f46_1,f46_2,f46_3⟩:=hE.h2.f4;replace hE:=((((((((((((((Env.again (bel4 hE.bel hgl46 (.bool sj) (.slice Aj nj cj) (.bool tj) (.slice Bj mj dj))).blkI ((hE.h12).far4 (by omega) _ _ _ _)).kept ((hE.h11).set4 (by first|exact .inr rfl|exact .inl (by omega)) _ _ _ _)).fv ((hE.h10).sep4 hE.h2 rfl _ _ _ _ rfl rfl rfl)).blkI ((hE.h9).far4 (by omega) _ _ _ _)).fv ((hE.h8).sep4 hE.h2 rfl _ _ _ _ rfl rfl rfl)).blkI ((hE.h7).far4 (by omega) _ _ _ _)).blkI ((hE.h6).far4 (by omega) _ _ _ _)).colv ((hE.h5).far4 (hE.h2) (by decide) _ _ _ _)).colq ((hE.h4).sep4 (hE.h2) rfl _ _ _ _ rfl rfl rfl)).fv ((hE.h3).sep4 hE.h2 rfl _ _ _ _ rfl rfl rfl)).blkI ((hE.h2).s4 _ _ _ _)).fv ((hE.here.1.2).sep4 hE.h2 rfl _ _ _ _ rfl rfl rfl)).blkI ((hE.here.2).far4 (by omega) _ _ _ _))
    go_upto_region 9 with(fail)
    clear x46_0 x46_1 x46_2 x46_3 f46_0 f46_1 f46_2 f46_3 hgl46;generalize ((((wk6.setCell ⟨g35,0,none⟩ (.bool sj)).setCell ⟨g35,1,none⟩ (.slice Aj nj cj)).setCell ⟨g35,2,none⟩ (.bool tj)).setCell ⟨g35,3,none⟩ (.slice Bj mj dj))=W46 at hE⊢;clear k42 k43 k44 k45;obtain⟨k47,k48,k49,k50⟩:=(hE.h9).c4;obtain⟨k51,k52,k53,k54⟩:=(hE.h7).c4;go_wp2_with fail
    refine hE.fr (ctimes_v (ca:=cv) (da:=dv) (cb:=cz) (db:=dz) hE.h10 hE.h8 Hhvl.out (Hhdl.out k hk) (Hhnl.out k hk)) ?_;clear hE k47 k48 k49 k50 k51 k52 k53 k54;intro sx Ax nx cx tx Bx mx dx w55 hE
    go_upto_region 10 with(fail)
    obtain⟨g56,hg56⟩:∃g56,g56=w55.heap.size:=⟨_,rfl⟩
    have hl56_0:Bp<g56:=by rw[hg56];exact(hE.h13).lt
    have hu56:u.heap.size<=g56:=by rw[hg56];exact(hE.h12).size
    have hl56_3:g12<g56:=by rw[hg56];exact(hE.h10).lt
    have hl56_5:g14<g56:=by rw[hg56];exact(hE.h8).lt
    have hl56_6:gx<g56:=by rw[hg56];exact(hE.h7).lt
    have hl56_10:g35<g56:=by rw[hg56];exact(hE.h3).lt
    have hl56_12:G6<g56:=by rw[hg56];exact(hE.here.1.2).lt
    replace hE:=hE.blk 29 (qf4 sx Ax nx cx tx Bx mx dx) (g:=g56) hg56.symm;generalize w55.alloc (.cells (qf4 sx Ax nx cx tx Bx mx dx) 29)=W56 at hE⊢;rw[<-hg56];clear hg56;obtain⟨k57,k58,k59,k60⟩:=(hE.here.2).c4;obtain⟨k61,k62,k63,k64⟩:=(hE.h4).c4;go_wp2_with fail
    refine hE.fr (ctimes_v (ca:=cx) (da:=dx) (cb:=cj) (db:=dj) hE.here.1.2 hE.h3 (Hhnl.out k hk) (Hhrl.out k hkl) (Hhcl.out k hkl)) ?_;clear hE k57 k58 k59 k60 k61 k62 k63 k64;intro sy Ay ny cy ty By my dy w65 hE
    go_upto_region 11 with(fail)
    obtain⟨g66,hg66⟩:∃g66,g66=w65.heap.size:=⟨_,rfl⟩
    have hl66_0:Bp<g66:=by rw[hg66];exact(hE.e8.1.1.1.1.1.1.1.2).lt
    have hu66:u.heap.size<=g66:=by rw[hg66];exact(hE.e8.1.1.1.1.1.1.2).size
    have hl66_3:g12<g66:=by rw[hg66];exact(hE.h12).lt
    have hl66_5:g14<g66:=by rw[hg66];exact(hE.h10).lt
    have hl66_6:gx<g66:=by rw[hg66];exact(hE.h9).lt
    have hl66_10:g35<g66:=by rw[hg66];exact(hE.h5).lt
    have hl66_12:G6<g66:=by rw[hg66];exact(hE.h3).lt
    have hl66_14:g56<g66:=by rw[hg66];exact(hE.here.1.2).lt
    replace hE:=hE.blk 29 (qf4 sy Ay ny cy ty By my dy) (g:=g66) hg66.symm;generalize w65.alloc (.cells (qf4 sy Ay ny cy ty By my dy) 29)=W66 at hE⊢;rw[<-hg66];clear hg66
    go_cut [9] from 49 to 61 (fun p wx=>∃(gr cap:Nat) (hn:Nat->Nat->Q8),p= .pointer (some ⟨g66,0,none⟩)/\Env w (fun V=>(((((((((((((((((True/\Blk 133 (Bp) #[.int .i64 F,.int .i64 S,.slice A n c,.bool si,.slice Ai ni ci,.bool ti,.slice Bi mi di,.int .i64 E,.int .i64 Y,.slice (some ⟨gr,0,none⟩) (k+1) cap] V)/\Kept u Bp V)/\FV V v sv Av nv tv Bv mv)/\Blk 29 (g12) (qf4 sv Av nv cv tv Bv mv dv) V)/\FV V (dd v f k) sz Az nz tz Bz mz)/\Blk 29 (g14) (qf4 sz Az nz cz tz Bz mz dz) V)/\Blk 33 (gx) #[.int .i64 E,.int .i64 yr] V)/\ColV u.heap.size (.slice (some ⟨gr,0,none⟩) (k+1) cap) (k+1) hn V)/\ColQ hn (k+1) (fun _ j=>j=0\/j=3) (colq v f N) V)/\FV V ((1:Int):Rat) sa Aa na ta Ba ma)/\Blk 29 (g35) (qf4 sj Aj nj cj tj Bj mj dj) V)/\FV V (f k) sj Aj nj tj Bj mj)/\Blk 29 (G6) (qf4 sj Aj nj cj tj Bj mj dj) V)/\FV V (v*dd v f k) sx Ax nx tx Bx mx)/\Blk 29 (g56) (qf4 sx Ax nx cx tx Bx mx dx) V)/\FV V (v*dd v f k*f k) sy Ay ny ty By my)/\Blk 29 (g66) (qf4 sy Ay ny cy ty By my dy) V)) wx)
    case first=>
     replace hE:=hE.drew;refine wp_region_held_drew (S:=fun w'=>w'.cell? ⟨g14,0,none⟩=some (.bool sz)/\w'.cell? ⟨g14,1,none⟩=some (.slice Az nz cz)/\w'.cell? ⟨g14,2,none⟩=some (.bool tz)/\w'.cell? ⟨g14,3,none⟩=some (.slice Bz mz dz)/\w'.cell? ⟨g66,0,none⟩=some (.bool sy)/\w'.cell? ⟨g66,1,none⟩=some (.slice Ay ny cy)/\w'.cell? ⟨g66,2,none⟩=some (.bool ty)/\w'.cell? ⟨g66,3,none⟩=some (.slice By my dy)) (by kernel_rfl) (hE.h11.j4 hE.here.2.c4) (fun hHeld=> ?_)
     generalize W66.drew=wd at*
     refine tk 0 ?_;refine tk 1 ?_;refine tk 2 ?_;refine tk 3 ?_;refine tk 5 ?_;refine tk 6 ?_;refine tk 7 ?_;refine wpAnyH_ready (rs:=[4,8]) (by kernel_rfl) (by simp) (AllReadyH.cons rfl (fun K hK=> ?_) (AllReadyH.cons rfl (fun K hK=> ?_) (AllReadyH.nil)))
     ·
      obtain⟨k67,k68,k69,k70,k71,k72,k73,k74,k75,k76⟩:=(hE.e16.2).c10;go_simp;clear k67 k68 k69 k70 k71 k72 k73 k74 k75 k76;refine hK.out _ _ (hE.h11.j4 hE.here.2.c4) (fun hHeld=> ?_);clear hK K;try simp only[PL]
      refine r1 8 (fun K hK=> ?_);go_simp
      obtain⟨g77,hg77⟩:∃g77,g77=wd.heap.size:=⟨_,rfl⟩
      have hl77_0:Bp<g77:=by rw[hg77];exact(hE.e16.2).lt
      have hu77:u.heap.size<=g77:=by rw[hg77];exact(hE.e8.1.1.1.1.1.1.1.2).size
      have hl77_3:g12<g77:=by rw[hg77];exact(hE.h13).lt
      have hl77_5:g14<g77:=by rw[hg77];exact(hE.h11).lt
      have hl77_6:gx<g77:=by rw[hg77];exact(hE.h10).lt
      have hl77_10:g35<g77:=by rw[hg77];exact(hE.h6).lt
      have hl77_12:G6<g77:=by rw[hg77];exact(hE.h4).lt
      have hl77_14:g56<g77:=by rw[hg77];exact(hE.h2).lt
      have hl77_16:g66<g77:=by rw[hg77];exact(hE.here.2).lt
      replace hE:=hE.blk 98 #[.bool sz,.slice Az nz cz,.bool tz,.slice Bz mz dz,.bool false,.slice none 0 0,.bool false,.slice none 0 0,.bool false,.slice none 0 0,.bool false,.slice none 0 0,.bool sy,.slice Ay ny cy,.bool ty,.slice By my dy,.bool false,.slice none 0 0,.bool false,.slice none 0 0,.bool false,.slice none 0 0,.bool false,.slice none 0 0] (g:=g77) hg77.symm;generalize wd.alloc (.cells #[.bool sz,.slice Az nz cz,.bool tz,.slice Bz mz dz,.bool false,.slice none 0 0,.bool false,.slice none 0 0,.bool false,.slice none 0 0,.bool false,.slice none 0 0,.bool sy,.slice Ay ny cy,.bool ty,.slice By my dy,.bool false,.slice none 0 0,.bool false,.slice none 0 0,.bool false,.slice none 0 0,.bool false,.slice none 0 0] 98)=W77 at hE⊢;rw[<-hg77];clear hg77;refine hK.out _ _ (hE.h12.j4 hE.here.1.2.c4) (fun hHeld=> ?_);clear hK K;try simp only[PL]
      refine r1 9 (fun K hK=> ?_);have hCV:=hE.h10;have hnl:=hCV.noL;obtain⟨gr,cap,wa,hrun,hgr,hCB,hgn⟩:=append_col 43 hCV (hE.e16.2).size ⟨g77,0,none⟩ 1 (colx ⟨sz,Az,nz,cz,tz,Bz,mz,dz⟩ ⟨sy,Ay,ny,cy,ty,By,my,dy⟩) (col_hx (d:=⟨sz,Az,nz,cz,tz,Bz,mz,dz⟩) (c:=⟨sy,Ay,ny,cy,ty,By,my,dy⟩) (hE.here.2)) (by omega)
      have hqn:ColQ (fun k'=>if k'=k then colx ⟨sz,Az,nz,cz,tz,Bz,mz,dz⟩ ⟨sy,Ay,ny,cy,ty,By,my,dy⟩ else h k') (k+1) (fun _ j=>j=0\/j=3) (colq v f N) wa:=ColQ.snoc (hE.h9|>.to fun hf=>hf.grownV hCV hgn) (fun j _ hj=>by
       rcases hj with rfl|rfl
       ·exact(hE.h13).grownV hCV hgn
       ·exact(hE.h2).grownV hCV hgn) (fun _ _ _ _ hj=>hj)
      replace hE:=((((((((((((((((((Env.again (Go.Proofs.YtclbiihcbfnjmaaGreat.Below.grownV hE.bel hCV hgn hws (Nat.le_trans hws (hE.e16.2).size))).blkI ((hE.e16.1.2).grownV hCV hgn (by decide))).kept ((hE.e16.2).grownV hCV hgn)).fv ((hE.e8.1.1.1.1.1.1.1.2).grownV hCV hgn)).blkI ((hE.e8.1.1.1.1.1.1.2).grownV hCV hgn (by decide))).fv ((hE.h13).grownV hCV hgn)).blkI ((hE.h12).grownV hCV hgn (by decide))).blkI ((hE.h11).grownV hCV hgn (by decide))).colv (.inr ⟨gr,cap,rfl,hgr,hCB⟩)).colq hqn).fv ((hE.h8).grownV hCV hgn)).blkI ((hE.h7).grownV hCV hgn (by decide))).fv ((hE.h6).grownV hCV hgn)).blkI ((hE.h5).grownV hCV hgn (by decide))).fv ((hE.h4).grownV hCV hgn)).blkI ((hE.h3).grownV hCV hgn (by decide))).fv ((hE.h2).grownV hCV hgn)).blkI ((hE.here.1.2).grownV hCV hgn (by decide)));clear hqn hCB;refine Eq.mpr (if_pos (by rfl)) ?_;refine app_step (s:= .tmp 53) (x:= .tmp 57) rfl rfl rfl hrun ?_;clear hrun hCV hgn;refine hK.out _ _ (hE.h11.j4 hE.here.2.c4) (fun hHeld=> ?_);clear hK K;try simp only[PL]
      refine tk 10 ?_;refine tk 11 ?_;refine r1 12 (fun K hK=> ?_)
      have hgl78:w.heap.size<=Bp:=by omega
      obtain⟨x78_0,x78_1,x78_2,x78_3,x78_4,x78_5,x78_6,x78_7,x78_8,x78_9⟩:=(hE.e16.2).c10;have f78:=(hE.e16.2).frozen 9;replace hE:=((((((((((((((((((Env.again (hE.bel.setCell (p:=⟨Bp,9,none⟩) hgl78 (.slice (some ⟨gr,0,none⟩) (k+1) cap))).blkI (show Blk 133 Bp #[.int .i64 F,.int .i64 S,.slice A n c,.bool si,.slice Ai ni ci,.bool ti,.slice Bi mi di,.int .i64 E,.int .i64 Y,.slice (some ⟨gr,0,none⟩) (k+1) cap] _ by simpa using(hE.e16.2).set_ 9 (.slice (some ⟨gr,0,none⟩) (k+1) cap))).kept ((hE.e8.1.1.1.1.1.1.1.2).set1 (by first|exact .inr rfl|exact .inl (by omega)) 9 (.slice (some ⟨gr,0,none⟩) (k+1) cap))).fv ((hE.e8.1.1.1.1.1.1.2).sep (i:=9) (hE.e16.2) (by simpa [noLimb] using hnl) (.slice (some ⟨gr,0,none⟩) (k+1) cap))).blkI ((hE.h13).far (p:=⟨Bp,9,none⟩) (by first|omega|(simp;omega)) (.slice (some ⟨gr,0,none⟩) (k+1) cap))).fv ((hE.h12).sep (i:=9) (hE.e16.2) (by simpa [noLimb] using hnl) (.slice (some ⟨gr,0,none⟩) (k+1) cap))).blkI ((hE.h11).far (p:=⟨Bp,9,none⟩) (by first|omega|(simp;omega)) (.slice (some ⟨gr,0,none⟩) (k+1) cap))).blkI ((hE.h10).far (p:=⟨Bp,9,none⟩) (by first|omega|(simp;omega)) (.slice (some ⟨gr,0,none⟩) (k+1) cap))).colv ((hE.h9).far (hE.e16.2) (by decide) 9 (.slice (some ⟨gr,0,none⟩) (k+1) cap))).colq ((hE.h8).sep1 (hE.e16.2) (by simpa [noLimb] using hnl) 9 (.slice (some ⟨gr,0,none⟩) (k+1) cap))).fv ((hE.h7).sep (i:=9) (hE.e16.2) (by simpa [noLimb] using hnl) (.slice (some ⟨gr,0,none⟩) (k+1) cap))).blkI ((hE.h6).far (p:=⟨Bp,9,none⟩) (by first|omega|(simp;omega)) (.slice (some ⟨gr,0,none⟩) (k+1) cap))).fv ((hE.h5).sep (i:=9) (hE.e16.2) (by simpa [noLimb] using hnl) (.slice (some ⟨gr,0,none⟩) (k+1) cap))).blkI ((hE.h4).far (p:=⟨Bp,9,none⟩) (by first|omega|(simp;omega)) (.slice (some ⟨gr,0,none⟩) (k+1) cap))).fv ((hE.h3).sep (i:=9) (hE.e16.2) (by simpa [noLimb] using hnl) (.slice (some ⟨gr,0,none⟩) (k+1) cap))).blkI ((hE.h2).far (p:=⟨Bp,9,none⟩) (by first|omega|(simp;omega)) (.slice (some ⟨gr,0,none⟩) (k+1) cap))).fv ((hE.here.1.2).sep (i:=9) (hE.e16.2) (by simpa [noLimb] using hnl) (.slice (some ⟨gr,0,none⟩) (k+1) cap))).blkI ((hE.here.2).far (p:=⟨Bp,9,none⟩) (by first|omega|(simp;omega)) (.slice (some ⟨gr,0,none⟩) (k+1) cap)));go_simp;clear x78_0 x78_1 x78_2 x78_3 x78_4 x78_5 x78_6 x78_7 x78_8 x78_9 f78 hgl78;generalize wa.setCell ⟨Bp,9,none⟩ (.slice (some ⟨gr,0,none⟩) (k+1) cap)=W78 at hE⊢
      refine hK.out _ _ (hE.h11.j4 hE.here.2.c4) (fun hHeld=> ?_);clear hK K;try simp only[PL]
      refine wpAnyH_done (by kernel_rfl) ?_ _;go_wp2_with fail
      go_meet
      exact⟨_,_,_,rfl,((((((((((((((((((Env.again hE.bel).blkI (hE.e16.2)).kept (hE.e8.1.1.1.1.1.1.1.2)).fv (hE.e8.1.1.1.1.1.1.2)).blkI (hE.h13)).fv (hE.h12)).blkI (hE.h11)).blkI (hE.h10)).colv (hE.h9)).colq (hE.h8)).fv (hE.h7)).blkI (hE.h6)).fv (hE.h5)).blkI (hE.h4)).fv (hE.h3)).blkI (hE.h2)).fv (hE.here.1.2)).blkI (hE.here.2))⟩
     ·
      go_simp
      obtain⟨g79,hg79⟩:∃g79,g79=wd.heap.size:=⟨_,rfl⟩
      have hl79_0:Bp<g79:=by rw[hg79];exact(hE.e16.2).lt
      have hu79:u.heap.size<=g79:=by rw[hg79];exact(hE.e8.1.1.1.1.1.1.1.2).size
      have hl79_3:g12<g79:=by rw[hg79];exact(hE.h13).lt
      have hl79_5:g14<g79:=by rw[hg79];exact(hE.h11).lt
      have hl79_6:gx<g79:=by rw[hg79];exact(hE.h10).lt
      have hl79_10:g35<g79:=by rw[hg79];exact(hE.h6).lt
      have hl79_12:G6<g79:=by rw[hg79];exact(hE.h4).lt
      have hl79_14:g56<g79:=by rw[hg79];exact(hE.h2).lt
      have hl79_16:g66<g79:=by rw[hg79];exact(hE.here.2).lt
      replace hE:=hE.blk 98 #[.bool sz,.slice Az nz cz,.bool tz,.slice Bz mz dz,.bool false,.slice none 0 0,.bool false,.slice none 0 0,.bool false,.slice none 0 0,.bool false,.slice none 0 0,.bool sy,.slice Ay ny cy,.bool ty,.slice By my dy,.bool false,.slice none 0 0,.bool false,.slice none 0 0,.bool false,.slice none 0 0,.bool false,.slice none 0 0] (g:=g79) hg79.symm;generalize wd.alloc (.cells #[.bool sz,.slice Az nz cz,.bool tz,.slice Bz mz dz,.bool false,.slice none 0 0,.bool false,.slice none 0 0,.bool false,.slice none 0 0,.bool false,.slice none 0 0,.bool sy,.slice Ay ny cy,.bool ty,.slice By my dy,.bool false,.slice none 0 0,.bool false,.slice none 0 0,.bool false,.slice none 0 0,.bool false,.slice none 0 0] 98)=W79 at hE⊢;rw[<-hg79];clear hg79;refine hK.out _ _ (hE.h12.j4 hE.here.1.2.c4) (fun hHeld=> ?_);clear hK K;try simp only[PL]
      refine r1 4 (fun K hK=> ?_);obtain⟨k80,k81,k82,k83,k84,k85,k86,k87,k88,k89⟩:=(hE.e16.1.2).c10;go_simp;clear k80 k81 k82 k83 k84 k85 k86 k87 k88 k89;refine hK.out _ _ (hE.h12.j4 hE.here.1.2.c4) (fun hHeld=> ?_);clear hK K;try simp only[PL]
      refine r1 9 (fun K hK=> ?_);have hCV:=hE.h10;have hnl:=hCV.noL;obtain⟨gr,cap,wa,hrun,hgr,hCB,hgn⟩:=append_col 43 hCV (hE.e16.2).size ⟨g79,0,none⟩ 1 (colx ⟨sz,Az,nz,cz,tz,Bz,mz,dz⟩ ⟨sy,Ay,ny,cy,ty,By,my,dy⟩) (col_hx (d:=⟨sz,Az,nz,cz,tz,Bz,mz,dz⟩) (c:=⟨sy,Ay,ny,cy,ty,By,my,dy⟩) (hE.here.2)) (by omega)
      have hqn:ColQ (fun k'=>if k'=k then colx ⟨sz,Az,nz,cz,tz,Bz,mz,dz⟩ ⟨sy,Ay,ny,cy,ty,By,my,dy⟩ else h k') (k+1) (fun _ j=>j=0\/j=3) (colq v f N) wa:=ColQ.snoc (hE.h9|>.to fun hf=>hf.grownV hCV hgn) (fun j _ hj=>by
       rcases hj with rfl|rfl
       ·exact(hE.h13).grownV hCV hgn
       ·exact(hE.h2).grownV hCV hgn) (fun _ _ _ _ hj=>hj)
      replace hE:=((((((((((((((((((Env.again (Go.Proofs.YtclbiihcbfnjmaaGreat.Below.grownV hE.bel hCV hgn hws (Nat.le_trans hws (hE.e16.2).size))).blkI ((hE.e16.1.2).grownV hCV hgn (by decide))).kept ((hE.e16.2).grownV hCV hgn)).fv ((hE.e8.1.1.1.1.1.1.1.2).grownV hCV hgn)).blkI ((hE.e8.1.1.1.1.1.1.2).grownV hCV hgn (by decide))).fv ((hE.h13).grownV hCV hgn)).blkI ((hE.h12).grownV hCV hgn (by decide))).blkI ((hE.h11).grownV hCV hgn (by decide))).colv (.inr ⟨gr,cap,rfl,hgr,hCB⟩)).colq hqn).fv ((hE.h8).grownV hCV hgn)).blkI ((hE.h7).grownV hCV hgn (by decide))).fv ((hE.h6).grownV hCV hgn)).blkI ((hE.h5).grownV hCV hgn (by decide))).fv ((hE.h4).grownV hCV hgn)).blkI ((hE.h3).grownV hCV hgn (by decide))).fv ((hE.h2).grownV hCV hgn)).blkI ((hE.here.1.2).grownV hCV hgn (by decide)));clear hqn hCB;refine Eq.mpr (if_pos (by rfl)) ?_;refine app_step (s:= .tmp 53) (x:= .tmp 57) rfl rfl rfl hrun ?_;clear hrun hCV hgn;refine hK.out _ _ (hE.h11.j4 hE.here.2.c4) (fun hHeld=> ?_);clear hK K;try simp only[PL]
      refine tk 10 ?_;refine tk 11 ?_;refine r1 12 (fun K hK=> ?_)
      have hgl90:w.heap.size<=Bp:=by omega
      obtain⟨x90_0,x90_1,x90_2,x90_3,x90_4,x90_5,x90_6,x90_7,x90_8,x90_9⟩:=(hE.e16.2).c10;have f90:=(hE.e16.2).frozen 9;replace hE:=((((((((((((((((((Env.again (hE.bel.setCell (p:=⟨Bp,9,none⟩) hgl90 (.slice (some ⟨gr,0,none⟩) (k+1) cap))).blkI (show Blk 133 Bp #[.int .i64 F,.int .i64 S,.slice A n c,.bool si,.slice Ai ni ci,.bool ti,.slice Bi mi di,.int .i64 E,.int .i64 Y,.slice (some ⟨gr,0,none⟩) (k+1) cap] _ by simpa using(hE.e16.2).set_ 9 (.slice (some ⟨gr,0,none⟩) (k+1) cap))).kept ((hE.e8.1.1.1.1.1.1.1.2).set1 (by first|exact .inr rfl|exact .inl (by omega)) 9 (.slice (some ⟨gr,0,none⟩) (k+1) cap))).fv ((hE.e8.1.1.1.1.1.1.2).sep (i:=9) (hE.e16.2) (by simpa [noLimb] using hnl) (.slice (some ⟨gr,0,none⟩) (k+1) cap))).blkI ((hE.h13).far (p:=⟨Bp,9,none⟩) (by first|omega|(simp;omega)) (.slice (some ⟨gr,0,none⟩) (k+1) cap))).fv ((hE.h12).sep (i:=9) (hE.e16.2) (by simpa [noLimb] using hnl) (.slice (some ⟨gr,0,none⟩) (k+1) cap))).blkI ((hE.h11).far (p:=⟨Bp,9,none⟩) (by first|omega|(simp;omega)) (.slice (some ⟨gr,0,none⟩) (k+1) cap))).blkI ((hE.h10).far (p:=⟨Bp,9,none⟩) (by first|omega|(simp;omega)) (.slice (some ⟨gr,0,none⟩) (k+1) cap))).colv ((hE.h9).far (hE.e16.2) (by decide) 9 (.slice (some ⟨gr,0,none⟩) (k+1) cap))).colq ((hE.h8).sep1 (hE.e16.2) (by simpa [noLimb] using hnl) 9 (.slice (some ⟨gr,0,none⟩) (k+1) cap))).fv ((hE.h7).sep (i:=9) (hE.e16.2) (by simpa [noLimb] using hnl) (.slice (some ⟨gr,0,none⟩) (k+1) cap))).blkI ((hE.h6).far (p:=⟨Bp,9,none⟩) (by first|omega|(simp;omega)) (.slice (some ⟨gr,0,none⟩) (k+1) cap))).fv ((hE.h5).sep (i:=9) (hE.e16.2) (by simpa [noLimb] using hnl) (.slice (some ⟨gr,0,none⟩) (k+1) cap))).blkI ((hE.h4).far (p:=⟨Bp,9,none⟩) (by first|omega|(simp;omega)) (.slice (some ⟨gr,0,none⟩) (k+1) cap))).fv ((hE.h3).sep (i:=9) (hE.e16.2) (by simpa [noLimb] using hnl) (.slice (some ⟨gr,0,none⟩) (k+1) cap))).blkI ((hE.h2).far (p:=⟨Bp,9,none⟩) (by first|omega|(simp;omega)) (.slice (some ⟨gr,0,none⟩) (k+1) cap))).fv ((hE.here.1.2).sep (i:=9) (hE.e16.2) (by simpa [noLimb] using hnl) (.slice (some ⟨gr,0,none⟩) (k+1) cap))).blkI ((hE.here.2).far (p:=⟨Bp,9,none⟩) (by first|omega|(simp;omega)) (.slice (some ⟨gr,0,none⟩) (k+1) cap)));go_simp;clear x90_0 x90_1 x90_2 x90_3 x90_4 x90_5 x90_6 x90_7 x90_8 x90_9 f90 hgl90;generalize wa.setCell ⟨Bp,9,none⟩ (.slice (some ⟨gr,0,none⟩) (k+1) cap)=W90 at hE⊢
      refine hK.out _ _ (hE.h11.j4 hE.here.2.c4) (fun hHeld=> ?_);clear hK K;try simp only[PL]
      refine wpAnyH_done (by kernel_rfl) ?_ _;go_wp2_with fail
      go_meet
      exact⟨_,_,_,rfl,((((((((((((((((((Env.again hE.bel).blkI (hE.e16.2)).kept (hE.e8.1.1.1.1.1.1.1.2)).fv (hE.e8.1.1.1.1.1.1.2)).blkI (hE.h13)).fv (hE.h12)).blkI (hE.h11)).blkI (hE.h10)).colv (hE.h9)).colq (hE.h8)).fv (hE.h7)).blkI (hE.h6)).fv (hE.h5)).blkI (hE.h4)).fv (hE.h3)).blkI (hE.h2)).fv (hE.here.1.2)).blkI (hE.here.2))⟩
    case rest=>
    clear hE;obtain⟨gr,cap,hn,rfl,hE⟩:=hcut;generalize wc=wk11 at hE⊢
    go_upto_region 12 with(fail)
    obtain⟨k91,k92,k93,k94⟩:=(hE.h2).c4;obtain⟨k95,k96,k97,k98⟩:=(hE.here.2).c4;go_wp2_with fail
    refine hE.fr (cminus_v (ca:=cx) (da:=dx) (cb:=cy) (db:=dy) hE.h3 hE.here.1.2 (Hhnl.out k hk) (Hhcl.out k hkl) (Hhdl.out (k+1) hkl)) ?_;clear hE k91 k92 k93 k94 k95 k96 k97 k98;intro sh Ah nh ch th Bh mh dh w99 hE
    have hgl100:w.heap.size<=g14:=by omega
    obtain⟨x100_0,x100_1,x100_2,x100_3⟩:=(hE.h12).c4;obtain⟨f100_0,f100_1,f100_2,f100_3⟩:=hE.h12.f4;replace hE:=(((((((((((((((((((Env.again (bel4 hE.bel hgl100 (.bool sh) (.slice Ah nh ch) (.bool th) (.slice Bh mh dh))).blkI ((hE.e16.1.2).far4 (by omega) _ _ _ _)).kept ((hE.e16.2).set4 (by first|exact .inr rfl|exact .inl (by omega)) _ _ _ _)).fv ((hE.e8.1.1.1.1.1.1.1.2).sep4 hE.h12 rfl _ _ _ _ rfl rfl rfl)).blkI ((hE.e8.1.1.1.1.1.1.2).far4 (by omega) _ _ _ _)).fv ((hE.h13).sep4 hE.h12 rfl _ _ _ _ rfl rfl rfl)).blkI ((hE.h12).s4 _ _ _ _)).blkI ((hE.h11).far4 (by omega) _ _ _ _)).colv ((hE.h10).far4 (hE.h12) (by decide) _ _ _ _)).colq ((hE.h9).sep4 (hE.h12) rfl _ _ _ _ rfl rfl rfl)).fv ((hE.h8).sep4 hE.h12 rfl _ _ _ _ rfl rfl rfl)).blkI ((hE.h7).far4 (by omega) _ _ _ _)).fv ((hE.h6).sep4 hE.h12 rfl _ _ _ _ rfl rfl rfl)).blkI ((hE.h5).far4 (by omega) _ _ _ _)).fv ((hE.h4).sep4 hE.h12 rfl _ _ _ _ rfl rfl rfl)).blkI ((hE.h3).far4 (by omega) _ _ _ _)).fv ((hE.h2).sep4 hE.h12 rfl _ _ _ _ rfl rfl rfl)).blkI ((hE.here.1.2).far4 (by omega) _ _ _ _)).fv ((hE.here.2).sep4 hE.h12 rfl _ _ _ _ rfl rfl rfl))
    go_upto_region 13 with(fail)
    clear x100_0 x100_1 x100_2 x100_3 f100_0 f100_1 f100_2 f100_3 hgl100;generalize ((((w99.setCell ⟨g14,0,none⟩ (.bool sh)).setCell ⟨g14,1,none⟩ (.slice Ah nh ch)).setCell ⟨g14,2,none⟩ (.bool th)).setCell ⟨g14,3,none⟩ (.slice Bh mh dh))=W100 at hE⊢;obtain⟨k101,k102⟩:=(hE.h11).c2
    go_upto_region 4 with(fail)
    clear k101 k102
    obtain⟨g103,hg103⟩:∃g103,g103=W100.heap.size:=⟨_,rfl⟩
    have hl103_0:Bp<g103:=by rw[hg103];exact(hE.e16.1.2).lt
    have hu103:u.heap.size<=g103:=by rw[hg103];exact(hE.e16.2).size
    have hl103_3:g12<g103:=by rw[hg103];exact(hE.e8.1.1.1.1.1.1.2).lt
    have hl103_5:g14<g103:=by rw[hg103];exact(hE.h12).lt
    have hl103_6:gx<g103:=by rw[hg103];exact(hE.h11).lt
    have hl103_10:g35<g103:=by rw[hg103];exact(hE.h7).lt
    have hl103_12:G6<g103:=by rw[hg103];exact(hE.h5).lt
    have hl103_14:g56<g103:=by rw[hg103];exact(hE.h3).lt
    have hl103_16:g66<g103:=by rw[hg103];exact(hE.here.1.2).lt
    replace hE:=hE.blk 33 #[.int .i64 E,.int .i64 yr] (g:=g103) hg103.symm;generalize W100.alloc (.cells #[.int .i64 E,.int .i64 yr] 33)=W103 at hE⊢;rw[<-hg103];clear hg103;have o1:=yr_wrap HhR.out HYR.out (by omega)
    have hgl104:w.heap.size<=g103:=by omega
    obtain⟨x104_0,x104_1⟩:=(hE.here.2).c2;have f104:=(hE.here.2).frozen 1;replace hE:=((((((((((((((((((((Env.again (hE.bel.setCell (p:=⟨g103,1,none⟩) hgl104 (.int .i64 (yr+1)))).blkI ((hE.e16.1.1.2).far (p:=⟨g103,1,none⟩) (by first|omega|(simp;omega)) (.int .i64 (yr+1)))).kept ((hE.e16.1.2).set1 (by first|exact .inr rfl|exact .inl (by omega)) 1 (.int .i64 (yr+1)))).fv ((hE.e16.2).sep (i:=1) (hE.here.2) rfl (.int .i64 (yr+1)))).blkI ((hE.e8.1.1.1.1.1.1.1.2).far (p:=⟨g103,1,none⟩) (by first|omega|(simp;omega)) (.int .i64 (yr+1)))).fv ((hE.e8.1.1.1.1.1.1.2).sep (i:=1) (hE.here.2) rfl (.int .i64 (yr+1)))).blkI ((hE.h13).far (p:=⟨g103,1,none⟩) (by first|omega|(simp;omega)) (.int .i64 (yr+1)))).blkI ((hE.h12).far (p:=⟨g103,1,none⟩) (by first|omega|(simp;omega)) (.int .i64 (yr+1)))).colv ((hE.h11).far (hE.here.2) (by decide) 1 (.int .i64 (yr+1)))).colq ((hE.h10).sep1 (hE.here.2) rfl 1 (.int .i64 (yr+1)))).fv ((hE.h9).sep (i:=1) (hE.here.2) rfl (.int .i64 (yr+1)))).blkI ((hE.h8).far (p:=⟨g103,1,none⟩) (by first|omega|(simp;omega)) (.int .i64 (yr+1)))).fv ((hE.h7).sep (i:=1) (hE.here.2) rfl (.int .i64 (yr+1)))).blkI ((hE.h6).far (p:=⟨g103,1,none⟩) (by first|omega|(simp;omega)) (.int .i64 (yr+1)))).fv ((hE.h5).sep (i:=1) (hE.here.2) rfl (.int .i64 (yr+1)))).blkI ((hE.h4).far (p:=⟨g103,1,none⟩) (by first|omega|(simp;omega)) (.int .i64 (yr+1)))).fv ((hE.h3).sep (i:=1) (hE.here.2) rfl (.int .i64 (yr+1)))).blkI ((hE.h2).far (p:=⟨g103,1,none⟩) (by first|omega|(simp;omega)) (.int .i64 (yr+1)))).fv ((hE.here.1.2).sep (i:=1) (hE.here.2) rfl (.int .i64 (yr+1)))).blkI (show Blk 33 g103 #[.int .i64 E,.int .i64 (yr+1)] _ by simpa using(hE.here.2).set_ 1 (.int .i64 (yr+1))));go_wp2_with fail
    clear x104_0 x104_1 f104 hgl104;generalize W103.setCell ⟨g103,1,none⟩ (.int .i64 (yr+1))=W104 at hE⊢;clear o1
    go_roundw
    case rel=>
     exact⟨k+1,g103,yr+1,_,_,_,_,_,_,_,_,_,_,by omega,by have:=HYR.out;omega,rfl,by omega,((((((((((Env.again hE.bel).blkI (hE.e16.1.1.2)).kept (hE.e16.1.2)).fv (hE.e16.2)).blkI (hE.e8.1.1.1.1.1.1.1.2)).fv (hE.here.1.2)).blkI (hE.h13)).blkI (hE.here.2)).colv (hE.h11)).colq (hE.h10))⟩
    case measure=>
     rw[yearAt_of (hE.here.2),yearAt_of HX.out];have:=HYR.out;omega
   ·
    have HR2:=Lib.hid (right_not (F:=F) (S:=S) (E:=E) (n:=n) (r:=r) h300);have Hfk:Hid (((1:Int):Rat)=f k):=Lib.hid (by rw[Hhf.out];exact fr_past HhR.out HYR.out h300)
    go_cut [6,7] from 30 to 40 (fun p0 p1 wx=>∃G6,p0= .pointer (some ⟨G6,0,none⟩)/\p1= .int .i64 2/\g35<G6/\Env w (fun V=>((((((((((((True/\Blk 133 (Bp) #[.int .i64 F,.int .i64 S,.slice A n c,.bool si,.slice Ai ni ci,.bool ti,.slice Bi mi di,.int .i64 E,.int .i64 Y,cs0] V)/\Kept u Bp V)/\FV V v sv Av nv tv Bv mv)/\Blk 29 (g12) (qf4 sv Av nv cv tv Bv mv dv) V)/\FV V (dd v f k) sz Az nz tz Bz mz)/\Blk 29 (g14) (qf4 sz Az nz cz tz Bz mz dz) V)/\Blk 33 (gx) #[.int .i64 E,.int .i64 yr] V)/\ColV u.heap.size cs0 k h V)/\ColQ h k (fun _ j=>j=0\/j=3) (colq v f N) V)/\FV V ((1:Int):Rat) sa Aa na ta Ba ma)/\Blk 29 (g35) (qf4 sa Aa na ca ta Ba ma da) V)/\Blk 29 (G6) qz4 V)) wx)
    case first=>
     replace hE:=hE.drew;refine wp_region_held_drew (S:=fun w'=>w'.cell? ⟨Bp,0,none⟩=some (.int .i64 F)/\w'.cell? ⟨Bp,1,none⟩=some (.int .i64 S)/\w'.cell? ⟨Bp,2,none⟩=some (.slice A n c)/\w'.cell? ⟨Bp,3,none⟩=some (.bool si)/\w'.cell? ⟨Bp,4,none⟩=some (.slice Ai ni ci)/\w'.cell? ⟨Bp,5,none⟩=some (.bool ti)/\w'.cell? ⟨Bp,6,none⟩=some (.slice Bi mi di)/\w'.cell? ⟨Bp,7,none⟩=some (.int .i64 E)/\w'.cell? ⟨Bp,8,none⟩=some (.int .i64 Y)/\w'.cell? ⟨Bp,9,none⟩=some (cs0)/\w'.cell? ⟨gx,0,none⟩=some (.int .i64 E)/\w'.cell? ⟨gx,1,none⟩=some (.int .i64 yr)) (by kernel_rfl) (⟨(hE.h10).c10.1,(hE.h10).c10.2.1,(hE.h10).c10.2.2.1,(hE.h10).c10.2.2.2.1,(hE.h10).c10.2.2.2.2.1,(hE.h10).c10.2.2.2.2.2.1,(hE.h10).c10.2.2.2.2.2.2.1,(hE.h10).c10.2.2.2.2.2.2.2.1,(hE.h10).c10.2.2.2.2.2.2.2.2.1,(hE.h10).c10.2.2.2.2.2.2.2.2.2,(hE.h4).c2.1,(hE.h4).c2.2⟩) (fun hHeld=> ?_)
     generalize W35.drew=wd at*
     refine tk 0 ?_;refine tk 1 ?_;refine tk 2 ?_;refine tk 3 ?_;refine tk 4 ?_;refine tk 5 ?_;refine wpAnyH_ready (rs:=[6,10]) (by kernel_rfl) (by simp) (AllReadyH.cons rfl (fun K hK=> ?_) (AllReadyH.cons rfl (fun K hK=> ?_) (AllReadyH.nil)))
     ·
      go_simp;refine hE.br (lRate_bad (c:=c) (HhT.out.below hE.bel) HhB.out HR2.out) ?_;clear hE;intro w105 hE;go_wp2_with fail
      refine hK.out _ _ (⟨(hE.h10).c10.1,(hE.h10).c10.2.1,(hE.h10).c10.2.2.1,(hE.h10).c10.2.2.2.1,(hE.h10).c10.2.2.2.2.1,(hE.h10).c10.2.2.2.2.2.1,(hE.h10).c10.2.2.2.2.2.2.1,(hE.h10).c10.2.2.2.2.2.2.2.1,(hE.h10).c10.2.2.2.2.2.2.2.2.1,(hE.h10).c10.2.2.2.2.2.2.2.2.2,(hE.h4).c2.1,(hE.h4).c2.2⟩) (fun hHeld=> ?_);clear hK K;try simp only[PL]
      refine tk 7 ?_;refine tk 8 ?_;refine tk 9 ?_;refine r1 10 (fun K hK=> ?_);go_simp
      obtain⟨g106,hg106⟩:∃g106,g106=w105.heap.size:=⟨_,rfl⟩
      have hl106_0:Bp<g106:=by rw[hg106];exact(hE.h10).lt
      have hu106:u.heap.size<=g106:=by rw[hg106];exact(hE.h9).size
      have hl106_3:g12<g106:=by rw[hg106];exact(hE.h7).lt
      have hl106_5:g14<g106:=by rw[hg106];exact(hE.h5).lt
      have hl106_6:gx<g106:=by rw[hg106];exact(hE.h4).lt
      have hl106_10:g35<g106:=by rw[hg106];exact(hE.here.2).lt
      replace hE:=hE.blk 29 qz4 (g:=g106) hg106.symm;generalize w105.alloc (.cells qz4 29)=W106 at hE⊢;rw[<-hg106];clear hg106;refine hK.out _ _ (⟨(hE.h11).c10.1,(hE.h11).c10.2.1,(hE.h11).c10.2.2.1,(hE.h11).c10.2.2.2.1,(hE.h11).c10.2.2.2.2.1,(hE.h11).c10.2.2.2.2.2.1,(hE.h11).c10.2.2.2.2.2.2.1,(hE.h11).c10.2.2.2.2.2.2.2.1,(hE.h11).c10.2.2.2.2.2.2.2.2.1,(hE.h11).c10.2.2.2.2.2.2.2.2.2,(hE.h5).c2.1,(hE.h5).c2.2⟩) (fun hHeld=> ?_);clear hK K;try simp only[PL]
      refine r1 11 (fun K hK=> ?_)
      have hgl107:w.heap.size<=g106:=by omega
      obtain⟨x107_0,x107_1,x107_2,x107_3⟩:=(hE.here.2).c4;obtain⟨f107_0,f107_1,f107_2,f107_3⟩:=hE.here.2.f4;replace hE:=(((((((((((((Env.again (bel4 hE.bel hgl107 (.bool false) (.slice none 0 0) (.bool false) (.slice none 0 0))).blkI ((hE.h11).far4 (by omega) _ _ _ _)).kept ((hE.h10).set4 (by first|exact .inr rfl|exact .inl (by omega)) _ _ _ _)).fv ((hE.h9).sep4 hE.here.2 rfl _ _ _ _ rfl rfl rfl)).blkI ((hE.h8).far4 (by omega) _ _ _ _)).fv ((hE.h7).sep4 hE.here.2 rfl _ _ _ _ rfl rfl rfl)).blkI ((hE.h6).far4 (by omega) _ _ _ _)).blkI ((hE.h5).far4 (by omega) _ _ _ _)).colv ((hE.h4).far4 (hE.here.2) (by decide) _ _ _ _)).colq ((hE.h3).sep4 (hE.here.2) rfl _ _ _ _ rfl rfl rfl)).fv ((hE.h2).sep4 hE.here.2 rfl _ _ _ _ rfl rfl rfl)).blkI ((hE.here.1.2).far4 (by omega) _ _ _ _)).blkI ((hE.here.2).s4 _ _ _ _));go_simp;clear x107_0 x107_1 x107_2 x107_3 f107_0 f107_1 f107_2 f107_3 hgl107;generalize ((((W106.setCell ⟨g106,0,none⟩ (.bool false)).setCell ⟨g106,1,none⟩ (.slice none 0 0)).setCell ⟨g106,2,none⟩ (.bool false)).setCell ⟨g106,3,none⟩ (.slice none 0 0))=W107 at hE⊢;refine hK.out _ _ (⟨(hE.h11).c10.1,(hE.h11).c10.2.1,(hE.h11).c10.2.2.1,(hE.h11).c10.2.2.2.1,(hE.h11).c10.2.2.2.2.1,(hE.h11).c10.2.2.2.2.2.1,(hE.h11).c10.2.2.2.2.2.2.1,(hE.h11).c10.2.2.2.2.2.2.2.1,(hE.h11).c10.2.2.2.2.2.2.2.2.1,(hE.h11).c10.2.2.2.2.2.2.2.2.2,(hE.h5).c2.1,(hE.h5).c2.2⟩) (fun hHeld=> ?_);clear hK K;try simp only[PL]
      refine tk 12 ?_;refine wpAnyH_done (by kernel_rfl) ?_ _;go_wp2_with fail
      go_meet
      exact⟨g106,rfl,rfl,by omega,(((((((((((((Env.again hE.bel).blkI (hE.h11)).kept (hE.h10)).fv (hE.h9)).blkI (hE.h8)).fv (hE.h7)).blkI (hE.h6)).blkI (hE.h5)).colv (hE.h4)).colq (hE.h3)).fv (hE.h2)).blkI (hE.here.1.2)).blkI (hE.here.2))⟩
     ·
      go_simp
      obtain⟨g108,hg108⟩:∃g108,g108=wd.heap.size:=⟨_,rfl⟩
      have hl108_0:Bp<g108:=by rw[hg108];exact(hE.h10).lt
      have hu108:u.heap.size<=g108:=by rw[hg108];exact(hE.h9).size
      have hl108_3:g12<g108:=by rw[hg108];exact(hE.h7).lt
      have hl108_5:g14<g108:=by rw[hg108];exact(hE.h5).lt
      have hl108_6:gx<g108:=by rw[hg108];exact(hE.h4).lt
      have hl108_10:g35<g108:=by rw[hg108];exact(hE.here.2).lt
      replace hE:=hE.blk 29 qz4 (g:=g108) hg108.symm;generalize wd.alloc (.cells qz4 29)=W108 at hE⊢;rw[<-hg108];clear hg108;refine hK.out _ _ (⟨(hE.h11).c10.1,(hE.h11).c10.2.1,(hE.h11).c10.2.2.1,(hE.h11).c10.2.2.2.1,(hE.h11).c10.2.2.2.2.1,(hE.h11).c10.2.2.2.2.2.1,(hE.h11).c10.2.2.2.2.2.2.1,(hE.h11).c10.2.2.2.2.2.2.2.1,(hE.h11).c10.2.2.2.2.2.2.2.2.1,(hE.h11).c10.2.2.2.2.2.2.2.2.2,(hE.h5).c2.1,(hE.h5).c2.2⟩) (fun hHeld=> ?_);clear hK K;try simp only[PL]
      refine r1 6 (fun K hK=> ?_);go_simp;refine hE.br (lRate_bad (c:=c) (HhT.out.below hE.bel) HhB.out HR2.out) ?_;clear hE;intro w109 hE;go_wp2_with fail
      refine hK.out _ _ (⟨(hE.h11).c10.1,(hE.h11).c10.2.1,(hE.h11).c10.2.2.1,(hE.h11).c10.2.2.2.1,(hE.h11).c10.2.2.2.2.1,(hE.h11).c10.2.2.2.2.2.1,(hE.h11).c10.2.2.2.2.2.2.1,(hE.h11).c10.2.2.2.2.2.2.2.1,(hE.h11).c10.2.2.2.2.2.2.2.2.1,(hE.h11).c10.2.2.2.2.2.2.2.2.2,(hE.h5).c2.1,(hE.h5).c2.2⟩) (fun hHeld=> ?_);clear hK K;try simp only[PL]
      refine tk 7 ?_;refine tk 8 ?_;refine tk 9 ?_;refine r1 11 (fun K hK=> ?_)
      have hgl110:w.heap.size<=g108:=by omega
      obtain⟨x110_0,x110_1,x110_2,x110_3⟩:=(hE.here.2).c4;obtain⟨f110_0,f110_1,f110_2,f110_3⟩:=hE.here.2.f4;replace hE:=(((((((((((((Env.again (bel4 hE.bel hgl110 (.bool false) (.slice none 0 0) (.bool false) (.slice none 0 0))).blkI ((hE.h11).far4 (by omega) _ _ _ _)).kept ((hE.h10).set4 (by first|exact .inr rfl|exact .inl (by omega)) _ _ _ _)).fv ((hE.h9).sep4 hE.here.2 rfl _ _ _ _ rfl rfl rfl)).blkI ((hE.h8).far4 (by omega) _ _ _ _)).fv ((hE.h7).sep4 hE.here.2 rfl _ _ _ _ rfl rfl rfl)).blkI ((hE.h6).far4 (by omega) _ _ _ _)).blkI ((hE.h5).far4 (by omega) _ _ _ _)).colv ((hE.h4).far4 (hE.here.2) (by decide) _ _ _ _)).colq ((hE.h3).sep4 (hE.here.2) rfl _ _ _ _ rfl rfl rfl)).fv ((hE.h2).sep4 hE.here.2 rfl _ _ _ _ rfl rfl rfl)).blkI ((hE.here.1.2).far4 (by omega) _ _ _ _)).blkI ((hE.here.2).s4 _ _ _ _));go_simp;clear x110_0 x110_1 x110_2 x110_3 f110_0 f110_1 f110_2 f110_3 hgl110;generalize ((((w109.setCell ⟨g108,0,none⟩ (.bool false)).setCell ⟨g108,1,none⟩ (.slice none 0 0)).setCell ⟨g108,2,none⟩ (.bool false)).setCell ⟨g108,3,none⟩ (.slice none 0 0))=W110 at hE⊢;refine hK.out _ _ (⟨(hE.h11).c10.1,(hE.h11).c10.2.1,(hE.h11).c10.2.2.1,(hE.h11).c10.2.2.2.1,(hE.h11).c10.2.2.2.2.1,(hE.h11).c10.2.2.2.2.2.1,(hE.h11).c10.2.2.2.2.2.2.1,(hE.h11).c10.2.2.2.2.2.2.2.1,(hE.h11).c10.2.2.2.2.2.2.2.2.1,(hE.h11).c10.2.2.2.2.2.2.2.2.2,(hE.h5).c2.1,(hE.h5).c2.2⟩) (fun hHeld=> ?_);clear hK K;try simp only[PL]
      refine tk 12 ?_;refine wpAnyH_done (by kernel_rfl) ?_ _;go_wp2_with fail
      go_meet
      exact⟨g108,rfl,rfl,by omega,(((((((((((((Env.again hE.bel).blkI (hE.h11)).kept (hE.h10)).fv (hE.h9)).blkI (hE.h8)).fv (hE.h7)).blkI (hE.h6)).blkI (hE.h5)).colv (hE.h4)).colq (hE.h3)).fv (hE.h2)).blkI (hE.here.1.2)).blkI (hE.here.2))⟩
    case rest=>
    clear hE;obtain⟨G6,rfl,rfl,hG6,hE⟩:=hcut;generalize wc=wk6 at hE⊢
    go_upto_region 7 with(fail)
    go_upto_region 9 with(fail)
    have hfa:=hE.h2;rw[Hfk.out] at hfa;replace hE:=hE.fv hfa;clear hfa;obtain⟨k111,k112,k113,k114⟩:=(hE.h9).c4;obtain⟨k115,k116,k117,k118⟩:=(hE.h7).c4;go_wp2_with fail
    refine hE.fr (ctimes_v (ca:=cv) (da:=dv) (cb:=cz) (db:=dz) hE.h10 hE.h8 Hhvl.out (Hhdl.out k hk) (Hhnl.out k hk)) ?_;clear hE k111 k112 k113 k114 k115 k116 k117 k118;intro sx Ax nx cx tx Bx mx dx w119 hE
    go_upto_region 10 with(fail)
    obtain⟨g120,hg120⟩:∃g120,g120=w119.heap.size:=⟨_,rfl⟩
    have hl120_0:Bp<g120:=by rw[hg120];exact(hE.h13).lt
    have hu120:u.heap.size<=g120:=by rw[hg120];exact(hE.h12).size
    have hl120_3:g12<g120:=by rw[hg120];exact(hE.h10).lt
    have hl120_5:g14<g120:=by rw[hg120];exact(hE.h8).lt
    have hl120_6:gx<g120:=by rw[hg120];exact(hE.h7).lt
    have hl120_10:g35<g120:=by rw[hg120];exact(hE.h3).lt
    have hl120_11:G6<g120:=by rw[hg120];exact(hE.h2).lt
    replace hE:=hE.blk 29 (qf4 sx Ax nx cx tx Bx mx dx) (g:=g120) hg120.symm;generalize w119.alloc (.cells (qf4 sx Ax nx cx tx Bx mx dx) 29)=W120 at hE⊢;rw[<-hg120];clear hg120;obtain⟨k121,k122,k123,k124⟩:=(hE.here.2).c4;obtain⟨k125,k126,k127,k128⟩:=(hE.h4).c4;go_wp2_with fail
    refine hE.fr (ctimes_v (ca:=cx) (da:=dx) (cb:=ca) (db:=da) hE.here.1.2 hE.h2 (Hhnl.out k hk) (Hhrl.out k hkl) (Hhcl.out k hkl)) ?_;clear hE k121 k122 k123 k124 k125 k126 k127 k128;intro sy Ay ny cy ty By my dy w129 hE
    go_upto_region 11 with(fail)
    obtain⟨g130,hg130⟩:∃g130,g130=w129.heap.size:=⟨_,rfl⟩
    have hl130_0:Bp<g130:=by rw[hg130];exact(hE.e8.1.1.1.1.1.1.1.2).lt
    have hu130:u.heap.size<=g130:=by rw[hg130];exact(hE.e8.1.1.1.1.1.1.2).size
    have hl130_3:g12<g130:=by rw[hg130];exact(hE.h12).lt
    have hl130_5:g14<g130:=by rw[hg130];exact(hE.h10).lt
    have hl130_6:gx<g130:=by rw[hg130];exact(hE.h9).lt
    have hl130_10:g35<g130:=by rw[hg130];exact(hE.h5).lt
    have hl130_11:G6<g130:=by rw[hg130];exact(hE.h4).lt
    have hl130_14:g120<g130:=by rw[hg130];exact(hE.here.1.2).lt
    replace hE:=hE.blk 29 (qf4 sy Ay ny cy ty By my dy) (g:=g130) hg130.symm;generalize w129.alloc (.cells (qf4 sy Ay ny cy ty By my dy) 29)=W130 at hE⊢;rw[<-hg130];clear hg130
    go_cut [9] from 49 to 61 (fun p wx=>∃(gr cap:Nat) (hn:Nat->Nat->Q8),p= .pointer (some ⟨g130,0,none⟩)/\Env w (fun V=>(((((((((((((((((True/\Blk 133 (Bp) #[.int .i64 F,.int .i64 S,.slice A n c,.bool si,.slice Ai ni ci,.bool ti,.slice Bi mi di,.int .i64 E,.int .i64 Y,.slice (some ⟨gr,0,none⟩) (k+1) cap] V)/\Kept u Bp V)/\FV V v sv Av nv tv Bv mv)/\Blk 29 (g12) (qf4 sv Av nv cv tv Bv mv dv) V)/\FV V (dd v f k) sz Az nz tz Bz mz)/\Blk 29 (g14) (qf4 sz Az nz cz tz Bz mz dz) V)/\Blk 33 (gx) #[.int .i64 E,.int .i64 yr] V)/\ColV u.heap.size (.slice (some ⟨gr,0,none⟩) (k+1) cap) (k+1) hn V)/\ColQ hn (k+1) (fun _ j=>j=0\/j=3) (colq v f N) V)/\FV V ((1:Int):Rat) sa Aa na ta Ba ma)/\Blk 29 (g35) (qf4 sa Aa na ca ta Ba ma da) V)/\Blk 29 (G6) qz4 V)/\FV V (f k) sa Aa na ta Ba ma)/\FV V (v*dd v f k) sx Ax nx tx Bx mx)/\Blk 29 (g120) (qf4 sx Ax nx cx tx Bx mx dx) V)/\FV V (v*dd v f k*f k) sy Ay ny ty By my)/\Blk 29 (g130) (qf4 sy Ay ny cy ty By my dy) V)) wx)
    case first=>
     replace hE:=hE.drew;refine wp_region_held_drew (S:=fun w'=>w'.cell? ⟨g14,0,none⟩=some (.bool sz)/\w'.cell? ⟨g14,1,none⟩=some (.slice Az nz cz)/\w'.cell? ⟨g14,2,none⟩=some (.bool tz)/\w'.cell? ⟨g14,3,none⟩=some (.slice Bz mz dz)/\w'.cell? ⟨g130,0,none⟩=some (.bool sy)/\w'.cell? ⟨g130,1,none⟩=some (.slice Ay ny cy)/\w'.cell? ⟨g130,2,none⟩=some (.bool ty)/\w'.cell? ⟨g130,3,none⟩=some (.slice By my dy)) (by kernel_rfl) (hE.h11.j4 hE.here.2.c4) (fun hHeld=> ?_)
     generalize W130.drew=wd at*
     refine tk 0 ?_;refine tk 1 ?_;refine tk 2 ?_;refine tk 3 ?_;refine tk 5 ?_;refine tk 6 ?_;refine tk 7 ?_;refine wpAnyH_ready (rs:=[4,8]) (by kernel_rfl) (by simp) (AllReadyH.cons rfl (fun K hK=> ?_) (AllReadyH.cons rfl (fun K hK=> ?_) (AllReadyH.nil)))
     ·
      obtain⟨k131,k132,k133,k134,k135,k136,k137,k138,k139,k140⟩:=(hE.e16.2).c10;go_simp;clear k131 k132 k133 k134 k135 k136 k137 k138 k139 k140;refine hK.out _ _ (hE.h11.j4 hE.here.2.c4) (fun hHeld=> ?_);clear hK K;try simp only[PL]
      refine r1 8 (fun K hK=> ?_);go_simp
      obtain⟨g141,hg141⟩:∃g141,g141=wd.heap.size:=⟨_,rfl⟩
      have hl141_0:Bp<g141:=by rw[hg141];exact(hE.e16.2).lt
      have hu141:u.heap.size<=g141:=by rw[hg141];exact(hE.e8.1.1.1.1.1.1.1.2).size
      have hl141_3:g12<g141:=by rw[hg141];exact(hE.h13).lt
      have hl141_5:g14<g141:=by rw[hg141];exact(hE.h11).lt
      have hl141_6:gx<g141:=by rw[hg141];exact(hE.h10).lt
      have hl141_10:g35<g141:=by rw[hg141];exact(hE.h6).lt
      have hl141_11:G6<g141:=by rw[hg141];exact(hE.h5).lt
      have hl141_14:g120<g141:=by rw[hg141];exact(hE.h2).lt
      have hl141_16:g130<g141:=by rw[hg141];exact(hE.here.2).lt
      replace hE:=hE.blk 98 #[.bool sz,.slice Az nz cz,.bool tz,.slice Bz mz dz,.bool false,.slice none 0 0,.bool false,.slice none 0 0,.bool false,.slice none 0 0,.bool false,.slice none 0 0,.bool sy,.slice Ay ny cy,.bool ty,.slice By my dy,.bool false,.slice none 0 0,.bool false,.slice none 0 0,.bool false,.slice none 0 0,.bool false,.slice none 0 0] (g:=g141) hg141.symm;generalize wd.alloc (.cells #[.bool sz,.slice Az nz cz,.bool tz,.slice Bz mz dz,.bool false,.slice none 0 0,.bool false,.slice none 0 0,.bool false,.slice none 0 0,.bool false,.slice none 0 0,.bool sy,.slice Ay ny cy,.bool ty,.slice By my dy,.bool false,.slice none 0 0,.bool false,.slice none 0 0,.bool false,.slice none 0 0,.bool false,.slice none 0 0] 98)=W141 at hE⊢;rw[<-hg141];clear hg141;refine hK.out _ _ (hE.h12.j4 hE.here.1.2.c4) (fun hHeld=> ?_);clear hK K;try simp only[PL]
      refine r1 9 (fun K hK=> ?_);have hCV:=hE.h10;have hnl:=hCV.noL;obtain⟨gr,cap,wa,hrun,hgr,hCB,hgn⟩:=append_col 43 hCV (hE.e16.2).size ⟨g141,0,none⟩ 1 (colx ⟨sz,Az,nz,cz,tz,Bz,mz,dz⟩ ⟨sy,Ay,ny,cy,ty,By,my,dy⟩) (col_hx (d:=⟨sz,Az,nz,cz,tz,Bz,mz,dz⟩) (c:=⟨sy,Ay,ny,cy,ty,By,my,dy⟩) (hE.here.2)) (by omega)
      have hqn:ColQ (fun k'=>if k'=k then colx ⟨sz,Az,nz,cz,tz,Bz,mz,dz⟩ ⟨sy,Ay,ny,cy,ty,By,my,dy⟩ else h k') (k+1) (fun _ j=>j=0\/j=3) (colq v f N) wa:=ColQ.snoc (hE.h9|>.to fun hf=>hf.grownV hCV hgn) (fun j _ hj=>by
       rcases hj with rfl|rfl
       ·exact(hE.h13).grownV hCV hgn
       ·exact(hE.h2).grownV hCV hgn) (fun _ _ _ _ hj=>hj)
      replace hE:=((((((((((((((((((Env.again (Go.Proofs.YtclbiihcbfnjmaaGreat.Below.grownV hE.bel hCV hgn hws (Nat.le_trans hws (hE.e16.2).size))).blkI ((hE.e16.1.2).grownV hCV hgn (by decide))).kept ((hE.e16.2).grownV hCV hgn)).fv ((hE.e8.1.1.1.1.1.1.1.2).grownV hCV hgn)).blkI ((hE.e8.1.1.1.1.1.1.2).grownV hCV hgn (by decide))).fv ((hE.h13).grownV hCV hgn)).blkI ((hE.h12).grownV hCV hgn (by decide))).blkI ((hE.h11).grownV hCV hgn (by decide))).colv (.inr ⟨gr,cap,rfl,hgr,hCB⟩)).colq hqn).fv ((hE.h8).grownV hCV hgn)).blkI ((hE.h7).grownV hCV hgn (by decide))).blkI ((hE.h6).grownV hCV hgn (by decide))).fv ((hE.h5).grownV hCV hgn)).fv ((hE.h4).grownV hCV hgn)).blkI ((hE.h3).grownV hCV hgn (by decide))).fv ((hE.h2).grownV hCV hgn)).blkI ((hE.here.1.2).grownV hCV hgn (by decide)));clear hqn hCB;refine Eq.mpr (if_pos (by rfl)) ?_;refine app_step (s:= .tmp 53) (x:= .tmp 57) rfl rfl rfl hrun ?_;clear hrun hCV hgn;refine hK.out _ _ (hE.h11.j4 hE.here.2.c4) (fun hHeld=> ?_);clear hK K;try simp only[PL]
      refine tk 10 ?_;refine tk 11 ?_;refine r1 12 (fun K hK=> ?_)
      have hgl142:w.heap.size<=Bp:=by omega
      obtain⟨x142_0,x142_1,x142_2,x142_3,x142_4,x142_5,x142_6,x142_7,x142_8,x142_9⟩:=(hE.e16.2).c10;have f142:=(hE.e16.2).frozen 9;replace hE:=((((((((((((((((((Env.again (hE.bel.setCell (p:=⟨Bp,9,none⟩) hgl142 (.slice (some ⟨gr,0,none⟩) (k+1) cap))).blkI (show Blk 133 Bp #[.int .i64 F,.int .i64 S,.slice A n c,.bool si,.slice Ai ni ci,.bool ti,.slice Bi mi di,.int .i64 E,.int .i64 Y,.slice (some ⟨gr,0,none⟩) (k+1) cap] _ by simpa using(hE.e16.2).set_ 9 (.slice (some ⟨gr,0,none⟩) (k+1) cap))).kept ((hE.e8.1.1.1.1.1.1.1.2).set1 (by first|exact .inr rfl|exact .inl (by omega)) 9 (.slice (some ⟨gr,0,none⟩) (k+1) cap))).fv ((hE.e8.1.1.1.1.1.1.2).sep (i:=9) (hE.e16.2) (by simpa [noLimb] using hnl) (.slice (some ⟨gr,0,none⟩) (k+1) cap))).blkI ((hE.h13).far (p:=⟨Bp,9,none⟩) (by first|omega|(simp;omega)) (.slice (some ⟨gr,0,none⟩) (k+1) cap))).fv ((hE.h12).sep (i:=9) (hE.e16.2) (by simpa [noLimb] using hnl) (.slice (some ⟨gr,0,none⟩) (k+1) cap))).blkI ((hE.h11).far (p:=⟨Bp,9,none⟩) (by first|omega|(simp;omega)) (.slice (some ⟨gr,0,none⟩) (k+1) cap))).blkI ((hE.h10).far (p:=⟨Bp,9,none⟩) (by first|omega|(simp;omega)) (.slice (some ⟨gr,0,none⟩) (k+1) cap))).colv ((hE.h9).far (hE.e16.2) (by decide) 9 (.slice (some ⟨gr,0,none⟩) (k+1) cap))).colq ((hE.h8).sep1 (hE.e16.2) (by simpa [noLimb] using hnl) 9 (.slice (some ⟨gr,0,none⟩) (k+1) cap))).fv ((hE.h7).sep (i:=9) (hE.e16.2) (by simpa [noLimb] using hnl) (.slice (some ⟨gr,0,none⟩) (k+1) cap))).blkI ((hE.h6).far (p:=⟨Bp,9,none⟩) (by first|omega|(simp;omega)) (.slice (some ⟨gr,0,none⟩) (k+1) cap))).blkI ((hE.h5).far (p:=⟨Bp,9,none⟩) (by first|omega|(simp;omega)) (.slice (some ⟨gr,0,none⟩) (k+1) cap))).fv ((hE.h4).sep (i:=9) (hE.e16.2) (by simpa [noLimb] using hnl) (.slice (some ⟨gr,0,none⟩) (k+1) cap))).fv ((hE.h3).sep (i:=9) (hE.e16.2) (by simpa [noLimb] using hnl) (.slice (some ⟨gr,0,none⟩) (k+1) cap))).blkI ((hE.h2).far (p:=⟨Bp,9,none⟩) (by first|omega|(simp;omega)) (.slice (some ⟨gr,0,none⟩) (k+1) cap))).fv ((hE.here.1.2).sep (i:=9) (hE.e16.2) (by simpa [noLimb] using hnl) (.slice (some ⟨gr,0,none⟩) (k+1) cap))).blkI ((hE.here.2).far (p:=⟨Bp,9,none⟩) (by first|omega|(simp;omega)) (.slice (some ⟨gr,0,none⟩) (k+1) cap)));go_simp;clear x142_0 x142_1 x142_2 x142_3 x142_4 x142_5 x142_6 x142_7 x142_8 x142_9 f142 hgl142;generalize wa.setCell ⟨Bp,9,none⟩ (.slice (some ⟨gr,0,none⟩) (k+1) cap)=W142 at hE⊢
      refine hK.out _ _ (hE.h11.j4 hE.here.2.c4) (fun hHeld=> ?_);clear hK K;try simp only[PL]
      refine wpAnyH_done (by kernel_rfl) ?_ _;go_wp2_with fail
      go_meet
      exact⟨_,_,_,rfl,((((((((((((((((((Env.again hE.bel).blkI (hE.e16.2)).kept (hE.e8.1.1.1.1.1.1.1.2)).fv (hE.e8.1.1.1.1.1.1.2)).blkI (hE.h13)).fv (hE.h12)).blkI (hE.h11)).blkI (hE.h10)).colv (hE.h9)).colq (hE.h8)).fv (hE.h7)).blkI (hE.h6)).blkI (hE.h5)).fv (hE.h4)).fv (hE.h3)).blkI (hE.h2)).fv (hE.here.1.2)).blkI (hE.here.2))⟩
     ·
      go_simp
      obtain⟨g143,hg143⟩:∃g143,g143=wd.heap.size:=⟨_,rfl⟩
      have hl143_0:Bp<g143:=by rw[hg143];exact(hE.e16.2).lt
      have hu143:u.heap.size<=g143:=by rw[hg143];exact(hE.e8.1.1.1.1.1.1.1.2).size
      have hl143_3:g12<g143:=by rw[hg143];exact(hE.h13).lt
      have hl143_5:g14<g143:=by rw[hg143];exact(hE.h11).lt
      have hl143_6:gx<g143:=by rw[hg143];exact(hE.h10).lt
      have hl143_10:g35<g143:=by rw[hg143];exact(hE.h6).lt
      have hl143_11:G6<g143:=by rw[hg143];exact(hE.h5).lt
      have hl143_14:g120<g143:=by rw[hg143];exact(hE.h2).lt
      have hl143_16:g130<g143:=by rw[hg143];exact(hE.here.2).lt
      replace hE:=hE.blk 98 #[.bool sz,.slice Az nz cz,.bool tz,.slice Bz mz dz,.bool false,.slice none 0 0,.bool false,.slice none 0 0,.bool false,.slice none 0 0,.bool false,.slice none 0 0,.bool sy,.slice Ay ny cy,.bool ty,.slice By my dy,.bool false,.slice none 0 0,.bool false,.slice none 0 0,.bool false,.slice none 0 0,.bool false,.slice none 0 0] (g:=g143) hg143.symm;generalize wd.alloc (.cells #[.bool sz,.slice Az nz cz,.bool tz,.slice Bz mz dz,.bool false,.slice none 0 0,.bool false,.slice none 0 0,.bool false,.slice none 0 0,.bool false,.slice none 0 0,.bool sy,.slice Ay ny cy,.bool ty,.slice By my dy,.bool false,.slice none 0 0,.bool false,.slice none 0 0,.bool false,.slice none 0 0,.bool false,.slice none 0 0] 98)=W143 at hE⊢;rw[<-hg143];clear hg143;refine hK.out _ _ (hE.h12.j4 hE.here.1.2.c4) (fun hHeld=> ?_);clear hK K;try simp only[PL]
      refine r1 4 (fun K hK=> ?_);obtain⟨k144,k145,k146,k147,k148,k149,k150,k151,k152,k153⟩:=(hE.e16.1.2).c10;go_simp;clear k144 k145 k146 k147 k148 k149 k150 k151 k152 k153;refine hK.out _ _ (hE.h12.j4 hE.here.1.2.c4) (fun hHeld=> ?_);clear hK K;try simp only[PL]
      refine r1 9 (fun K hK=> ?_);have hCV:=hE.h10;have hnl:=hCV.noL;obtain⟨gr,cap,wa,hrun,hgr,hCB,hgn⟩:=append_col 43 hCV (hE.e16.2).size ⟨g143,0,none⟩ 1 (colx ⟨sz,Az,nz,cz,tz,Bz,mz,dz⟩ ⟨sy,Ay,ny,cy,ty,By,my,dy⟩) (col_hx (d:=⟨sz,Az,nz,cz,tz,Bz,mz,dz⟩) (c:=⟨sy,Ay,ny,cy,ty,By,my,dy⟩) (hE.here.2)) (by omega)
      have hqn:ColQ (fun k'=>if k'=k then colx ⟨sz,Az,nz,cz,tz,Bz,mz,dz⟩ ⟨sy,Ay,ny,cy,ty,By,my,dy⟩ else h k') (k+1) (fun _ j=>j=0\/j=3) (colq v f N) wa:=ColQ.snoc (hE.h9|>.to fun hf=>hf.grownV hCV hgn) (fun j _ hj=>by
       rcases hj with rfl|rfl
       ·exact(hE.h13).grownV hCV hgn
       ·exact(hE.h2).grownV hCV hgn) (fun _ _ _ _ hj=>hj)
      replace hE:=((((((((((((((((((Env.again (Go.Proofs.YtclbiihcbfnjmaaGreat.Below.grownV hE.bel hCV hgn hws (Nat.le_trans hws (hE.e16.2).size))).blkI ((hE.e16.1.2).grownV hCV hgn (by decide))).kept ((hE.e16.2).grownV hCV hgn)).fv ((hE.e8.1.1.1.1.1.1.1.2).grownV hCV hgn)).blkI ((hE.e8.1.1.1.1.1.1.2).grownV hCV hgn (by decide))).fv ((hE.h13).grownV hCV hgn)).blkI ((hE.h12).grownV hCV hgn (by decide))).blkI ((hE.h11).grownV hCV hgn (by decide))).colv (.inr ⟨gr,cap,rfl,hgr,hCB⟩)).colq hqn).fv ((hE.h8).grownV hCV hgn)).blkI ((hE.h7).grownV hCV hgn (by decide))).blkI ((hE.h6).grownV hCV hgn (by decide))).fv ((hE.h5).grownV hCV hgn)).fv ((hE.h4).grownV hCV hgn)).blkI ((hE.h3).grownV hCV hgn (by decide))).fv ((hE.h2).grownV hCV hgn)).blkI ((hE.here.1.2).grownV hCV hgn (by decide)));clear hqn hCB;refine Eq.mpr (if_pos (by rfl)) ?_;refine app_step (s:= .tmp 53) (x:= .tmp 57) rfl rfl rfl hrun ?_;clear hrun hCV hgn;refine hK.out _ _ (hE.h11.j4 hE.here.2.c4) (fun hHeld=> ?_);clear hK K;try simp only[PL]
      refine tk 10 ?_;refine tk 11 ?_;refine r1 12 (fun K hK=> ?_)
      have hgl154:w.heap.size<=Bp:=by omega
      obtain⟨x154_0,x154_1,x154_2,x154_3,x154_4,x154_5,x154_6,x154_7,x154_8,x154_9⟩:=(hE.e16.2).c10;have f154:=(hE.e16.2).frozen 9;replace hE:=((((((((((((((((((Env.again (hE.bel.setCell (p:=⟨Bp,9,none⟩) hgl154 (.slice (some ⟨gr,0,none⟩) (k+1) cap))).blkI (show Blk 133 Bp #[.int .i64 F,.int .i64 S,.slice A n c,.bool si,.slice Ai ni ci,.bool ti,.slice Bi mi di,.int .i64 E,.int .i64 Y,.slice (some ⟨gr,0,none⟩) (k+1) cap] _ by simpa using(hE.e16.2).set_ 9 (.slice (some ⟨gr,0,none⟩) (k+1) cap))).kept ((hE.e8.1.1.1.1.1.1.1.2).set1 (by first|exact .inr rfl|exact .inl (by omega)) 9 (.slice (some ⟨gr,0,none⟩) (k+1) cap))).fv ((hE.e8.1.1.1.1.1.1.2).sep (i:=9) (hE.e16.2) (by simpa [noLimb] using hnl) (.slice (some ⟨gr,0,none⟩) (k+1) cap))).blkI ((hE.h13).far (p:=⟨Bp,9,none⟩) (by first|omega|(simp;omega)) (.slice (some ⟨gr,0,none⟩) (k+1) cap))).fv ((hE.h12).sep (i:=9) (hE.e16.2) (by simpa [noLimb] using hnl) (.slice (some ⟨gr,0,none⟩) (k+1) cap))).blkI ((hE.h11).far (p:=⟨Bp,9,none⟩) (by first|omega|(simp;omega)) (.slice (some ⟨gr,0,none⟩) (k+1) cap))).blkI ((hE.h10).far (p:=⟨Bp,9,none⟩) (by first|omega|(simp;omega)) (.slice (some ⟨gr,0,none⟩) (k+1) cap))).colv ((hE.h9).far (hE.e16.2) (by decide) 9 (.slice (some ⟨gr,0,none⟩) (k+1) cap))).colq ((hE.h8).sep1 (hE.e16.2) (by simpa [noLimb] using hnl) 9 (.slice (some ⟨gr,0,none⟩) (k+1) cap))).fv ((hE.h7).sep (i:=9) (hE.e16.2) (by simpa [noLimb] using hnl) (.slice (some ⟨gr,0,none⟩) (k+1) cap))).blkI ((hE.h6).far (p:=⟨Bp,9,none⟩) (by first|omega|(simp;omega)) (.slice (some ⟨gr,0,none⟩) (k+1) cap))).blkI ((hE.h5).far (p:=⟨Bp,9,none⟩) (by first|omega|(simp;omega)) (.slice (some ⟨gr,0,none⟩) (k+1) cap))).fv ((hE.h4).sep (i:=9) (hE.e16.2) (by simpa [noLimb] using hnl) (.slice (some ⟨gr,0,none⟩) (k+1) cap))).fv ((hE.h3).sep (i:=9) (hE.e16.2) (by simpa [noLimb] using hnl) (.slice (some ⟨gr,0,none⟩) (k+1) cap))).blkI ((hE.h2).far (p:=⟨Bp,9,none⟩) (by first|omega|(simp;omega)) (.slice (some ⟨gr,0,none⟩) (k+1) cap))).fv ((hE.here.1.2).sep (i:=9) (hE.e16.2) (by simpa [noLimb] using hnl) (.slice (some ⟨gr,0,none⟩) (k+1) cap))).blkI ((hE.here.2).far (p:=⟨Bp,9,none⟩) (by first|omega|(simp;omega)) (.slice (some ⟨gr,0,none⟩) (k+1) cap)));go_simp;clear x154_0 x154_1 x154_2 x154_3 x154_4 x154_5 x154_6 x154_7 x154_8 x154_9 f154 hgl154;generalize wa.setCell ⟨Bp,9,none⟩ (.slice (some ⟨gr,0,none⟩) (k+1) cap)=W154 at hE⊢
      refine hK.out _ _ (hE.h11.j4 hE.here.2.c4) (fun hHeld=> ?_);clear hK K;try simp only[PL]
      refine wpAnyH_done (by kernel_rfl) ?_ _;go_wp2_with fail
      go_meet
      exact⟨_,_,_,rfl,((((((((((((((((((Env.again hE.bel).blkI (hE.e16.2)).kept (hE.e8.1.1.1.1.1.1.1.2)).fv (hE.e8.1.1.1.1.1.1.2)).blkI (hE.h13)).fv (hE.h12)).blkI (hE.h11)).blkI (hE.h10)).colv (hE.h9)).colq (hE.h8)).fv (hE.h7)).blkI (hE.h6)).blkI (hE.h5)).fv (hE.h4)).fv (hE.h3)).blkI (hE.h2)).fv (hE.here.1.2)).blkI (hE.here.2))⟩
    case rest=>
    clear hE;obtain⟨gr,cap,hn,rfl,hE⟩:=hcut;generalize wc=wk11 at hE⊢
    go_upto_region 12 with(fail)
    obtain⟨k155,k156,k157,k158⟩:=(hE.h2).c4;obtain⟨k159,k160,k161,k162⟩:=(hE.here.2).c4;go_wp2_with fail
    refine hE.fr (cminus_v (ca:=cx) (da:=dx) (cb:=cy) (db:=dy) hE.h3 hE.here.1.2 (Hhnl.out k hk) (Hhcl.out k hkl) (Hhdl.out (k+1) hkl)) ?_;clear hE k155 k156 k157 k158 k159 k160 k161 k162;intro sh Ah nh ch th Bh mh dh w163 hE
    have hgl164:w.heap.size<=g14:=by omega
    obtain⟨x164_0,x164_1,x164_2,x164_3⟩:=(hE.h12).c4;obtain⟨f164_0,f164_1,f164_2,f164_3⟩:=hE.h12.f4;replace hE:=(((((((((((((((((((Env.again (bel4 hE.bel hgl164 (.bool sh) (.slice Ah nh ch) (.bool th) (.slice Bh mh dh))).blkI ((hE.e16.1.2).far4 (by omega) _ _ _ _)).kept ((hE.e16.2).set4 (by first|exact .inr rfl|exact .inl (by omega)) _ _ _ _)).fv ((hE.e8.1.1.1.1.1.1.1.2).sep4 hE.h12 rfl _ _ _ _ rfl rfl rfl)).blkI ((hE.e8.1.1.1.1.1.1.2).far4 (by omega) _ _ _ _)).fv ((hE.h13).sep4 hE.h12 rfl _ _ _ _ rfl rfl rfl)).blkI ((hE.h12).s4 _ _ _ _)).blkI ((hE.h11).far4 (by omega) _ _ _ _)).colv ((hE.h10).far4 (hE.h12) (by decide) _ _ _ _)).colq ((hE.h9).sep4 (hE.h12) rfl _ _ _ _ rfl rfl rfl)).fv ((hE.h8).sep4 hE.h12 rfl _ _ _ _ rfl rfl rfl)).blkI ((hE.h7).far4 (by omega) _ _ _ _)).blkI ((hE.h6).far4 (by omega) _ _ _ _)).fv ((hE.h5).sep4 hE.h12 rfl _ _ _ _ rfl rfl rfl)).fv ((hE.h4).sep4 hE.h12 rfl _ _ _ _ rfl rfl rfl)).blkI ((hE.h3).far4 (by omega) _ _ _ _)).fv ((hE.h2).sep4 hE.h12 rfl _ _ _ _ rfl rfl rfl)).blkI ((hE.here.1.2).far4 (by omega) _ _ _ _)).fv ((hE.here.2).sep4 hE.h12 rfl _ _ _ _ rfl rfl rfl))
    go_upto_region 13 with(fail)
    clear x164_0 x164_1 x164_2 x164_3 f164_0 f164_1 f164_2 f164_3 hgl164;generalize ((((w163.setCell ⟨g14,0,none⟩ (.bool sh)).setCell ⟨g14,1,none⟩ (.slice Ah nh ch)).setCell ⟨g14,2,none⟩ (.bool th)).setCell ⟨g14,3,none⟩ (.slice Bh mh dh))=W164 at hE⊢;obtain⟨k165,k166⟩:=(hE.h11).c2
    go_upto_region 4 with(fail)
    clear k165 k166
    obtain⟨g167,hg167⟩:∃g167,g167=W164.heap.size:=⟨_,rfl⟩
    have hl167_0:Bp<g167:=by rw[hg167];exact(hE.e16.1.2).lt
    have hu167:u.heap.size<=g167:=by rw[hg167];exact(hE.e16.2).size
    have hl167_3:g12<g167:=by rw[hg167];exact(hE.e8.1.1.1.1.1.1.2).lt
    have hl167_5:g14<g167:=by rw[hg167];exact(hE.h12).lt
    have hl167_6:gx<g167:=by rw[hg167];exact(hE.h11).lt
    have hl167_10:g35<g167:=by rw[hg167];exact(hE.h7).lt
    have hl167_11:G6<g167:=by rw[hg167];exact(hE.h6).lt
    have hl167_14:g120<g167:=by rw[hg167];exact(hE.h3).lt
    have hl167_16:g130<g167:=by rw[hg167];exact(hE.here.1.2).lt
    replace hE:=hE.blk 33 #[.int .i64 E,.int .i64 yr] (g:=g167) hg167.symm;generalize W164.alloc (.cells #[.int .i64 E,.int .i64 yr] 33)=W167 at hE⊢;rw[<-hg167];clear hg167;have o1:=yr_wrap HhR.out HYR.out (by omega)
    have hgl168:w.heap.size<=g167:=by omega
    obtain⟨x168_0,x168_1⟩:=(hE.here.2).c2;have f168:=(hE.here.2).frozen 1;replace hE:=((((((((((((((((((((Env.again (hE.bel.setCell (p:=⟨g167,1,none⟩) hgl168 (.int .i64 (yr+1)))).blkI ((hE.e16.1.1.2).far (p:=⟨g167,1,none⟩) (by first|omega|(simp;omega)) (.int .i64 (yr+1)))).kept ((hE.e16.1.2).set1 (by first|exact .inr rfl|exact .inl (by omega)) 1 (.int .i64 (yr+1)))).fv ((hE.e16.2).sep (i:=1) (hE.here.2) rfl (.int .i64 (yr+1)))).blkI ((hE.e8.1.1.1.1.1.1.1.2).far (p:=⟨g167,1,none⟩) (by first|omega|(simp;omega)) (.int .i64 (yr+1)))).fv ((hE.e8.1.1.1.1.1.1.2).sep (i:=1) (hE.here.2) rfl (.int .i64 (yr+1)))).blkI ((hE.h13).far (p:=⟨g167,1,none⟩) (by first|omega|(simp;omega)) (.int .i64 (yr+1)))).blkI ((hE.h12).far (p:=⟨g167,1,none⟩) (by first|omega|(simp;omega)) (.int .i64 (yr+1)))).colv ((hE.h11).far (hE.here.2) (by decide) 1 (.int .i64 (yr+1)))).colq ((hE.h10).sep1 (hE.here.2) rfl 1 (.int .i64 (yr+1)))).fv ((hE.h9).sep (i:=1) (hE.here.2) rfl (.int .i64 (yr+1)))).blkI ((hE.h8).far (p:=⟨g167,1,none⟩) (by first|omega|(simp;omega)) (.int .i64 (yr+1)))).blkI ((hE.h7).far (p:=⟨g167,1,none⟩) (by first|omega|(simp;omega)) (.int .i64 (yr+1)))).fv ((hE.h6).sep (i:=1) (hE.here.2) rfl (.int .i64 (yr+1)))).fv ((hE.h5).sep (i:=1) (hE.here.2) rfl (.int .i64 (yr+1)))).blkI ((hE.h4).far (p:=⟨g167,1,none⟩) (by first|omega|(simp;omega)) (.int .i64 (yr+1)))).fv ((hE.h3).sep (i:=1) (hE.here.2) rfl (.int .i64 (yr+1)))).blkI ((hE.h2).far (p:=⟨g167,1,none⟩) (by first|omega|(simp;omega)) (.int .i64 (yr+1)))).fv ((hE.here.1.2).sep (i:=1) (hE.here.2) rfl (.int .i64 (yr+1)))).blkI (show Blk 33 g167 #[.int .i64 E,.int .i64 (yr+1)] _ by simpa using(hE.here.2).set_ 1 (.int .i64 (yr+1))));go_wp2_with fail
    clear x168_0 x168_1 f168 hgl168;generalize W167.setCell ⟨g167,1,none⟩ (.int .i64 (yr+1))=W168 at hE⊢;clear o1
    go_roundw
    case rel=>
     exact⟨k+1,g167,yr+1,_,_,_,_,_,_,_,_,_,_,by omega,by have:=HYR.out;omega,rfl,by omega,((((((((((Env.again hE.bel).blkI (hE.e16.1.1.2)).kept (hE.e16.1.2)).fv (hE.e16.2)).blkI (hE.e8.1.1.1.1.1.1.1.2)).fv (hE.here.1.2)).blkI (hE.h13)).blkI (hE.here.2)).colv (hE.h11)).colq (hE.h10))⟩
    case measure=>
     rw[yearAt_of (hE.here.2),yearAt_of HX.out];have:=HYR.out;omega
end Go.Proofs.YtclbiihcbfnjmaaGreat
