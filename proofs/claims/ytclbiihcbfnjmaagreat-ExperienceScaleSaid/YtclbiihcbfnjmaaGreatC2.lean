/-
  Parts.
-/
import Derived.Test.YtclbiihcbfnjmaaGreatK19
set_option linter.unusedSimpArgs false
set_option maxRecDepth 100000
set_option maxHeartbeats 8000000
namespace Go.Proofs.YtclbiihcbfnjmaaGreat
open Go.RowKit

theorem Rc {F S E Y:Int}{A:Option Addr}{n c:Nat}{r:Nat->RH}{si ti:Bool}{Ai Bi:Option Addr}{ni ci mi di:Nat}{q:Rat}{w u:World}(VJ:Below w.heap.size w u)(hT:dA w A n r)(hB:kL n r)(hq:FV w q si Ai ni ti Bi mi)(hi:zJ q)(hR:cB F S n r E Y)(N:Nat)(hN:kH (1/(1+q)) (fr F S n r E Y) N)(kM:N<=80)(Bp:Nat)(hBw:w.heap.size<=Bp)(QD:ak 133 Bp #[.int .i64 F,.int .i64 S,.slice A n c,.bool si,.slice Ai ni ci,.bool ti,.slice Bi mi di,.int .i64 E,.int .i64 Y,.slice none 0 0] u):
  Calls Tryz.prog 57 #[.pointer (some ⟨Bp,0,none⟩)] u (fun e u'=>(∃x,e= .returned x)/\∃cs0 h,ak 133 Bp #[.int .i64 F,.int .i64 S,.slice A n c,.bool si,.slice Ai ni ci,.bool ti,.slice Bi mi di,.int .i64 E,.int .i64 Y,cs0] u'/\eV u.heap.size cs0 N h u'/\bH h N (fun _ j=>j=0\/j=3) (bu (1/(1+q)) (fr F S n r E Y) N) u'/\Kept u Bp u'/\Below w.heap.size w u'):=by
 obtain⟨v,hv⟩:∃v,v=1/(1+q):=⟨_,rfl⟩
 obtain⟨f,hf⟩:∃f,f=fr F S n r E Y:=⟨_,rfl⟩
 rw[<-hv,<-hf] at hN;rw[<-hv,<-hf]
 have hD:xj v:=by rw[hv];exact hi.KD
 have xo:sN f N:=by rw[hf];exact fU (hT) hR N
 have rj:3*N+3<=255:=by omega
 have hdl:∀k,k<=N->fl (dd v f k)<=256:=fun k hk=>(FO hD xo hk).l (by decide) (by decide) (by omega)
 have lN:∀k,k<=N->fl (v*dd v f k)<=256:=fun k hk=>(hD.ql.mul (FO hD xo hk)).l (by decide) (by decide) (by omega)
 have pY:∀k,k<N->fl (v*dd v f k*f k)<=256:=fun k hk=>(KE hD xo hk).l (by decide) (by decide) (by omega)
 have hrl:∀k,k<N->fl (f k)<=256:=fun k hk=>Nat.le_trans (xp xo hk) (by decide)
 have hvl:fl v<=256:=hD.ql.l (by decide) (by decide) (by decide);have VK:=Lib.hid hv;clear hv;have VL:=Lib.hid hf;clear hf;have p6:=Lib.hid hN;clear hN;have HhD:=Lib.hid hD;clear hD;have aov:=Lib.hid xo;clear xo;have Re:=Lib.hid hdl;clear hdl;have IB:=Lib.hid lN;clear lN;have Rf:=Lib.hid pY;clear pY;have Rg:=Lib.hid hrl;clear hrl;have Rh:=Lib.hid hvl;clear hvl;have D8:=Lib.hid hR;clear hR;have mP:=Lib.hid hi;clear hi;have KF:=Lib.hid rj;clear rj;have zK:=Lib.hid hT;clear hT;have Hhq:=Lib.hid hq;clear hq;have QE:=Lib.hid hB;clear hB;have hE:=((Env.again VJ).af QD).kept (Kept.refl u Bp);clear QD;have KG:w.heap.size<=u.heap.size:=VJ.size
 go_enter Tryz.func57,Tryz.ntmps57
 go_upto_region 0 with(fail)
 obtain⟨k1,k2,k3,k4,k5,k6,k7,k8,k9,eG⟩:=(hE.here.1.2).bF;go_wp2_with fail
 have hc:=zX (F:=F) (S:=S) (A:=A) (n:=n) (c:=c) (ci:=ci) (di:=di) (Hhq.out.below hE.av) mP.out;rw[<-VK.out] at hc;refine hE.fr (hc) ?_;clear hE k1 k2 k3 k4 k5 k6 k7 k8 k9 eG;intro sv Av nv cv tv Bv mv dv zY hE;clear hc
 go_upto_region 1 with(fail)
 obtain⟨g12,sA⟩:∃g12,g12=zY.heap.size:=⟨_,rfl⟩
 have aiV:Bp<g12:=by rw[sA];exact(hE.h2).lt
 have apk:u.heap.size<=g12:=by rw[sA];exact(hE.here.1.2).size
 replace hE:=hE.blk 29 (az sv Av nv cv tv Bv mv dv) (g:=g12) sA.symm;generalize zY.alloc (.cells (az sv Av nv cv tv Bv mv dv) 29)=W12 at hE⊢;rw[<-sA];clear sA;go_wp2_with fail
 have hc:=aR 1 W12 (by decide) (by decide);rw[show(((1:Int):Rat))=dd v f 0 from rfl] at hc;refine hE.fr (hc) ?_;clear hE;intro sz Az nz cz tz Bz mz dz VM hE;clear hc
 go_upto_region 2 with(fail)
 obtain⟨g14,sB⟩:∃g14,g14=VM.heap.size:=⟨_,rfl⟩
 have aiW:Bp<g14:=by rw[sB];exact(hE.h4).lt
 have apl:u.heap.size<=g14:=by rw[sB];exact(hE.h3).size
 have aiX:g12<g14:=by rw[sB];exact(hE.here.1.2).lt
 replace hE:=hE.blk 29 (az sz Az nz cz tz Bz mz dz) (g:=g14) sB.symm;generalize VM.alloc (.cells (az sz Az nz cz tz Bz mz dz) 29)=XK at hE⊢;rw[<-sB];clear sB;obtain⟨fP,lC,nL,jx,lO,kI,og,mQ,oh,oU⟩:=(hE.h5).bF;go_wp2_with fail
 clear fP lC nL jx lO kI og mQ oh oU
 obtain⟨XL,D9⟩:∃XL,XL=XK.heap.size:=⟨_,rfl⟩
 have aiY:Bp<XL:=by rw[D9];exact(hE.h5).lt
 have apm:u.heap.size<=XL:=by rw[D9];exact(hE.h4).size
 have aiZ:g12<XL:=by rw[D9];exact(hE.h2).lt
 have ai0:g14<XL:=by rw[D9];exact(hE.here.2).lt
 replace hE:=hE.blk 33 #[.int .i64 E,.int .i64 Y] (g:=XL) D9.symm;generalize XK.alloc (.cells #[.int .i64 E,.int .i64 Y] 33)=W25 at hE⊢;rw[<-D9];clear D9
 go_loopw [4] (fun p wr=>∃(k gx:Nat) (yr:Int) (cs0:Value) (h:Nat->Nat->Q8) (sz:Bool) (Az:Option Addr) (nz cz:Nat) (tz:Bool) (Bz:Option Addr) (mz dz:Nat),k<=N/\yr=Y+(k:Int)/\p= .pointer (some ⟨gx,0,none⟩)/\g14<gx/\Env w (fun V=>(((((((((True/\ak 133 (Bp) #[.int .i64 F,.int .i64 S,.slice A n c,.bool si,.slice Ai ni ci,.bool ti,.slice Bi mi di,.int .i64 E,.int .i64 Y,cs0] V)/\Kept u Bp V)/\FV V v sv Av nv tv Bv mv)/\ak 29 (g12) (az sv Av nv cv tv Bv mv dv) V)/\FV V (dd v f k) sz Az nz tz Bz mz)/\ak 29 (g14) (az sz Az nz cz tz Bz mz dz) V)/\ak 33 (gx) #[.int .i64 E,.int .i64 yr] V)/\eV u.heap.size cs0 k h V)/\bH h k (fun _ j=>j=0\/j=3) (bu v f N) V)) wr) (fun p wr=>(Y+(N:Int)-Ea p wr).toNat)
 case atStart=>
  exact⟨0,_,Y,_,fun _ _=>Q8.z,_,_,_,_,_,_,_,_,Nat.zero_le _,by simp,rfl,by omega,((((((((((Env.again hE.av).af (hE.h6)).kept (hE.h5)).fv (hE.h4)).af (hE.h3)).fv (hE.h2)).af (hE.here.1.2)).af (hE.here.2)).fe (.inl ⟨rfl,rfl⟩)).bu (fun k hk=>absurd hk (Nat.not_lt_zero _)))⟩
 case round=>
  clear hE;obtain⟨k,gx,yr,cs0,h,sz,Az,nz,cz,tz,Bz,mz,dz,hk,hyr,rfl,hgx,hE⟩:=hrel;have Ri:=Lib.hid hyr;clear hyr;have HX:=Lib.hid (hE.h2)
  have hgu:u.heap.size<=g14:=by omega
  have tE:w.heap.size<=u.heap.size:=KG
  by_cases hkN:k=N
  ·
   have IC:nz=0:=(FV.nz hE.h4).2 (by rw[hkN];exact p6.out.1);subst hkN;subst IC;obtain⟨lW,oV,om,FP⟩:=(hE.h3).c4;go_wp2_with fail
   clear lW oV om FP
   go_end0
   exact⟨⟨_,rfl⟩,cs0,h,hE.h8,hE.here.1.2,hE.here.2,hE.h7,hE.av⟩
  ·
   have Rj:k<N:=by omega
   have vG:0<nz:=Nat.pos_of_ne_zero (fun e0=>p6.out.2 k Rj ((FV.nz hE.h4).1 e0));have t1:decide ((0:Int)<(nz:Int))=true:=decide_eq_true (by omega)
   have t2:(0:Int)<(nz:Int):=by omega
   have t3:decide (0<nz)=true:=decide_eq_true vG;have aow:N<=80:=kM;obtain⟨zL,zM,FQ,vH⟩:=(hE.h3).c4;go_wp2_with fail
   refine hE.fr (aR 1 _ (by decide) (by decide)) ?_;clear hE zL zM FQ vH;intro sa Aa na ca ta Ba ma da VN hE;clear t1 t2 t3 vG
   go_upto_region 6 with(fail)
   obtain⟨nM,zZ⟩:∃nM,nM=VN.heap.size:=⟨_,rfl⟩
   have ai1:Bp<nM:=by rw[zZ];exact(hE.h9).lt
   have apn:u.heap.size<=nM:=by rw[zZ];exact(hE.h8).size
   have ai2:g12<nM:=by rw[zZ];exact(hE.h6).lt
   have ai3:g14<nM:=by rw[zZ];exact(hE.h4).lt
   have ai4:gx<nM:=by rw[zZ];exact(hE.h3).lt
   replace hE:=hE.blk 29 (az sa Aa na ca ta Ba ma da) (g:=nM) zZ.symm;generalize VN.alloc (.cells (az sa Aa na ca ta Ba ma da) 29)=W35 at hE⊢;rw[<-zZ];clear zZ
   by_cases XM:yr<=300
   ·
    have XO:=Lib.hid (KH D8.out Ri.out XM);have Hfk:Hid (fr F S n r E yr 0=f k):=Lib.hid (by rw[VL.out];exact KI Ri.out)
    go_cut [6,7] from 30 to 40 (fun p0 p1 wx=>∃G6 sj Aj nj cj tj Bj mj dj,p0= .pointer (some ⟨G6,0,none⟩)/\p1= .int .i64 0/\nM<G6/\Env w (fun V=>(((((((((((((True/\ak 133 (Bp) #[.int .i64 F,.int .i64 S,.slice A n c,.bool si,.slice Ai ni ci,.bool ti,.slice Bi mi di,.int .i64 E,.int .i64 Y,cs0] V)/\Kept u Bp V)/\FV V v sv Av nv tv Bv mv)/\ak 29 (g12) (az sv Av nv cv tv Bv mv dv) V)/\FV V (dd v f k) sz Az nz tz Bz mz)/\ak 29 (g14) (az sz Az nz cz tz Bz mz dz) V)/\ak 33 (gx) #[.int .i64 E,.int .i64 yr] V)/\eV u.heap.size cs0 k h V)/\bH h k (fun _ j=>j=0\/j=3) (bu v f N) V)/\FV V ((1:Int):Rat) sa Aa na ta Ba ma)/\ak 29 (nM) (az sa Aa na ca ta Ba ma da) V)/\FV V (f k) sj Aj nj tj Bj mj)/\ak 29 (G6) (az sj Aj nj cj tj Bj mj dj) V)) wx)
    case first=>
     replace hE:=hE.drew;refine wp_region_held_drew (S:=fun w'=>w'.cell? ⟨Bp,0,none⟩=some (.int .i64 F)/\w'.cell? ⟨Bp,1,none⟩=some (.int .i64 S)/\w'.cell? ⟨Bp,2,none⟩=some (.slice A n c)/\w'.cell? ⟨Bp,3,none⟩=some (.bool si)/\w'.cell? ⟨Bp,4,none⟩=some (.slice Ai ni ci)/\w'.cell? ⟨Bp,5,none⟩=some (.bool ti)/\w'.cell? ⟨Bp,6,none⟩=some (.slice Bi mi di)/\w'.cell? ⟨Bp,7,none⟩=some (.int .i64 E)/\w'.cell? ⟨Bp,8,none⟩=some (.int .i64 Y)/\w'.cell? ⟨Bp,9,none⟩=some (cs0)/\w'.cell? ⟨gx,0,none⟩=some (.int .i64 E)/\w'.cell? ⟨gx,1,none⟩=some (.int .i64 yr)) (by kernel_rfl) (⟨(hE.h10).bF.1,(hE.h10).bF.2.1,(hE.h10).bF.2.2.1,(hE.h10).bF.2.2.2.1,(hE.h10).bF.2.2.2.2.1,(hE.h10).bF.2.2.2.2.2.1,(hE.h10).bF.2.2.2.2.2.2.1,(hE.h10).bF.2.2.2.2.2.2.2.1,(hE.h10).bF.2.2.2.2.2.2.2.2.1,(hE.h10).bF.2.2.2.2.2.2.2.2.2,(hE.h4).c2.1,(hE.h4).c2.2⟩) (fun hHeld=> ?_)
     generalize W35.drew=wd at*
     refine tk 0 ?_;refine tk 1 ?_;refine tk 2 ?_;refine tk 3 ?_;refine tk 4 ?_;refine tk 5 ?_;refine wpAnyH_ready (rs:=[6,10]) (by kernel_rfl) (by simp) (AllReadyH.cons rfl (fun K hK=> ?_) (AllReadyH.cons rfl (fun K hK=> ?_) (AllReadyH.nil)))
     ·
      go_simp;have hc:=oW (c:=c) (zK.out.below hE.av) QE.out XO.out;rw[Hfk.out] at hc;refine hE.fr (hc) ?_;clear hE;intro sj Aj nj cj tj Bj mj dj w36 hE;clear hc;go_wp2_with fail
      refine hK.out _ _ (⟨(hE.h11).bF.1,(hE.h11).bF.2.1,(hE.h11).bF.2.2.1,(hE.h11).bF.2.2.2.1,(hE.h11).bF.2.2.2.2.1,(hE.h11).bF.2.2.2.2.2.1,(hE.h11).bF.2.2.2.2.2.2.1,(hE.h11).bF.2.2.2.2.2.2.2.1,(hE.h11).bF.2.2.2.2.2.2.2.2.1,(hE.h11).bF.2.2.2.2.2.2.2.2.2,(hE.h5).c2.1,(hE.h5).c2.2⟩) (fun hHeld=> ?_);clear hK K;try simp only[PL]
      refine tk 7 ?_;refine tk 8 ?_;refine tk 9 ?_;refine r1 10 (fun K hK=> ?_);go_simp
      obtain⟨Eb,xq⟩:∃Eb,Eb=w36.heap.size:=⟨_,rfl⟩
      have ai5:Bp<Eb:=by rw[xq];exact(hE.h11).lt
      have apo:u.heap.size<=Eb:=by rw[xq];exact(hE.h10).size
      have ai6:g12<Eb:=by rw[xq];exact(hE.h8).lt
      have ai7:g14<Eb:=by rw[xq];exact(hE.h6).lt
      have ai8:gx<Eb:=by rw[xq];exact(hE.h5).lt
      have ahO:nM<Eb:=by rw[xq];exact(hE.here.1.2).lt
      replace hE:=hE.blk 29 aY (g:=Eb) xq.symm;generalize w36.alloc (.cells aY 29)=W37 at hE⊢;rw[<-xq];clear xq;refine hK.out _ _ (⟨(hE.h12).bF.1,(hE.h12).bF.2.1,(hE.h12).bF.2.2.1,(hE.h12).bF.2.2.2.1,(hE.h12).bF.2.2.2.2.1,(hE.h12).bF.2.2.2.2.2.1,(hE.h12).bF.2.2.2.2.2.2.1,(hE.h12).bF.2.2.2.2.2.2.2.1,(hE.h12).bF.2.2.2.2.2.2.2.2.1,(hE.h12).bF.2.2.2.2.2.2.2.2.2,(hE.h6).c2.1,(hE.h6).c2.2⟩) (fun hHeld=> ?_);clear hK K;try simp only[PL]
      refine r1 11 (fun K hK=> ?_)
      have z7:w.heap.size<=Eb:=by omega
      obtain⟨KJ,KK,KL,KM⟩:=(hE.here.2).c4;obtain⟨KN,KO,KP,KQ⟩:=hE.here.2.f4;replace hE:=((((((((((((((Env.again (ck hE.av z7 (.bool sj) (.slice Aj nj cj) (.bool tj) (.slice Bj mj dj))).af ((hE.h12).ai (by omega) _ _ _ _)).kept ((hE.h11).bL (by first|exact .inr rfl|exact .inl (by omega)) _ _ _ _)).fv ((hE.h10).aq hE.here.2 rfl _ _ _ _ rfl rfl rfl)).af ((hE.h9).ai (by omega) _ _ _ _)).fv ((hE.h8).aq hE.here.2 rfl _ _ _ _ rfl rfl rfl)).af ((hE.h7).ai (by omega) _ _ _ _)).af ((hE.h6).ai (by omega) _ _ _ _)).fe ((hE.h5).ai (hE.here.2) (by decide) _ _ _ _)).bu ((hE.h4).aq (hE.here.2) rfl _ _ _ _ rfl rfl rfl)).fv ((hE.h3).aq hE.here.2 rfl _ _ _ _ rfl rfl rfl)).af ((hE.h2).ai (by omega) _ _ _ _)).fv ((hE.here.1.2).aq hE.here.2 rfl _ _ _ _ rfl rfl rfl)).af ((hE.here.2).s4 _ _ _ _));go_simp;clear KJ KK KL KM KN KO KP KQ z7;generalize ((((W37.setCell ⟨Eb,0,none⟩ (.bool sj)).setCell ⟨Eb,1,none⟩ (.slice Aj nj cj)).setCell ⟨Eb,2,none⟩ (.bool tj)).setCell ⟨Eb,3,none⟩ (.slice Bj mj dj))=W38 at hE⊢;refine hK.out _ _ (⟨(hE.h12).bF.1,(hE.h12).bF.2.1,(hE.h12).bF.2.2.1,(hE.h12).bF.2.2.2.1,(hE.h12).bF.2.2.2.2.1,(hE.h12).bF.2.2.2.2.2.1,(hE.h12).bF.2.2.2.2.2.2.1,(hE.h12).bF.2.2.2.2.2.2.2.1,(hE.h12).bF.2.2.2.2.2.2.2.2.1,(hE.h12).bF.2.2.2.2.2.2.2.2.2,(hE.h6).c2.1,(hE.h6).c2.2⟩) (fun hHeld=> ?_);clear hK K;try simp only[PL]
      refine tk 12 ?_;refine wpAnyH_done (by kernel_rfl) ?_ _;go_wp2_with fail
      go_meet
      exact⟨Eb,sj,Aj,nj,cj,tj,Bj,mj,dj,rfl,rfl,by omega,((((((((((((((Env.again hE.av).af (hE.h12)).kept (hE.h11)).fv (hE.h10)).af (hE.h9)).fv (hE.h8)).af (hE.h7)).af (hE.h6)).fe (hE.h5)).bu (hE.h4)).fv (hE.h3)).af (hE.h2)).fv (hE.here.1.2)).af (hE.here.2))⟩
     ·
      go_simp
      obtain⟨Ec,xu⟩:∃Ec,Ec=wd.heap.size:=⟨_,rfl⟩
      have ai9:Bp<Ec:=by rw[xu];exact(hE.h10).lt
      have apq:u.heap.size<=Ec:=by rw[xu];exact(hE.h9).size
      have aja:g12<Ec:=by rw[xu];exact(hE.h7).lt
      have ajb:g14<Ec:=by rw[xu];exact(hE.h5).lt
      have ajc:gx<Ec:=by rw[xu];exact(hE.h4).lt
      have ahP:nM<Ec:=by rw[xu];exact(hE.here.2).lt
      replace hE:=hE.blk 29 aY (g:=Ec) xu.symm;generalize wd.alloc (.cells aY 29)=W39 at hE⊢;rw[<-xu];clear xu;refine hK.out _ _ (⟨(hE.h11).bF.1,(hE.h11).bF.2.1,(hE.h11).bF.2.2.1,(hE.h11).bF.2.2.2.1,(hE.h11).bF.2.2.2.2.1,(hE.h11).bF.2.2.2.2.2.1,(hE.h11).bF.2.2.2.2.2.2.1,(hE.h11).bF.2.2.2.2.2.2.2.1,(hE.h11).bF.2.2.2.2.2.2.2.2.1,(hE.h11).bF.2.2.2.2.2.2.2.2.2,(hE.h5).c2.1,(hE.h5).c2.2⟩) (fun hHeld=> ?_);clear hK K;try simp only[PL]
      refine r1 6 (fun K hK=> ?_);go_simp;have hc:=oW (c:=c) (zK.out.below hE.av) QE.out XO.out;rw[Hfk.out] at hc;refine hE.fr (hc) ?_;clear hE;intro sj Aj nj cj tj Bj mj dj w40 hE;clear hc;go_wp2_with fail
      refine hK.out _ _ (⟨(hE.h12).bF.1,(hE.h12).bF.2.1,(hE.h12).bF.2.2.1,(hE.h12).bF.2.2.2.1,(hE.h12).bF.2.2.2.2.1,(hE.h12).bF.2.2.2.2.2.1,(hE.h12).bF.2.2.2.2.2.2.1,(hE.h12).bF.2.2.2.2.2.2.2.1,(hE.h12).bF.2.2.2.2.2.2.2.2.1,(hE.h12).bF.2.2.2.2.2.2.2.2.2,(hE.h6).c2.1,(hE.h6).c2.2⟩) (fun hHeld=> ?_);clear hK K;try simp only[PL]
      refine tk 7 ?_;refine tk 8 ?_;refine tk 9 ?_;refine r1 11 (fun K hK=> ?_)
      have VO:w.heap.size<=Ec:=by omega
      obtain⟨acP,acQ,acR,acS⟩:=(hE.here.1.2).c4;obtain⟨acT,acU,acV,acW⟩:=hE.here.1.2.f4;replace hE:=((((((((((((((Env.again (ck hE.av VO (.bool sj) (.slice Aj nj cj) (.bool tj) (.slice Bj mj dj))).af ((hE.h12).ai (by omega) _ _ _ _)).kept ((hE.h11).bL (by first|exact .inr rfl|exact .inl (by omega)) _ _ _ _)).fv ((hE.h10).aq hE.here.1.2 rfl _ _ _ _ rfl rfl rfl)).af ((hE.h9).ai (by omega) _ _ _ _)).fv ((hE.h8).aq hE.here.1.2 rfl _ _ _ _ rfl rfl rfl)).af ((hE.h7).ai (by omega) _ _ _ _)).af ((hE.h6).ai (by omega) _ _ _ _)).fe ((hE.h5).ai (hE.here.1.2) (by decide) _ _ _ _)).bu ((hE.h4).aq (hE.here.1.2) rfl _ _ _ _ rfl rfl rfl)).fv ((hE.h3).aq hE.here.1.2 rfl _ _ _ _ rfl rfl rfl)).af ((hE.h2).ai (by omega) _ _ _ _)).af ((hE.here.1.2).s4 _ _ _ _)).fv ((hE.here.2).aq hE.here.1.2 rfl _ _ _ _ rfl rfl rfl));go_simp;clear acP acQ acR acS acT acU acV acW VO;generalize ((((w40.setCell ⟨Ec,0,none⟩ (.bool sj)).setCell ⟨Ec,1,none⟩ (.slice Aj nj cj)).setCell ⟨Ec,2,none⟩ (.bool tj)).setCell ⟨Ec,3,none⟩ (.slice Bj mj dj))=W41 at hE⊢;refine hK.out _ _ (⟨(hE.h12).bF.1,(hE.h12).bF.2.1,(hE.h12).bF.2.2.1,(hE.h12).bF.2.2.2.1,(hE.h12).bF.2.2.2.2.1,(hE.h12).bF.2.2.2.2.2.1,(hE.h12).bF.2.2.2.2.2.2.1,(hE.h12).bF.2.2.2.2.2.2.2.1,(hE.h12).bF.2.2.2.2.2.2.2.2.1,(hE.h12).bF.2.2.2.2.2.2.2.2.2,(hE.h6).c2.1,(hE.h6).c2.2⟩) (fun hHeld=> ?_);clear hK K;try simp only[PL]
      refine tk 12 ?_;refine wpAnyH_done (by kernel_rfl) ?_ _;go_wp2_with fail
      go_meet
      exact⟨Ec,sj,Aj,nj,cj,tj,Bj,mj,dj,rfl,rfl,by omega,((((((((((((((Env.again hE.av).af (hE.h12)).kept (hE.h11)).fv (hE.h10)).af (hE.h9)).fv (hE.h8)).af (hE.h7)).af (hE.h6)).fe (hE.h5)).bu (hE.h4)).fv (hE.h3)).af (hE.h2)).fv (hE.here.2)).af (hE.here.1.2))⟩
    case rest=>
    clear hE;obtain⟨G6,sj,Aj,nj,cj,tj,Bj,mj,dj,rfl,rfl,hG6,hE⟩:=hcut;generalize wc=wk6 at hE⊢
    go_upto_region 7 with(fail)
    obtain⟨VP,ID,KR,xw⟩:=(hE.here.2).c4
    have VQ:w.heap.size<=nM:=by omega
    obtain⟨acX,acY,acZ,ac0⟩:=(hE.h2).c4;obtain⟨ac1,ac2,ac3,ac4⟩:=hE.h2.f4;replace hE:=((((((((((((((Env.again (ck hE.av VQ (.bool sj) (.slice Aj nj cj) (.bool tj) (.slice Bj mj dj))).af ((hE.h12).ai (by omega) _ _ _ _)).kept ((hE.h11).bL (by first|exact .inr rfl|exact .inl (by omega)) _ _ _ _)).fv ((hE.h10).aq hE.h2 rfl _ _ _ _ rfl rfl rfl)).af ((hE.h9).ai (by omega) _ _ _ _)).fv ((hE.h8).aq hE.h2 rfl _ _ _ _ rfl rfl rfl)).af ((hE.h7).ai (by omega) _ _ _ _)).af ((hE.h6).ai (by omega) _ _ _ _)).fe ((hE.h5).ai (hE.h2) (by decide) _ _ _ _)).bu ((hE.h4).aq (hE.h2) rfl _ _ _ _ rfl rfl rfl)).fv ((hE.h3).aq hE.h2 rfl _ _ _ _ rfl rfl rfl)).af ((hE.h2).s4 _ _ _ _)).fv ((hE.here.1.2).aq hE.h2 rfl _ _ _ _ rfl rfl rfl)).af ((hE.here.2).ai (by omega) _ _ _ _))
    go_upto_region 9 with(fail)
    clear acX acY acZ ac0 ac1 ac2 ac3 ac4 VQ;generalize ((((wk6.setCell ⟨nM,0,none⟩ (.bool sj)).setCell ⟨nM,1,none⟩ (.slice Aj nj cj)).setCell ⟨nM,2,none⟩ (.bool tj)).setCell ⟨nM,3,none⟩ (.slice Bj mj dj))=W46 at hE⊢;clear VP ID KR xw;obtain⟨KT,KU,Km,Ko⟩:=(hE.h9).c4;obtain⟨KV,QF,k53,k54⟩:=(hE.h7).c4;go_wp2_with fail
    refine hE.fr (oX (ca:=cv) (da:=dv) (cb:=cz) (db:=dz) hE.h10 hE.h8 Rh.out (Re.out k hk) (IB.out k hk)) ?_;clear hE KT KU Km Ko KV QF k53 k54;intro sx Ax nx cx tx Bx mx dx w55 hE
    go_upto_region 10 with(fail)
    obtain⟨Ed,uT⟩:∃Ed,Ed=w55.heap.size:=⟨_,rfl⟩
    have ajd:Bp<Ed:=by rw[uT];exact(hE.bZ).lt
    have apr:u.heap.size<=Ed:=by rw[uT];exact(hE.h12).size
    have aje:g12<Ed:=by rw[uT];exact(hE.h10).lt
    have ajf:g14<Ed:=by rw[uT];exact(hE.h8).lt
    have ajg:gx<Ed:=by rw[uT];exact(hE.h7).lt
    have ahQ:nM<Ed:=by rw[uT];exact(hE.h3).lt
    have ahR:G6<Ed:=by rw[uT];exact(hE.here.1.2).lt
    replace hE:=hE.blk 29 (az sx Ax nx cx tx Bx mx dx) (g:=Ed) uT.symm;generalize w55.alloc (.cells (az sx Ax nx cx tx Bx mx dx) 29)=W56 at hE⊢;rw[<-uT];clear uT;obtain⟨k57,k58,k59,k60⟩:=(hE.here.2).c4;obtain⟨k61,k62,k63,k64⟩:=(hE.h4).c4;go_wp2_with fail
    refine hE.fr (oX (ca:=cx) (da:=dx) (cb:=cj) (db:=dj) hE.here.1.2 hE.h3 (IB.out k hk) (Rg.out k Rj) (Rf.out k Rj)) ?_;clear hE k57 k58 k59 k60 k61 k62 k63 k64;intro sy Ay ny cy ty By my dy w65 hE
    go_upto_region 11 with(fail)
    obtain⟨vI,tF⟩:∃vI,vI=w65.heap.size:=⟨_,rfl⟩
    have ajh:Bp<vI:=by rw[tF];exact(hE.e8.1.1.1.1.1.1.1.2).lt
    have aps:u.heap.size<=vI:=by rw[tF];exact(hE.e8.1.1.1.1.1.1.2).size
    have aji:g12<vI:=by rw[tF];exact(hE.h12).lt
    have ajj:g14<vI:=by rw[tF];exact(hE.h10).lt
    have ajk:gx<vI:=by rw[tF];exact(hE.h9).lt
    have ahS:nM<vI:=by rw[tF];exact(hE.h5).lt
    have ahT:G6<vI:=by rw[tF];exact(hE.h3).lt
    have ahU:Ed<vI:=by rw[tF];exact(hE.here.1.2).lt
    replace hE:=hE.blk 29 (az sy Ay ny cy ty By my dy) (g:=vI) tF.symm;generalize w65.alloc (.cells (az sy Ay ny cy ty By my dy) 29)=W66 at hE⊢;rw[<-tF];clear tF
    go_cut [9] from 49 to 61 (fun p wx=>∃(gr cap:Nat) (hn:Nat->Nat->Q8),p= .pointer (some ⟨vI,0,none⟩)/\Env w (fun V=>(((((((((((((((((True/\ak 133 (Bp) #[.int .i64 F,.int .i64 S,.slice A n c,.bool si,.slice Ai ni ci,.bool ti,.slice Bi mi di,.int .i64 E,.int .i64 Y,.slice (some ⟨gr,0,none⟩) (k+1) cap] V)/\Kept u Bp V)/\FV V v sv Av nv tv Bv mv)/\ak 29 (g12) (az sv Av nv cv tv Bv mv dv) V)/\FV V (dd v f k) sz Az nz tz Bz mz)/\ak 29 (g14) (az sz Az nz cz tz Bz mz dz) V)/\ak 33 (gx) #[.int .i64 E,.int .i64 yr] V)/\eV u.heap.size (.slice (some ⟨gr,0,none⟩) (k+1) cap) (k+1) hn V)/\bH hn (k+1) (fun _ j=>j=0\/j=3) (bu v f N) V)/\FV V ((1:Int):Rat) sa Aa na ta Ba ma)/\ak 29 (nM) (az sj Aj nj cj tj Bj mj dj) V)/\FV V (f k) sj Aj nj tj Bj mj)/\ak 29 (G6) (az sj Aj nj cj tj Bj mj dj) V)/\FV V (v*dd v f k) sx Ax nx tx Bx mx)/\ak 29 (Ed) (az sx Ax nx cx tx Bx mx dx) V)/\FV V (v*dd v f k*f k) sy Ay ny ty By my)/\ak 29 (vI) (az sy Ay ny cy ty By my dy) V)) wx)
    case first=>
     replace hE:=hE.drew;refine wp_region_held_drew (S:=fun w'=>w'.cell? ⟨g14,0,none⟩=some (.bool sz)/\w'.cell? ⟨g14,1,none⟩=some (.slice Az nz cz)/\w'.cell? ⟨g14,2,none⟩=some (.bool tz)/\w'.cell? ⟨g14,3,none⟩=some (.slice Bz mz dz)/\w'.cell? ⟨vI,0,none⟩=some (.bool sy)/\w'.cell? ⟨vI,1,none⟩=some (.slice Ay ny cy)/\w'.cell? ⟨vI,2,none⟩=some (.bool ty)/\w'.cell? ⟨vI,3,none⟩=some (.slice By my dy)) (by kernel_rfl) (hE.h11.j4 hE.here.2.c4) (fun hHeld=> ?_)
     generalize W66.drew=wd at*
     refine tk 0 ?_;refine tk 1 ?_;refine tk 2 ?_;refine tk 3 ?_;refine tk 5 ?_;refine tk 6 ?_;refine tk 7 ?_;refine wpAnyH_ready (rs:=[4,8]) (by kernel_rfl) (by simp) (AllReadyH.cons rfl (fun K hK=> ?_) (AllReadyH.cons rfl (fun K hK=> ?_) (AllReadyH.nil)))
     ·
      obtain⟨k67,k68,k69,k70,k71,k72,k73,k74,k75,k76⟩:=(hE.au.2).bF;go_simp;clear k67 k68 k69 k70 k71 k72 k73 k74 k75 k76;refine hK.out _ _ (hE.h11.j4 hE.here.2.c4) (fun hHeld=> ?_);clear hK K;try simp only[PL]
      refine r1 8 (fun K hK=> ?_);go_simp
      obtain⟨IE,sC⟩:∃IE,IE=wd.heap.size:=⟨_,rfl⟩
      have ajl:Bp<IE:=by rw[sC];exact(hE.au.2).lt
      have apt:u.heap.size<=IE:=by rw[sC];exact(hE.e8.1.1.1.1.1.1.1.2).size
      have ajm:g12<IE:=by rw[sC];exact(hE.bZ).lt
      have ajn:g14<IE:=by rw[sC];exact(hE.h11).lt
      have ajo:gx<IE:=by rw[sC];exact(hE.h10).lt
      have ahV:nM<IE:=by rw[sC];exact(hE.h6).lt
      have ahW:G6<IE:=by rw[sC];exact(hE.h4).lt
      have ahX:Ed<IE:=by rw[sC];exact(hE.h2).lt
      have ahY:vI<IE:=by rw[sC];exact(hE.here.2).lt
      replace hE:=hE.blk 98 #[.bool sz,.slice Az nz cz,.bool tz,.slice Bz mz dz,.bool false,.slice none 0 0,.bool false,.slice none 0 0,.bool false,.slice none 0 0,.bool false,.slice none 0 0,.bool sy,.slice Ay ny cy,.bool ty,.slice By my dy,.bool false,.slice none 0 0,.bool false,.slice none 0 0,.bool false,.slice none 0 0,.bool false,.slice none 0 0] (g:=IE) sC.symm;generalize wd.alloc (.cells #[.bool sz,.slice Az nz cz,.bool tz,.slice Bz mz dz,.bool false,.slice none 0 0,.bool false,.slice none 0 0,.bool false,.slice none 0 0,.bool false,.slice none 0 0,.bool sy,.slice Ay ny cy,.bool ty,.slice By my dy,.bool false,.slice none 0 0,.bool false,.slice none 0 0,.bool false,.slice none 0 0,.bool false,.slice none 0 0] 98)=W77 at hE⊢;rw[<-sC];clear sC;refine hK.out _ _ (hE.h12.j4 hE.here.1.2.c4) (fun hHeld=> ?_);clear hK K;try simp only[PL]
      refine r1 9 (fun K hK=> ?_);have dB:=hE.h10;have lN:=dB.IF;obtain⟨gr,cap,wa,hrun,cX,oP,dS⟩:=kN 43 dB (hE.au.2).size ⟨IE,0,none⟩ 1 (uU ⟨sz,Az,nz,cz,tz,Bz,mz,dz⟩ ⟨sy,Ay,ny,cy,ty,By,my,dy⟩) (xx (d:=⟨sz,Az,nz,cz,tz,Bz,mz,dz⟩) (c:=⟨sy,Ay,ny,cy,ty,By,my,dy⟩) (hE.here.2)) (by omega)
      have Ee:bH (fun k'=>if k'=k then uU ⟨sz,Az,nz,cz,tz,Bz,mz,dz⟩ ⟨sy,Ay,ny,cy,ty,By,my,dy⟩ else h k') (k+1) (fun _ j=>j=0\/j=3) (bu v f N) wa:=bH.snoc (hE.h9|>.to fun hf=>hf.aM dB dS) (fun j _ hj=>by
       rcases hj with rfl|rfl
       ·exact(hE.bZ).aM dB dS
       ·exact(hE.h2).aM dB dS) (fun _ _ _ _ hj=>hj)
      replace hE:=((((((((((((((((((Env.again (Go.Proofs.YtclbiihcbfnjmaaGreat.Below.aM hE.av dB dS KG (Nat.le_trans KG (hE.au.2).size))).af ((hE.au.1.2).aM dB dS (by decide))).kept ((hE.au.2).aM dB dS)).fv ((hE.e8.1.1.1.1.1.1.1.2).aM dB dS)).af ((hE.e8.1.1.1.1.1.1.2).aM dB dS (by decide))).fv ((hE.bZ).aM dB dS)).af ((hE.h12).aM dB dS (by decide))).af ((hE.h11).aM dB dS (by decide))).fe (.inr ⟨gr,cap,rfl,cX,oP⟩)).bu Ee).fv ((hE.h8).aM dB dS)).af ((hE.h7).aM dB dS (by decide))).fv ((hE.h6).aM dB dS)).af ((hE.h5).aM dB dS (by decide))).fv ((hE.h4).aM dB dS)).af ((hE.h3).aM dB dS (by decide))).fv ((hE.h2).aM dB dS)).af ((hE.here.1.2).aM dB dS (by decide)));clear Ee oP;refine Eq.mpr (if_pos (by rfl)) ?_;refine lX (s:= .tmp 53) (x:= .tmp 57) rfl rfl rfl hrun ?_;clear hrun dB dS;refine hK.out _ _ (hE.h11.j4 hE.here.2.c4) (fun hHeld=> ?_);clear hK K;try simp only[PL]
      refine tk 10 ?_;refine tk 11 ?_;refine r1 12 (fun K hK=> ?_)
      have VU:w.heap.size<=Bp:=by omega
      obtain⟨ac5,ac6,ac7,ac8,ac9,ada,adb,ade,adf,adh⟩:=(hE.au.2).bF;have f78:=(hE.au.2).frozen 9;replace hE:=((((((((((((((((((Env.again (hE.av.setCell (p:=⟨Bp,9,none⟩) VU (.slice (some ⟨gr,0,none⟩) (k+1) cap))).af (show ak 133 Bp #[.int .i64 F,.int .i64 S,.slice A n c,.bool si,.slice Ai ni ci,.bool ti,.slice Bi mi di,.int .i64 E,.int .i64 Y,.slice (some ⟨gr,0,none⟩) (k+1) cap] _ by simpa using(hE.au.2).bW 9 (.slice (some ⟨gr,0,none⟩) (k+1) cap))).kept ((hE.e8.1.1.1.1.1.1.1.2).xy (by first|exact .inr rfl|exact .inl (by omega)) 9 (.slice (some ⟨gr,0,none⟩) (k+1) cap))).fv ((hE.e8.1.1.1.1.1.1.2).sep (i:=9) (hE.au.2) (by simpa [aJ] using lN) (.slice (some ⟨gr,0,none⟩) (k+1) cap))).af ((hE.bZ).far (p:=⟨Bp,9,none⟩) (by first|omega|(simp;omega)) (.slice (some ⟨gr,0,none⟩) (k+1) cap))).fv ((hE.h12).sep (i:=9) (hE.au.2) (by simpa [aJ] using lN) (.slice (some ⟨gr,0,none⟩) (k+1) cap))).af ((hE.h11).far (p:=⟨Bp,9,none⟩) (by first|omega|(simp;omega)) (.slice (some ⟨gr,0,none⟩) (k+1) cap))).af ((hE.h10).far (p:=⟨Bp,9,none⟩) (by first|omega|(simp;omega)) (.slice (some ⟨gr,0,none⟩) (k+1) cap))).fe ((hE.h9).far (hE.au.2) (by decide) 9 (.slice (some ⟨gr,0,none⟩) (k+1) cap))).bu ((hE.h8).IG (hE.au.2) (by simpa [aJ] using lN) 9 (.slice (some ⟨gr,0,none⟩) (k+1) cap))).fv ((hE.h7).sep (i:=9) (hE.au.2) (by simpa [aJ] using lN) (.slice (some ⟨gr,0,none⟩) (k+1) cap))).af ((hE.h6).far (p:=⟨Bp,9,none⟩) (by first|omega|(simp;omega)) (.slice (some ⟨gr,0,none⟩) (k+1) cap))).fv ((hE.h5).sep (i:=9) (hE.au.2) (by simpa [aJ] using lN) (.slice (some ⟨gr,0,none⟩) (k+1) cap))).af ((hE.h4).far (p:=⟨Bp,9,none⟩) (by first|omega|(simp;omega)) (.slice (some ⟨gr,0,none⟩) (k+1) cap))).fv ((hE.h3).sep (i:=9) (hE.au.2) (by simpa [aJ] using lN) (.slice (some ⟨gr,0,none⟩) (k+1) cap))).af ((hE.h2).far (p:=⟨Bp,9,none⟩) (by first|omega|(simp;omega)) (.slice (some ⟨gr,0,none⟩) (k+1) cap))).fv ((hE.here.1.2).sep (i:=9) (hE.au.2) (by simpa [aJ] using lN) (.slice (some ⟨gr,0,none⟩) (k+1) cap))).af ((hE.here.2).far (p:=⟨Bp,9,none⟩) (by first|omega|(simp;omega)) (.slice (some ⟨gr,0,none⟩) (k+1) cap)));go_simp;clear ac5 ac6 ac7 ac8 ac9 ada adb ade adf adh f78 VU;generalize wa.setCell ⟨Bp,9,none⟩ (.slice (some ⟨gr,0,none⟩) (k+1) cap)=W78 at hE⊢
      refine hK.out _ _ (hE.h11.j4 hE.here.2.c4) (fun hHeld=> ?_);clear hK K;try simp only[PL]
      refine wpAnyH_done (by kernel_rfl) ?_ _;go_wp2_with fail
      go_meet
      exact⟨_,_,_,rfl,((((((((((((((((((Env.again hE.av).af (hE.au.2)).kept (hE.e8.1.1.1.1.1.1.1.2)).fv (hE.e8.1.1.1.1.1.1.2)).af (hE.bZ)).fv (hE.h12)).af (hE.h11)).af (hE.h10)).fe (hE.h9)).bu (hE.h8)).fv (hE.h7)).af (hE.h6)).fv (hE.h5)).af (hE.h4)).fv (hE.h3)).af (hE.h2)).fv (hE.here.1.2)).af (hE.here.2))⟩
     ·
      go_simp
      obtain⟨II,sD⟩:∃II,II=wd.heap.size:=⟨_,rfl⟩
      have ajp:Bp<II:=by rw[sD];exact(hE.au.2).lt
      have apu:u.heap.size<=II:=by rw[sD];exact(hE.e8.1.1.1.1.1.1.1.2).size
      have ajq:g12<II:=by rw[sD];exact(hE.bZ).lt
      have ajr:g14<II:=by rw[sD];exact(hE.h11).lt
      have ajs:gx<II:=by rw[sD];exact(hE.h10).lt
      have ahZ:nM<II:=by rw[sD];exact(hE.h6).lt
      have ah0:G6<II:=by rw[sD];exact(hE.h4).lt
      have ah1:Ed<II:=by rw[sD];exact(hE.h2).lt
      have ah2:vI<II:=by rw[sD];exact(hE.here.2).lt
      replace hE:=hE.blk 98 #[.bool sz,.slice Az nz cz,.bool tz,.slice Bz mz dz,.bool false,.slice none 0 0,.bool false,.slice none 0 0,.bool false,.slice none 0 0,.bool false,.slice none 0 0,.bool sy,.slice Ay ny cy,.bool ty,.slice By my dy,.bool false,.slice none 0 0,.bool false,.slice none 0 0,.bool false,.slice none 0 0,.bool false,.slice none 0 0] (g:=II) sD.symm;generalize wd.alloc (.cells #[.bool sz,.slice Az nz cz,.bool tz,.slice Bz mz dz,.bool false,.slice none 0 0,.bool false,.slice none 0 0,.bool false,.slice none 0 0,.bool false,.slice none 0 0,.bool sy,.slice Ay ny cy,.bool ty,.slice By my dy,.bool false,.slice none 0 0,.bool false,.slice none 0 0,.bool false,.slice none 0 0,.bool false,.slice none 0 0] 98)=W79 at hE⊢;rw[<-sD];clear sD;refine hK.out _ _ (hE.h12.j4 hE.here.1.2.c4) (fun hHeld=> ?_);clear hK K;try simp only[PL]
      refine r1 4 (fun K hK=> ?_);obtain⟨k80,k81,k82,k83,k84,k85,k86,k87,k88,k89⟩:=(hE.au.1.2).bF;go_simp;clear k80 k81 k82 k83 k84 k85 k86 k87 k88 k89;refine hK.out _ _ (hE.h12.j4 hE.here.1.2.c4) (fun hHeld=> ?_);clear hK K;try simp only[PL]
      refine r1 9 (fun K hK=> ?_);have dB:=hE.h10;have lN:=dB.IF;obtain⟨gr,cap,wa,hrun,cX,oP,dS⟩:=kN 43 dB (hE.au.2).size ⟨II,0,none⟩ 1 (uU ⟨sz,Az,nz,cz,tz,Bz,mz,dz⟩ ⟨sy,Ay,ny,cy,ty,By,my,dy⟩) (xx (d:=⟨sz,Az,nz,cz,tz,Bz,mz,dz⟩) (c:=⟨sy,Ay,ny,cy,ty,By,my,dy⟩) (hE.here.2)) (by omega)
      have Ee:bH (fun k'=>if k'=k then uU ⟨sz,Az,nz,cz,tz,Bz,mz,dz⟩ ⟨sy,Ay,ny,cy,ty,By,my,dy⟩ else h k') (k+1) (fun _ j=>j=0\/j=3) (bu v f N) wa:=bH.snoc (hE.h9|>.to fun hf=>hf.aM dB dS) (fun j _ hj=>by
       rcases hj with rfl|rfl
       ·exact(hE.bZ).aM dB dS
       ·exact(hE.h2).aM dB dS) (fun _ _ _ _ hj=>hj)
      replace hE:=((((((((((((((((((Env.again (Go.Proofs.YtclbiihcbfnjmaaGreat.Below.aM hE.av dB dS KG (Nat.le_trans KG (hE.au.2).size))).af ((hE.au.1.2).aM dB dS (by decide))).kept ((hE.au.2).aM dB dS)).fv ((hE.e8.1.1.1.1.1.1.1.2).aM dB dS)).af ((hE.e8.1.1.1.1.1.1.2).aM dB dS (by decide))).fv ((hE.bZ).aM dB dS)).af ((hE.h12).aM dB dS (by decide))).af ((hE.h11).aM dB dS (by decide))).fe (.inr ⟨gr,cap,rfl,cX,oP⟩)).bu Ee).fv ((hE.h8).aM dB dS)).af ((hE.h7).aM dB dS (by decide))).fv ((hE.h6).aM dB dS)).af ((hE.h5).aM dB dS (by decide))).fv ((hE.h4).aM dB dS)).af ((hE.h3).aM dB dS (by decide))).fv ((hE.h2).aM dB dS)).af ((hE.here.1.2).aM dB dS (by decide)));clear Ee oP;refine Eq.mpr (if_pos (by rfl)) ?_;refine lX (s:= .tmp 53) (x:= .tmp 57) rfl rfl rfl hrun ?_;clear hrun dB dS;refine hK.out _ _ (hE.h11.j4 hE.here.2.c4) (fun hHeld=> ?_);clear hK K;try simp only[PL]
      refine tk 10 ?_;refine tk 11 ?_;refine r1 12 (fun K hK=> ?_)
      have VV:w.heap.size<=Bp:=by omega
      obtain⟨adi,adj,adk,adl,adn,ado,adp,adq,adr,ads⟩:=(hE.au.2).bF;have f90:=(hE.au.2).frozen 9;replace hE:=((((((((((((((((((Env.again (hE.av.setCell (p:=⟨Bp,9,none⟩) VV (.slice (some ⟨gr,0,none⟩) (k+1) cap))).af (show ak 133 Bp #[.int .i64 F,.int .i64 S,.slice A n c,.bool si,.slice Ai ni ci,.bool ti,.slice Bi mi di,.int .i64 E,.int .i64 Y,.slice (some ⟨gr,0,none⟩) (k+1) cap] _ by simpa using(hE.au.2).bW 9 (.slice (some ⟨gr,0,none⟩) (k+1) cap))).kept ((hE.e8.1.1.1.1.1.1.1.2).xy (by first|exact .inr rfl|exact .inl (by omega)) 9 (.slice (some ⟨gr,0,none⟩) (k+1) cap))).fv ((hE.e8.1.1.1.1.1.1.2).sep (i:=9) (hE.au.2) (by simpa [aJ] using lN) (.slice (some ⟨gr,0,none⟩) (k+1) cap))).af ((hE.bZ).far (p:=⟨Bp,9,none⟩) (by first|omega|(simp;omega)) (.slice (some ⟨gr,0,none⟩) (k+1) cap))).fv ((hE.h12).sep (i:=9) (hE.au.2) (by simpa [aJ] using lN) (.slice (some ⟨gr,0,none⟩) (k+1) cap))).af ((hE.h11).far (p:=⟨Bp,9,none⟩) (by first|omega|(simp;omega)) (.slice (some ⟨gr,0,none⟩) (k+1) cap))).af ((hE.h10).far (p:=⟨Bp,9,none⟩) (by first|omega|(simp;omega)) (.slice (some ⟨gr,0,none⟩) (k+1) cap))).fe ((hE.h9).far (hE.au.2) (by decide) 9 (.slice (some ⟨gr,0,none⟩) (k+1) cap))).bu ((hE.h8).IG (hE.au.2) (by simpa [aJ] using lN) 9 (.slice (some ⟨gr,0,none⟩) (k+1) cap))).fv ((hE.h7).sep (i:=9) (hE.au.2) (by simpa [aJ] using lN) (.slice (some ⟨gr,0,none⟩) (k+1) cap))).af ((hE.h6).far (p:=⟨Bp,9,none⟩) (by first|omega|(simp;omega)) (.slice (some ⟨gr,0,none⟩) (k+1) cap))).fv ((hE.h5).sep (i:=9) (hE.au.2) (by simpa [aJ] using lN) (.slice (some ⟨gr,0,none⟩) (k+1) cap))).af ((hE.h4).far (p:=⟨Bp,9,none⟩) (by first|omega|(simp;omega)) (.slice (some ⟨gr,0,none⟩) (k+1) cap))).fv ((hE.h3).sep (i:=9) (hE.au.2) (by simpa [aJ] using lN) (.slice (some ⟨gr,0,none⟩) (k+1) cap))).af ((hE.h2).far (p:=⟨Bp,9,none⟩) (by first|omega|(simp;omega)) (.slice (some ⟨gr,0,none⟩) (k+1) cap))).fv ((hE.here.1.2).sep (i:=9) (hE.au.2) (by simpa [aJ] using lN) (.slice (some ⟨gr,0,none⟩) (k+1) cap))).af ((hE.here.2).far (p:=⟨Bp,9,none⟩) (by first|omega|(simp;omega)) (.slice (some ⟨gr,0,none⟩) (k+1) cap)));go_simp;clear adi adj adk adl adn ado adp adq adr ads f90 VV;generalize wa.setCell ⟨Bp,9,none⟩ (.slice (some ⟨gr,0,none⟩) (k+1) cap)=W90 at hE⊢
      refine hK.out _ _ (hE.h11.j4 hE.here.2.c4) (fun hHeld=> ?_);clear hK K;try simp only[PL]
      refine wpAnyH_done (by kernel_rfl) ?_ _;go_wp2_with fail
      go_meet
      exact⟨_,_,_,rfl,((((((((((((((((((Env.again hE.av).af (hE.au.2)).kept (hE.e8.1.1.1.1.1.1.1.2)).fv (hE.e8.1.1.1.1.1.1.2)).af (hE.bZ)).fv (hE.h12)).af (hE.h11)).af (hE.h10)).fe (hE.h9)).bu (hE.h8)).fv (hE.h7)).af (hE.h6)).fv (hE.h5)).af (hE.h4)).fv (hE.h3)).af (hE.h2)).fv (hE.here.1.2)).af (hE.here.2))⟩
    case rest=>
    clear hE;obtain⟨gr,cap,hn,rfl,hE⟩:=hcut;generalize wc=adt at hE⊢
    go_upto_region 12 with(fail)
    obtain⟨k91,k92,k93,k94⟩:=(hE.h2).c4;obtain⟨k95,k96,k97,k98⟩:=(hE.here.2).c4;go_wp2_with fail
    refine hE.fr (z8 (ca:=cx) (da:=dx) (cb:=cy) (db:=dy) hE.h3 hE.here.1.2 (IB.out k hk) (Rf.out k Rj) (Re.out (k+1) Rj)) ?_;clear hE k91 k92 k93 k94 k95 k96 k97 k98;intro sh Ah nh ch th Bh mh dh w99 hE
    have KW:w.heap.size<=g14:=by omega
    obtain⟨XP,XQ,XR,XS⟩:=(hE.h12).c4;obtain⟨XT,XU,XV,XW⟩:=hE.h12.f4;replace hE:=(((((((((((((((((((Env.again (ck hE.av KW (.bool sh) (.slice Ah nh ch) (.bool th) (.slice Bh mh dh))).af ((hE.au.1.2).ai (by omega) _ _ _ _)).kept ((hE.au.2).bL (by first|exact .inr rfl|exact .inl (by omega)) _ _ _ _)).fv ((hE.e8.1.1.1.1.1.1.1.2).aq hE.h12 rfl _ _ _ _ rfl rfl rfl)).af ((hE.e8.1.1.1.1.1.1.2).ai (by omega) _ _ _ _)).fv ((hE.bZ).aq hE.h12 rfl _ _ _ _ rfl rfl rfl)).af ((hE.h12).s4 _ _ _ _)).af ((hE.h11).ai (by omega) _ _ _ _)).fe ((hE.h10).ai (hE.h12) (by decide) _ _ _ _)).bu ((hE.h9).aq (hE.h12) rfl _ _ _ _ rfl rfl rfl)).fv ((hE.h8).aq hE.h12 rfl _ _ _ _ rfl rfl rfl)).af ((hE.h7).ai (by omega) _ _ _ _)).fv ((hE.h6).aq hE.h12 rfl _ _ _ _ rfl rfl rfl)).af ((hE.h5).ai (by omega) _ _ _ _)).fv ((hE.h4).aq hE.h12 rfl _ _ _ _ rfl rfl rfl)).af ((hE.h3).ai (by omega) _ _ _ _)).fv ((hE.h2).aq hE.h12 rfl _ _ _ _ rfl rfl rfl)).af ((hE.here.1.2).ai (by omega) _ _ _ _)).fv ((hE.here.2).aq hE.h12 rfl _ _ _ _ rfl rfl rfl))
    go_upto_region 13 with(fail)
    clear XP XQ XR XS XT XU XV XW KW;generalize ((((w99.setCell ⟨g14,0,none⟩ (.bool sh)).setCell ⟨g14,1,none⟩ (.slice Ah nh ch)).setCell ⟨g14,2,none⟩ (.bool th)).setCell ⟨g14,3,none⟩ (.slice Bh mh dh))=adu at hE⊢;obtain⟨ajt,aju⟩:=(hE.h11).c2
    go_upto_region 4 with(fail)
    clear ajt aju
    obtain⟨iN,lD⟩:∃iN,iN=adu.heap.size:=⟨_,rfl⟩
    have ah3:Bp<iN:=by rw[lD];exact(hE.au.1.2).lt
    have aox:u.heap.size<=iN:=by rw[lD];exact(hE.au.2).size
    have ah4:g12<iN:=by rw[lD];exact(hE.e8.1.1.1.1.1.1.2).lt
    have ah5:g14<iN:=by rw[lD];exact(hE.h12).lt
    have ah6:gx<iN:=by rw[lD];exact(hE.h11).lt
    have adv:nM<iN:=by rw[lD];exact(hE.h7).lt
    have adw:G6<iN:=by rw[lD];exact(hE.h5).lt
    have adx:Ed<iN:=by rw[lD];exact(hE.h3).lt
    have ady:vI<iN:=by rw[lD];exact(hE.here.1.2).lt
    replace hE:=hE.blk 33 #[.int .i64 E,.int .i64 yr] (g:=iN) lD.symm;generalize adu.alloc (.cells #[.int .i64 E,.int .i64 yr] 33)=ajv at hE⊢;rw[<-lD];clear lD;have o1:=FT D8.out Ri.out (by omega)
    have KX:w.heap.size<=iN:=by omega
    obtain⟨XX,XY⟩:=(hE.here.2).c2;have f104:=(hE.here.2).frozen 1;replace hE:=((((((((((((((((((((Env.again (hE.av.setCell (p:=⟨iN,1,none⟩) KX (.int .i64 (yr+1)))).af ((hE.au.1.1.2).far (p:=⟨iN,1,none⟩) (by first|omega|(simp;omega)) (.int .i64 (yr+1)))).kept ((hE.au.1.2).xy (by first|exact .inr rfl|exact .inl (by omega)) 1 (.int .i64 (yr+1)))).fv ((hE.au.2).sep (i:=1) (hE.here.2) rfl (.int .i64 (yr+1)))).af ((hE.e8.1.1.1.1.1.1.1.2).far (p:=⟨iN,1,none⟩) (by first|omega|(simp;omega)) (.int .i64 (yr+1)))).fv ((hE.e8.1.1.1.1.1.1.2).sep (i:=1) (hE.here.2) rfl (.int .i64 (yr+1)))).af ((hE.bZ).far (p:=⟨iN,1,none⟩) (by first|omega|(simp;omega)) (.int .i64 (yr+1)))).af ((hE.h12).far (p:=⟨iN,1,none⟩) (by first|omega|(simp;omega)) (.int .i64 (yr+1)))).fe ((hE.h11).far (hE.here.2) (by decide) 1 (.int .i64 (yr+1)))).bu ((hE.h10).IG (hE.here.2) rfl 1 (.int .i64 (yr+1)))).fv ((hE.h9).sep (i:=1) (hE.here.2) rfl (.int .i64 (yr+1)))).af ((hE.h8).far (p:=⟨iN,1,none⟩) (by first|omega|(simp;omega)) (.int .i64 (yr+1)))).fv ((hE.h7).sep (i:=1) (hE.here.2) rfl (.int .i64 (yr+1)))).af ((hE.h6).far (p:=⟨iN,1,none⟩) (by first|omega|(simp;omega)) (.int .i64 (yr+1)))).fv ((hE.h5).sep (i:=1) (hE.here.2) rfl (.int .i64 (yr+1)))).af ((hE.h4).far (p:=⟨iN,1,none⟩) (by first|omega|(simp;omega)) (.int .i64 (yr+1)))).fv ((hE.h3).sep (i:=1) (hE.here.2) rfl (.int .i64 (yr+1)))).af ((hE.h2).far (p:=⟨iN,1,none⟩) (by first|omega|(simp;omega)) (.int .i64 (yr+1)))).fv ((hE.here.1.2).sep (i:=1) (hE.here.2) rfl (.int .i64 (yr+1)))).af (show ak 33 iN #[.int .i64 E,.int .i64 (yr+1)] _ by simpa using(hE.here.2).bW 1 (.int .i64 (yr+1))));go_wp2_with fail
    clear XX XY f104 KX;generalize ajv.setCell ⟨iN,1,none⟩ (.int .i64 (yr+1))=apv at hE⊢;clear o1
    go_roundw
    case rel=>
     exact⟨k+1,iN,yr+1,_,_,_,_,_,_,_,_,_,_,by omega,by have:=Ri.out;omega,rfl,by omega,((((((((((Env.again hE.av).af (hE.au.1.1.2)).kept (hE.au.1.2)).fv (hE.au.2)).af (hE.e8.1.1.1.1.1.1.1.2)).fv (hE.here.1.2)).af (hE.bZ)).af (hE.here.2)).fe (hE.h11)).bu (hE.h10))⟩
    case measure=>
     rw[mR (hE.here.2),mR HX.out];have:=Ri.out;omega
   ·
    have XO:=Lib.hid (IJ (F:=F) (S:=S) (E:=E) (n:=n) (r:=r) XM);have Hfk:Hid (((1:Int):Rat)=f k):=Lib.hid (by rw[VL.out];exact Rk D8.out Ri.out XM)
    go_cut [6,7] from 30 to 40 (fun p0 p1 wx=>∃G6,p0= .pointer (some ⟨G6,0,none⟩)/\p1= .int .i64 2/\nM<G6/\Env w (fun V=>((((((((((((True/\ak 133 (Bp) #[.int .i64 F,.int .i64 S,.slice A n c,.bool si,.slice Ai ni ci,.bool ti,.slice Bi mi di,.int .i64 E,.int .i64 Y,cs0] V)/\Kept u Bp V)/\FV V v sv Av nv tv Bv mv)/\ak 29 (g12) (az sv Av nv cv tv Bv mv dv) V)/\FV V (dd v f k) sz Az nz tz Bz mz)/\ak 29 (g14) (az sz Az nz cz tz Bz mz dz) V)/\ak 33 (gx) #[.int .i64 E,.int .i64 yr] V)/\eV u.heap.size cs0 k h V)/\bH h k (fun _ j=>j=0\/j=3) (bu v f N) V)/\FV V ((1:Int):Rat) sa Aa na ta Ba ma)/\ak 29 (nM) (az sa Aa na ca ta Ba ma da) V)/\ak 29 (G6) aY V)) wx)
    case first=>
     replace hE:=hE.drew;refine wp_region_held_drew (S:=fun w'=>w'.cell? ⟨Bp,0,none⟩=some (.int .i64 F)/\w'.cell? ⟨Bp,1,none⟩=some (.int .i64 S)/\w'.cell? ⟨Bp,2,none⟩=some (.slice A n c)/\w'.cell? ⟨Bp,3,none⟩=some (.bool si)/\w'.cell? ⟨Bp,4,none⟩=some (.slice Ai ni ci)/\w'.cell? ⟨Bp,5,none⟩=some (.bool ti)/\w'.cell? ⟨Bp,6,none⟩=some (.slice Bi mi di)/\w'.cell? ⟨Bp,7,none⟩=some (.int .i64 E)/\w'.cell? ⟨Bp,8,none⟩=some (.int .i64 Y)/\w'.cell? ⟨Bp,9,none⟩=some (cs0)/\w'.cell? ⟨gx,0,none⟩=some (.int .i64 E)/\w'.cell? ⟨gx,1,none⟩=some (.int .i64 yr)) (by kernel_rfl) (⟨(hE.h10).bF.1,(hE.h10).bF.2.1,(hE.h10).bF.2.2.1,(hE.h10).bF.2.2.2.1,(hE.h10).bF.2.2.2.2.1,(hE.h10).bF.2.2.2.2.2.1,(hE.h10).bF.2.2.2.2.2.2.1,(hE.h10).bF.2.2.2.2.2.2.2.1,(hE.h10).bF.2.2.2.2.2.2.2.2.1,(hE.h10).bF.2.2.2.2.2.2.2.2.2,(hE.h4).c2.1,(hE.h4).c2.2⟩) (fun hHeld=> ?_)
     generalize W35.drew=wd at*
     refine tk 0 ?_;refine tk 1 ?_;refine tk 2 ?_;refine tk 3 ?_;refine tk 4 ?_;refine tk 5 ?_;refine wpAnyH_ready (rs:=[6,10]) (by kernel_rfl) (by simp) (AllReadyH.cons rfl (fun K hK=> ?_) (AllReadyH.cons rfl (fun K hK=> ?_) (AllReadyH.nil)))
     ·
      go_simp;refine hE.br (vJ (c:=c) (zK.out.below hE.av) QE.out XO.out) ?_;clear hE;intro adz hE;go_wp2_with fail
      refine hK.out _ _ (⟨(hE.h10).bF.1,(hE.h10).bF.2.1,(hE.h10).bF.2.2.1,(hE.h10).bF.2.2.2.1,(hE.h10).bF.2.2.2.2.1,(hE.h10).bF.2.2.2.2.2.1,(hE.h10).bF.2.2.2.2.2.2.1,(hE.h10).bF.2.2.2.2.2.2.2.1,(hE.h10).bF.2.2.2.2.2.2.2.2.1,(hE.h10).bF.2.2.2.2.2.2.2.2.2,(hE.h4).c2.1,(hE.h4).c2.2⟩) (fun hHeld=> ?_);clear hK K;try simp only[PL]
      refine tk 7 ?_;refine tk 8 ?_;refine tk 9 ?_;refine r1 10 (fun K hK=> ?_);go_simp
      obtain⟨oo,oY⟩:∃oo,oo=adz.heap.size:=⟨_,rfl⟩
      have ah7:Bp<oo:=by rw[oY];exact(hE.h10).lt
      have aoy:u.heap.size<=oo:=by rw[oY];exact(hE.h9).size
      have ah8:g12<oo:=by rw[oY];exact(hE.h7).lt
      have ah9:g14<oo:=by rw[oY];exact(hE.h5).lt
      have aia:gx<oo:=by rw[oY];exact(hE.h4).lt
      have adA:nM<oo:=by rw[oY];exact(hE.here.2).lt
      replace hE:=hE.blk 29 aY (g:=oo) oY.symm;generalize adz.alloc (.cells aY 29)=ajw at hE⊢;rw[<-oY];clear oY;refine hK.out _ _ (⟨(hE.h11).bF.1,(hE.h11).bF.2.1,(hE.h11).bF.2.2.1,(hE.h11).bF.2.2.2.1,(hE.h11).bF.2.2.2.2.1,(hE.h11).bF.2.2.2.2.2.1,(hE.h11).bF.2.2.2.2.2.2.1,(hE.h11).bF.2.2.2.2.2.2.2.1,(hE.h11).bF.2.2.2.2.2.2.2.2.1,(hE.h11).bF.2.2.2.2.2.2.2.2.2,(hE.h5).c2.1,(hE.h5).c2.2⟩) (fun hHeld=> ?_);clear hK K;try simp only[PL]
      refine r1 11 (fun K hK=> ?_)
      have KY:w.heap.size<=oo:=by omega
      obtain⟨XZ,Ya,Yb,Yc⟩:=(hE.here.2).c4;obtain⟨Yd,Ye,Yf,Yg⟩:=hE.here.2.f4;replace hE:=(((((((((((((Env.again (ck hE.av KY (.bool false) (.slice none 0 0) (.bool false) (.slice none 0 0))).af ((hE.h11).ai (by omega) _ _ _ _)).kept ((hE.h10).bL (by first|exact .inr rfl|exact .inl (by omega)) _ _ _ _)).fv ((hE.h9).aq hE.here.2 rfl _ _ _ _ rfl rfl rfl)).af ((hE.h8).ai (by omega) _ _ _ _)).fv ((hE.h7).aq hE.here.2 rfl _ _ _ _ rfl rfl rfl)).af ((hE.h6).ai (by omega) _ _ _ _)).af ((hE.h5).ai (by omega) _ _ _ _)).fe ((hE.h4).ai (hE.here.2) (by decide) _ _ _ _)).bu ((hE.h3).aq (hE.here.2) rfl _ _ _ _ rfl rfl rfl)).fv ((hE.h2).aq hE.here.2 rfl _ _ _ _ rfl rfl rfl)).af ((hE.here.1.2).ai (by omega) _ _ _ _)).af ((hE.here.2).s4 _ _ _ _));go_simp;clear XZ Ya Yb Yc Yd Ye Yf Yg KY;generalize ((((ajw.setCell ⟨oo,0,none⟩ (.bool false)).setCell ⟨oo,1,none⟩ (.slice none 0 0)).setCell ⟨oo,2,none⟩ (.bool false)).setCell ⟨oo,3,none⟩ (.slice none 0 0))=apw at hE⊢;refine hK.out _ _ (⟨(hE.h11).bF.1,(hE.h11).bF.2.1,(hE.h11).bF.2.2.1,(hE.h11).bF.2.2.2.1,(hE.h11).bF.2.2.2.2.1,(hE.h11).bF.2.2.2.2.2.1,(hE.h11).bF.2.2.2.2.2.2.1,(hE.h11).bF.2.2.2.2.2.2.2.1,(hE.h11).bF.2.2.2.2.2.2.2.2.1,(hE.h11).bF.2.2.2.2.2.2.2.2.2,(hE.h5).c2.1,(hE.h5).c2.2⟩) (fun hHeld=> ?_);clear hK K;try simp only[PL]
      refine tk 12 ?_;refine wpAnyH_done (by kernel_rfl) ?_ _;go_wp2_with fail
      go_meet
      exact⟨oo,rfl,rfl,by omega,(((((((((((((Env.again hE.av).af (hE.h11)).kept (hE.h10)).fv (hE.h9)).af (hE.h8)).fv (hE.h7)).af (hE.h6)).af (hE.h5)).fe (hE.h4)).bu (hE.h3)).fv (hE.h2)).af (hE.here.1.2)).af (hE.here.2))⟩
     ·
      go_simp
      obtain⟨oq,oZ⟩:∃oq,oq=wd.heap.size:=⟨_,rfl⟩
      have aib:Bp<oq:=by rw[oZ];exact(hE.h10).lt
      have aoz:u.heap.size<=oq:=by rw[oZ];exact(hE.h9).size
      have aic:g12<oq:=by rw[oZ];exact(hE.h7).lt
      have aid:g14<oq:=by rw[oZ];exact(hE.h5).lt
      have aie:gx<oq:=by rw[oZ];exact(hE.h4).lt
      have adB:nM<oq:=by rw[oZ];exact(hE.here.2).lt
      replace hE:=hE.blk 29 aY (g:=oq) oZ.symm;generalize wd.alloc (.cells aY 29)=apx at hE⊢;rw[<-oZ];clear oZ;refine hK.out _ _ (⟨(hE.h11).bF.1,(hE.h11).bF.2.1,(hE.h11).bF.2.2.1,(hE.h11).bF.2.2.2.1,(hE.h11).bF.2.2.2.2.1,(hE.h11).bF.2.2.2.2.2.1,(hE.h11).bF.2.2.2.2.2.2.1,(hE.h11).bF.2.2.2.2.2.2.2.1,(hE.h11).bF.2.2.2.2.2.2.2.2.1,(hE.h11).bF.2.2.2.2.2.2.2.2.2,(hE.h5).c2.1,(hE.h5).c2.2⟩) (fun hHeld=> ?_);clear hK K;try simp only[PL]
      refine r1 6 (fun K hK=> ?_);go_simp;refine hE.br (vJ (c:=c) (zK.out.below hE.av) QE.out XO.out) ?_;clear hE;intro ajx hE;go_wp2_with fail
      refine hK.out _ _ (⟨(hE.h11).bF.1,(hE.h11).bF.2.1,(hE.h11).bF.2.2.1,(hE.h11).bF.2.2.2.1,(hE.h11).bF.2.2.2.2.1,(hE.h11).bF.2.2.2.2.2.1,(hE.h11).bF.2.2.2.2.2.2.1,(hE.h11).bF.2.2.2.2.2.2.2.1,(hE.h11).bF.2.2.2.2.2.2.2.2.1,(hE.h11).bF.2.2.2.2.2.2.2.2.2,(hE.h5).c2.1,(hE.h5).c2.2⟩) (fun hHeld=> ?_);clear hK K;try simp only[PL]
      refine tk 7 ?_;refine tk 8 ?_;refine tk 9 ?_;refine r1 11 (fun K hK=> ?_)
      have KZ:w.heap.size<=oq:=by omega
      obtain⟨Yi,Yj,Yk,Yl⟩:=(hE.here.2).c4;obtain⟨Ym,Yn,Yo,Yp⟩:=hE.here.2.f4;replace hE:=(((((((((((((Env.again (ck hE.av KZ (.bool false) (.slice none 0 0) (.bool false) (.slice none 0 0))).af ((hE.h11).ai (by omega) _ _ _ _)).kept ((hE.h10).bL (by first|exact .inr rfl|exact .inl (by omega)) _ _ _ _)).fv ((hE.h9).aq hE.here.2 rfl _ _ _ _ rfl rfl rfl)).af ((hE.h8).ai (by omega) _ _ _ _)).fv ((hE.h7).aq hE.here.2 rfl _ _ _ _ rfl rfl rfl)).af ((hE.h6).ai (by omega) _ _ _ _)).af ((hE.h5).ai (by omega) _ _ _ _)).fe ((hE.h4).ai (hE.here.2) (by decide) _ _ _ _)).bu ((hE.h3).aq (hE.here.2) rfl _ _ _ _ rfl rfl rfl)).fv ((hE.h2).aq hE.here.2 rfl _ _ _ _ rfl rfl rfl)).af ((hE.here.1.2).ai (by omega) _ _ _ _)).af ((hE.here.2).s4 _ _ _ _));go_simp;clear Yi Yj Yk Yl Ym Yn Yo Yp KZ;generalize ((((ajx.setCell ⟨oq,0,none⟩ (.bool false)).setCell ⟨oq,1,none⟩ (.slice none 0 0)).setCell ⟨oq,2,none⟩ (.bool false)).setCell ⟨oq,3,none⟩ (.slice none 0 0))=apy at hE⊢;refine hK.out _ _ (⟨(hE.h11).bF.1,(hE.h11).bF.2.1,(hE.h11).bF.2.2.1,(hE.h11).bF.2.2.2.1,(hE.h11).bF.2.2.2.2.1,(hE.h11).bF.2.2.2.2.2.1,(hE.h11).bF.2.2.2.2.2.2.1,(hE.h11).bF.2.2.2.2.2.2.2.1,(hE.h11).bF.2.2.2.2.2.2.2.2.1,(hE.h11).bF.2.2.2.2.2.2.2.2.2,(hE.h5).c2.1,(hE.h5).c2.2⟩) (fun hHeld=> ?_);clear hK K;try simp only[PL]
      refine tk 12 ?_;refine wpAnyH_done (by kernel_rfl) ?_ _;go_wp2_with fail
      go_meet
      exact⟨oq,rfl,rfl,by omega,(((((((((((((Env.again hE.av).af (hE.h11)).kept (hE.h10)).fv (hE.h9)).af (hE.h8)).fv (hE.h7)).af (hE.h6)).af (hE.h5)).fe (hE.h4)).bu (hE.h3)).fv (hE.h2)).af (hE.here.1.2)).af (hE.here.2))⟩
    case rest=>
    clear hE;obtain⟨G6,rfl,rfl,hG6,hE⟩:=hcut;generalize wc=wk6 at hE⊢
    go_upto_region 7 with(fail)
    go_upto_region 9 with(fail)
    have oQ:=hE.h2;rw[Hfk.out] at oQ;replace hE:=hE.fv oQ;clear oQ;obtain⟨ajy,ajz,ajA,ajB⟩:=(hE.h9).c4;obtain⟨ajC,ajD,ajE,ajF⟩:=(hE.h7).c4;go_wp2_with fail
    refine hE.fr (oX (ca:=cv) (da:=dv) (cb:=cz) (db:=dz) hE.h10 hE.h8 Rh.out (Re.out k hk) (IB.out k hk)) ?_;clear hE ajy ajz ajA ajB ajC ajD ajE ajF;intro sx Ax nx cx tx Bx mx dx adC hE
    go_upto_region 10 with(fail)
    obtain⟨ot,nU⟩:∃ot,ot=adC.heap.size:=⟨_,rfl⟩
    have aif:Bp<ot:=by rw[nU];exact(hE.bZ).lt
    have aoA:u.heap.size<=ot:=by rw[nU];exact(hE.h12).size
    have aih:g12<ot:=by rw[nU];exact(hE.h10).lt
    have aii:g14<ot:=by rw[nU];exact(hE.h8).lt
    have aij:gx<ot:=by rw[nU];exact(hE.h7).lt
    have adD:nM<ot:=by rw[nU];exact(hE.h3).lt
    have adE:G6<ot:=by rw[nU];exact(hE.h2).lt
    replace hE:=hE.blk 29 (az sx Ax nx cx tx Bx mx dx) (g:=ot) nU.symm;generalize adC.alloc (.cells (az sx Ax nx cx tx Bx mx dx) 29)=apz at hE⊢;rw[<-nU];clear nU;obtain⟨ajG,ajH,ajI,ajJ⟩:=(hE.here.2).c4;obtain⟨ajK,ajL,ajM,ajN⟩:=(hE.h4).c4;go_wp2_with fail
    refine hE.fr (oX (ca:=cx) (da:=dx) (cb:=ca) (db:=da) hE.here.1.2 hE.h2 (IB.out k hk) (Rg.out k Rj) (Rf.out k Rj)) ?_;clear hE ajG ajH ajI ajJ ajK ajL ajM ajN;intro sy Ay ny cy ty By my dy adF hE
    go_upto_region 11 with(fail)
    obtain⟨jU,lY⟩:∃jU,jU=adF.heap.size:=⟨_,rfl⟩
    have aik:Bp<jU:=by rw[lY];exact(hE.e8.1.1.1.1.1.1.1.2).lt
    have aoB:u.heap.size<=jU:=by rw[lY];exact(hE.e8.1.1.1.1.1.1.2).size
    have ail:g12<jU:=by rw[lY];exact(hE.h12).lt
    have aim:g14<jU:=by rw[lY];exact(hE.h10).lt
    have ain:gx<jU:=by rw[lY];exact(hE.h9).lt
    have adG:nM<jU:=by rw[lY];exact(hE.h5).lt
    have adH:G6<jU:=by rw[lY];exact(hE.h4).lt
    have adI:ot<jU:=by rw[lY];exact(hE.here.1.2).lt
    replace hE:=hE.blk 29 (az sy Ay ny cy ty By my dy) (g:=jU) lY.symm;generalize adF.alloc (.cells (az sy Ay ny cy ty By my dy) 29)=ajO at hE⊢;rw[<-lY];clear lY
    go_cut [9] from 49 to 61 (fun p wx=>∃(gr cap:Nat) (hn:Nat->Nat->Q8),p= .pointer (some ⟨jU,0,none⟩)/\Env w (fun V=>(((((((((((((((((True/\ak 133 (Bp) #[.int .i64 F,.int .i64 S,.slice A n c,.bool si,.slice Ai ni ci,.bool ti,.slice Bi mi di,.int .i64 E,.int .i64 Y,.slice (some ⟨gr,0,none⟩) (k+1) cap] V)/\Kept u Bp V)/\FV V v sv Av nv tv Bv mv)/\ak 29 (g12) (az sv Av nv cv tv Bv mv dv) V)/\FV V (dd v f k) sz Az nz tz Bz mz)/\ak 29 (g14) (az sz Az nz cz tz Bz mz dz) V)/\ak 33 (gx) #[.int .i64 E,.int .i64 yr] V)/\eV u.heap.size (.slice (some ⟨gr,0,none⟩) (k+1) cap) (k+1) hn V)/\bH hn (k+1) (fun _ j=>j=0\/j=3) (bu v f N) V)/\FV V ((1:Int):Rat) sa Aa na ta Ba ma)/\ak 29 (nM) (az sa Aa na ca ta Ba ma da) V)/\ak 29 (G6) aY V)/\FV V (f k) sa Aa na ta Ba ma)/\FV V (v*dd v f k) sx Ax nx tx Bx mx)/\ak 29 (ot) (az sx Ax nx cx tx Bx mx dx) V)/\FV V (v*dd v f k*f k) sy Ay ny ty By my)/\ak 29 (jU) (az sy Ay ny cy ty By my dy) V)) wx)
    case first=>
     replace hE:=hE.drew;refine wp_region_held_drew (S:=fun w'=>w'.cell? ⟨g14,0,none⟩=some (.bool sz)/\w'.cell? ⟨g14,1,none⟩=some (.slice Az nz cz)/\w'.cell? ⟨g14,2,none⟩=some (.bool tz)/\w'.cell? ⟨g14,3,none⟩=some (.slice Bz mz dz)/\w'.cell? ⟨jU,0,none⟩=some (.bool sy)/\w'.cell? ⟨jU,1,none⟩=some (.slice Ay ny cy)/\w'.cell? ⟨jU,2,none⟩=some (.bool ty)/\w'.cell? ⟨jU,3,none⟩=some (.slice By my dy)) (by kernel_rfl) (hE.h11.j4 hE.here.2.c4) (fun hHeld=> ?_)
     generalize ajO.drew=wd at*
     refine tk 0 ?_;refine tk 1 ?_;refine tk 2 ?_;refine tk 3 ?_;refine tk 5 ?_;refine tk 6 ?_;refine tk 7 ?_;refine wpAnyH_ready (rs:=[4,8]) (by kernel_rfl) (by simp) (AllReadyH.cons rfl (fun K hK=> ?_) (AllReadyH.cons rfl (fun K hK=> ?_) (AllReadyH.nil)))
     ·
      obtain⟨ajP,ajQ,ajR,ajS,ajT,ajU,ajV,ajW,ajX,ajY⟩:=(hE.au.2).bF;go_simp;clear ajP ajQ ajR ajS ajT ajU ajV ajW ajX ajY;refine hK.out _ _ (hE.h11.j4 hE.here.2.c4) (fun hHeld=> ?_);clear hK K;try simp only[PL]
      refine r1 8 (fun K hK=> ?_);go_simp
      obtain⟨p7,lE⟩:∃p7,p7=wd.heap.size:=⟨_,rfl⟩
      have aio:Bp<p7:=by rw[lE];exact(hE.au.2).lt
      have aoC:u.heap.size<=p7:=by rw[lE];exact(hE.e8.1.1.1.1.1.1.1.2).size
      have aip:g12<p7:=by rw[lE];exact(hE.bZ).lt
      have aiq:g14<p7:=by rw[lE];exact(hE.h11).lt
      have air:gx<p7:=by rw[lE];exact(hE.h10).lt
      have adJ:nM<p7:=by rw[lE];exact(hE.h6).lt
      have adK:G6<p7:=by rw[lE];exact(hE.h5).lt
      have adL:ot<p7:=by rw[lE];exact(hE.h2).lt
      have adM:jU<p7:=by rw[lE];exact(hE.here.2).lt
      replace hE:=hE.blk 98 #[.bool sz,.slice Az nz cz,.bool tz,.slice Bz mz dz,.bool false,.slice none 0 0,.bool false,.slice none 0 0,.bool false,.slice none 0 0,.bool false,.slice none 0 0,.bool sy,.slice Ay ny cy,.bool ty,.slice By my dy,.bool false,.slice none 0 0,.bool false,.slice none 0 0,.bool false,.slice none 0 0,.bool false,.slice none 0 0] (g:=p7) lE.symm;generalize wd.alloc (.cells #[.bool sz,.slice Az nz cz,.bool tz,.slice Bz mz dz,.bool false,.slice none 0 0,.bool false,.slice none 0 0,.bool false,.slice none 0 0,.bool false,.slice none 0 0,.bool sy,.slice Ay ny cy,.bool ty,.slice By my dy,.bool false,.slice none 0 0,.bool false,.slice none 0 0,.bool false,.slice none 0 0,.bool false,.slice none 0 0] 98)=apA at hE⊢;rw[<-lE];clear lE;refine hK.out _ _ (hE.h12.j4 hE.here.1.2.c4) (fun hHeld=> ?_);clear hK K;try simp only[PL]
      refine r1 9 (fun K hK=> ?_);have dB:=hE.h10;have lN:=dB.IF;obtain⟨gr,cap,wa,hrun,cX,oP,dS⟩:=kN 43 dB (hE.au.2).size ⟨p7,0,none⟩ 1 (uU ⟨sz,Az,nz,cz,tz,Bz,mz,dz⟩ ⟨sy,Ay,ny,cy,ty,By,my,dy⟩) (xx (d:=⟨sz,Az,nz,cz,tz,Bz,mz,dz⟩) (c:=⟨sy,Ay,ny,cy,ty,By,my,dy⟩) (hE.here.2)) (by omega)
      have Ee:bH (fun k'=>if k'=k then uU ⟨sz,Az,nz,cz,tz,Bz,mz,dz⟩ ⟨sy,Ay,ny,cy,ty,By,my,dy⟩ else h k') (k+1) (fun _ j=>j=0\/j=3) (bu v f N) wa:=bH.snoc (hE.h9|>.to fun hf=>hf.aM dB dS) (fun j _ hj=>by
       rcases hj with rfl|rfl
       ·exact(hE.bZ).aM dB dS
       ·exact(hE.h2).aM dB dS) (fun _ _ _ _ hj=>hj)
      replace hE:=((((((((((((((((((Env.again (Go.Proofs.YtclbiihcbfnjmaaGreat.Below.aM hE.av dB dS KG (Nat.le_trans KG (hE.au.2).size))).af ((hE.au.1.2).aM dB dS (by decide))).kept ((hE.au.2).aM dB dS)).fv ((hE.e8.1.1.1.1.1.1.1.2).aM dB dS)).af ((hE.e8.1.1.1.1.1.1.2).aM dB dS (by decide))).fv ((hE.bZ).aM dB dS)).af ((hE.h12).aM dB dS (by decide))).af ((hE.h11).aM dB dS (by decide))).fe (.inr ⟨gr,cap,rfl,cX,oP⟩)).bu Ee).fv ((hE.h8).aM dB dS)).af ((hE.h7).aM dB dS (by decide))).af ((hE.h6).aM dB dS (by decide))).fv ((hE.h5).aM dB dS)).fv ((hE.h4).aM dB dS)).af ((hE.h3).aM dB dS (by decide))).fv ((hE.h2).aM dB dS)).af ((hE.here.1.2).aM dB dS (by decide)));clear Ee oP;refine Eq.mpr (if_pos (by rfl)) ?_;refine lX (s:= .tmp 53) (x:= .tmp 57) rfl rfl rfl hrun ?_;clear hrun dB dS;refine hK.out _ _ (hE.h11.j4 hE.here.2.c4) (fun hHeld=> ?_);clear hK K;try simp only[PL]
      refine tk 10 ?_;refine tk 11 ?_;refine r1 12 (fun K hK=> ?_)
      have K0:w.heap.size<=Bp:=by omega
      obtain⟨Yq,Yt,Yu,Yv,Yw,Yx,Yy,Yz,YA,YB⟩:=(hE.au.2).bF;have f142:=(hE.au.2).frozen 9;replace hE:=((((((((((((((((((Env.again (hE.av.setCell (p:=⟨Bp,9,none⟩) K0 (.slice (some ⟨gr,0,none⟩) (k+1) cap))).af (show ak 133 Bp #[.int .i64 F,.int .i64 S,.slice A n c,.bool si,.slice Ai ni ci,.bool ti,.slice Bi mi di,.int .i64 E,.int .i64 Y,.slice (some ⟨gr,0,none⟩) (k+1) cap] _ by simpa using(hE.au.2).bW 9 (.slice (some ⟨gr,0,none⟩) (k+1) cap))).kept ((hE.e8.1.1.1.1.1.1.1.2).xy (by first|exact .inr rfl|exact .inl (by omega)) 9 (.slice (some ⟨gr,0,none⟩) (k+1) cap))).fv ((hE.e8.1.1.1.1.1.1.2).sep (i:=9) (hE.au.2) (by simpa [aJ] using lN) (.slice (some ⟨gr,0,none⟩) (k+1) cap))).af ((hE.bZ).far (p:=⟨Bp,9,none⟩) (by first|omega|(simp;omega)) (.slice (some ⟨gr,0,none⟩) (k+1) cap))).fv ((hE.h12).sep (i:=9) (hE.au.2) (by simpa [aJ] using lN) (.slice (some ⟨gr,0,none⟩) (k+1) cap))).af ((hE.h11).far (p:=⟨Bp,9,none⟩) (by first|omega|(simp;omega)) (.slice (some ⟨gr,0,none⟩) (k+1) cap))).af ((hE.h10).far (p:=⟨Bp,9,none⟩) (by first|omega|(simp;omega)) (.slice (some ⟨gr,0,none⟩) (k+1) cap))).fe ((hE.h9).far (hE.au.2) (by decide) 9 (.slice (some ⟨gr,0,none⟩) (k+1) cap))).bu ((hE.h8).IG (hE.au.2) (by simpa [aJ] using lN) 9 (.slice (some ⟨gr,0,none⟩) (k+1) cap))).fv ((hE.h7).sep (i:=9) (hE.au.2) (by simpa [aJ] using lN) (.slice (some ⟨gr,0,none⟩) (k+1) cap))).af ((hE.h6).far (p:=⟨Bp,9,none⟩) (by first|omega|(simp;omega)) (.slice (some ⟨gr,0,none⟩) (k+1) cap))).af ((hE.h5).far (p:=⟨Bp,9,none⟩) (by first|omega|(simp;omega)) (.slice (some ⟨gr,0,none⟩) (k+1) cap))).fv ((hE.h4).sep (i:=9) (hE.au.2) (by simpa [aJ] using lN) (.slice (some ⟨gr,0,none⟩) (k+1) cap))).fv ((hE.h3).sep (i:=9) (hE.au.2) (by simpa [aJ] using lN) (.slice (some ⟨gr,0,none⟩) (k+1) cap))).af ((hE.h2).far (p:=⟨Bp,9,none⟩) (by first|omega|(simp;omega)) (.slice (some ⟨gr,0,none⟩) (k+1) cap))).fv ((hE.here.1.2).sep (i:=9) (hE.au.2) (by simpa [aJ] using lN) (.slice (some ⟨gr,0,none⟩) (k+1) cap))).af ((hE.here.2).far (p:=⟨Bp,9,none⟩) (by first|omega|(simp;omega)) (.slice (some ⟨gr,0,none⟩) (k+1) cap)));go_simp;clear Yq Yt Yu Yv Yw Yx Yy Yz YA YB f142 K0;generalize wa.setCell ⟨Bp,9,none⟩ (.slice (some ⟨gr,0,none⟩) (k+1) cap)=apB at hE⊢
      refine hK.out _ _ (hE.h11.j4 hE.here.2.c4) (fun hHeld=> ?_);clear hK K;try simp only[PL]
      refine wpAnyH_done (by kernel_rfl) ?_ _;go_wp2_with fail
      go_meet
      exact⟨_,_,_,rfl,((((((((((((((((((Env.again hE.av).af (hE.au.2)).kept (hE.e8.1.1.1.1.1.1.1.2)).fv (hE.e8.1.1.1.1.1.1.2)).af (hE.bZ)).fv (hE.h12)).af (hE.h11)).af (hE.h10)).fe (hE.h9)).bu (hE.h8)).fv (hE.h7)).af (hE.h6)).af (hE.h5)).fv (hE.h4)).fv (hE.h3)).af (hE.h2)).fv (hE.here.1.2)).af (hE.here.2))⟩
     ·
      go_simp
      obtain⟨p8,lF⟩:∃p8,p8=wd.heap.size:=⟨_,rfl⟩
      have ais:Bp<p8:=by rw[lF];exact(hE.au.2).lt
      have aoD:u.heap.size<=p8:=by rw[lF];exact(hE.e8.1.1.1.1.1.1.1.2).size
      have ait:g12<p8:=by rw[lF];exact(hE.bZ).lt
      have aiu:g14<p8:=by rw[lF];exact(hE.h11).lt
      have aiv:gx<p8:=by rw[lF];exact(hE.h10).lt
      have adN:nM<p8:=by rw[lF];exact(hE.h6).lt
      have adO:G6<p8:=by rw[lF];exact(hE.h5).lt
      have adP:ot<p8:=by rw[lF];exact(hE.h2).lt
      have adQ:jU<p8:=by rw[lF];exact(hE.here.2).lt
      replace hE:=hE.blk 98 #[.bool sz,.slice Az nz cz,.bool tz,.slice Bz mz dz,.bool false,.slice none 0 0,.bool false,.slice none 0 0,.bool false,.slice none 0 0,.bool false,.slice none 0 0,.bool sy,.slice Ay ny cy,.bool ty,.slice By my dy,.bool false,.slice none 0 0,.bool false,.slice none 0 0,.bool false,.slice none 0 0,.bool false,.slice none 0 0] (g:=p8) lF.symm;generalize wd.alloc (.cells #[.bool sz,.slice Az nz cz,.bool tz,.slice Bz mz dz,.bool false,.slice none 0 0,.bool false,.slice none 0 0,.bool false,.slice none 0 0,.bool false,.slice none 0 0,.bool sy,.slice Ay ny cy,.bool ty,.slice By my dy,.bool false,.slice none 0 0,.bool false,.slice none 0 0,.bool false,.slice none 0 0,.bool false,.slice none 0 0] 98)=apC at hE⊢;rw[<-lF];clear lF;refine hK.out _ _ (hE.h12.j4 hE.here.1.2.c4) (fun hHeld=> ?_);clear hK K;try simp only[PL]
      refine r1 4 (fun K hK=> ?_);obtain⟨ajZ,aj0,aj1,aj2,aj3,aj4,aj5,aj6,aj7,aj8⟩:=(hE.au.1.2).bF;go_simp;clear ajZ aj0 aj1 aj2 aj3 aj4 aj5 aj6 aj7 aj8;refine hK.out _ _ (hE.h12.j4 hE.here.1.2.c4) (fun hHeld=> ?_);clear hK K;try simp only[PL]
      refine r1 9 (fun K hK=> ?_);have dB:=hE.h10;have lN:=dB.IF;obtain⟨gr,cap,wa,hrun,cX,oP,dS⟩:=kN 43 dB (hE.au.2).size ⟨p8,0,none⟩ 1 (uU ⟨sz,Az,nz,cz,tz,Bz,mz,dz⟩ ⟨sy,Ay,ny,cy,ty,By,my,dy⟩) (xx (d:=⟨sz,Az,nz,cz,tz,Bz,mz,dz⟩) (c:=⟨sy,Ay,ny,cy,ty,By,my,dy⟩) (hE.here.2)) (by omega)
      have Ee:bH (fun k'=>if k'=k then uU ⟨sz,Az,nz,cz,tz,Bz,mz,dz⟩ ⟨sy,Ay,ny,cy,ty,By,my,dy⟩ else h k') (k+1) (fun _ j=>j=0\/j=3) (bu v f N) wa:=bH.snoc (hE.h9|>.to fun hf=>hf.aM dB dS) (fun j _ hj=>by
       rcases hj with rfl|rfl
       ·exact(hE.bZ).aM dB dS
       ·exact(hE.h2).aM dB dS) (fun _ _ _ _ hj=>hj)
      replace hE:=((((((((((((((((((Env.again (Go.Proofs.YtclbiihcbfnjmaaGreat.Below.aM hE.av dB dS KG (Nat.le_trans KG (hE.au.2).size))).af ((hE.au.1.2).aM dB dS (by decide))).kept ((hE.au.2).aM dB dS)).fv ((hE.e8.1.1.1.1.1.1.1.2).aM dB dS)).af ((hE.e8.1.1.1.1.1.1.2).aM dB dS (by decide))).fv ((hE.bZ).aM dB dS)).af ((hE.h12).aM dB dS (by decide))).af ((hE.h11).aM dB dS (by decide))).fe (.inr ⟨gr,cap,rfl,cX,oP⟩)).bu Ee).fv ((hE.h8).aM dB dS)).af ((hE.h7).aM dB dS (by decide))).af ((hE.h6).aM dB dS (by decide))).fv ((hE.h5).aM dB dS)).fv ((hE.h4).aM dB dS)).af ((hE.h3).aM dB dS (by decide))).fv ((hE.h2).aM dB dS)).af ((hE.here.1.2).aM dB dS (by decide)));clear Ee oP;refine Eq.mpr (if_pos (by rfl)) ?_;refine lX (s:= .tmp 53) (x:= .tmp 57) rfl rfl rfl hrun ?_;clear hrun dB dS;refine hK.out _ _ (hE.h11.j4 hE.here.2.c4) (fun hHeld=> ?_);clear hK K;try simp only[PL]
      refine tk 10 ?_;refine tk 11 ?_;refine r1 12 (fun K hK=> ?_)
      have La:w.heap.size<=Bp:=by omega
      obtain⟨YC,YD,YE,YF,YG,YH,YI,YJ,YK,YL⟩:=(hE.au.2).bF;have f154:=(hE.au.2).frozen 9;replace hE:=((((((((((((((((((Env.again (hE.av.setCell (p:=⟨Bp,9,none⟩) La (.slice (some ⟨gr,0,none⟩) (k+1) cap))).af (show ak 133 Bp #[.int .i64 F,.int .i64 S,.slice A n c,.bool si,.slice Ai ni ci,.bool ti,.slice Bi mi di,.int .i64 E,.int .i64 Y,.slice (some ⟨gr,0,none⟩) (k+1) cap] _ by simpa using(hE.au.2).bW 9 (.slice (some ⟨gr,0,none⟩) (k+1) cap))).kept ((hE.e8.1.1.1.1.1.1.1.2).xy (by first|exact .inr rfl|exact .inl (by omega)) 9 (.slice (some ⟨gr,0,none⟩) (k+1) cap))).fv ((hE.e8.1.1.1.1.1.1.2).sep (i:=9) (hE.au.2) (by simpa [aJ] using lN) (.slice (some ⟨gr,0,none⟩) (k+1) cap))).af ((hE.bZ).far (p:=⟨Bp,9,none⟩) (by first|omega|(simp;omega)) (.slice (some ⟨gr,0,none⟩) (k+1) cap))).fv ((hE.h12).sep (i:=9) (hE.au.2) (by simpa [aJ] using lN) (.slice (some ⟨gr,0,none⟩) (k+1) cap))).af ((hE.h11).far (p:=⟨Bp,9,none⟩) (by first|omega|(simp;omega)) (.slice (some ⟨gr,0,none⟩) (k+1) cap))).af ((hE.h10).far (p:=⟨Bp,9,none⟩) (by first|omega|(simp;omega)) (.slice (some ⟨gr,0,none⟩) (k+1) cap))).fe ((hE.h9).far (hE.au.2) (by decide) 9 (.slice (some ⟨gr,0,none⟩) (k+1) cap))).bu ((hE.h8).IG (hE.au.2) (by simpa [aJ] using lN) 9 (.slice (some ⟨gr,0,none⟩) (k+1) cap))).fv ((hE.h7).sep (i:=9) (hE.au.2) (by simpa [aJ] using lN) (.slice (some ⟨gr,0,none⟩) (k+1) cap))).af ((hE.h6).far (p:=⟨Bp,9,none⟩) (by first|omega|(simp;omega)) (.slice (some ⟨gr,0,none⟩) (k+1) cap))).af ((hE.h5).far (p:=⟨Bp,9,none⟩) (by first|omega|(simp;omega)) (.slice (some ⟨gr,0,none⟩) (k+1) cap))).fv ((hE.h4).sep (i:=9) (hE.au.2) (by simpa [aJ] using lN) (.slice (some ⟨gr,0,none⟩) (k+1) cap))).fv ((hE.h3).sep (i:=9) (hE.au.2) (by simpa [aJ] using lN) (.slice (some ⟨gr,0,none⟩) (k+1) cap))).af ((hE.h2).far (p:=⟨Bp,9,none⟩) (by first|omega|(simp;omega)) (.slice (some ⟨gr,0,none⟩) (k+1) cap))).fv ((hE.here.1.2).sep (i:=9) (hE.au.2) (by simpa [aJ] using lN) (.slice (some ⟨gr,0,none⟩) (k+1) cap))).af ((hE.here.2).far (p:=⟨Bp,9,none⟩) (by first|omega|(simp;omega)) (.slice (some ⟨gr,0,none⟩) (k+1) cap)));go_simp;clear YC YD YE YF YG YH YI YJ YK YL f154 La;generalize wa.setCell ⟨Bp,9,none⟩ (.slice (some ⟨gr,0,none⟩) (k+1) cap)=apD at hE⊢
      refine hK.out _ _ (hE.h11.j4 hE.here.2.c4) (fun hHeld=> ?_);clear hK K;try simp only[PL]
      refine wpAnyH_done (by kernel_rfl) ?_ _;go_wp2_with fail
      go_meet
      exact⟨_,_,_,rfl,((((((((((((((((((Env.again hE.av).af (hE.au.2)).kept (hE.e8.1.1.1.1.1.1.1.2)).fv (hE.e8.1.1.1.1.1.1.2)).af (hE.bZ)).fv (hE.h12)).af (hE.h11)).af (hE.h10)).fe (hE.h9)).bu (hE.h8)).fv (hE.h7)).af (hE.h6)).af (hE.h5)).fv (hE.h4)).fv (hE.h3)).af (hE.h2)).fv (hE.here.1.2)).af (hE.here.2))⟩
    case rest=>
    clear hE;obtain⟨gr,cap,hn,rfl,hE⟩:=hcut;generalize wc=adt at hE⊢
    go_upto_region 12 with(fail)
    obtain⟨aj9,aka,akb,akc⟩:=(hE.h2).c4;obtain⟨akd,ake,akf,akg⟩:=(hE.here.2).c4;go_wp2_with fail
    refine hE.fr (z8 (ca:=cx) (da:=dx) (cb:=cy) (db:=dy) hE.h3 hE.here.1.2 (IB.out k hk) (Rf.out k Rj) (Re.out (k+1) Rj)) ?_;clear hE aj9 aka akb akc akd ake akf akg;intro sh Ah nh ch th Bh mh dh akh hE
    have Lb:w.heap.size<=g14:=by omega
    obtain⟨YM,YN,YO,YP⟩:=(hE.h12).c4;obtain⟨YQ,YR,YT,YU⟩:=hE.h12.f4;replace hE:=(((((((((((((((((((Env.again (ck hE.av Lb (.bool sh) (.slice Ah nh ch) (.bool th) (.slice Bh mh dh))).af ((hE.au.1.2).ai (by omega) _ _ _ _)).kept ((hE.au.2).bL (by first|exact .inr rfl|exact .inl (by omega)) _ _ _ _)).fv ((hE.e8.1.1.1.1.1.1.1.2).aq hE.h12 rfl _ _ _ _ rfl rfl rfl)).af ((hE.e8.1.1.1.1.1.1.2).ai (by omega) _ _ _ _)).fv ((hE.bZ).aq hE.h12 rfl _ _ _ _ rfl rfl rfl)).af ((hE.h12).s4 _ _ _ _)).af ((hE.h11).ai (by omega) _ _ _ _)).fe ((hE.h10).ai (hE.h12) (by decide) _ _ _ _)).bu ((hE.h9).aq (hE.h12) rfl _ _ _ _ rfl rfl rfl)).fv ((hE.h8).aq hE.h12 rfl _ _ _ _ rfl rfl rfl)).af ((hE.h7).ai (by omega) _ _ _ _)).af ((hE.h6).ai (by omega) _ _ _ _)).fv ((hE.h5).aq hE.h12 rfl _ _ _ _ rfl rfl rfl)).fv ((hE.h4).aq hE.h12 rfl _ _ _ _ rfl rfl rfl)).af ((hE.h3).ai (by omega) _ _ _ _)).fv ((hE.h2).aq hE.h12 rfl _ _ _ _ rfl rfl rfl)).af ((hE.here.1.2).ai (by omega) _ _ _ _)).fv ((hE.here.2).aq hE.h12 rfl _ _ _ _ rfl rfl rfl))
    go_upto_region 13 with(fail)
    clear YM YN YO YP YQ YR YT YU Lb;generalize ((((akh.setCell ⟨g14,0,none⟩ (.bool sh)).setCell ⟨g14,1,none⟩ (.slice Ah nh ch)).setCell ⟨g14,2,none⟩ (.bool th)).setCell ⟨g14,3,none⟩ (.slice Bh mh dh))=adR at hE⊢;obtain⟨aki,akj⟩:=(hE.h11).c2
    go_upto_region 4 with(fail)
    clear aki akj
    obtain⟨iO,lG⟩:∃iO,iO=adR.heap.size:=⟨_,rfl⟩
    have aiw:Bp<iO:=by rw[lG];exact(hE.au.1.2).lt
    have aoE:u.heap.size<=iO:=by rw[lG];exact(hE.au.2).size
    have aix:g12<iO:=by rw[lG];exact(hE.e8.1.1.1.1.1.1.2).lt
    have aiy:g14<iO:=by rw[lG];exact(hE.h12).lt
    have aiz:gx<iO:=by rw[lG];exact(hE.h11).lt
    have adS:nM<iO:=by rw[lG];exact(hE.h7).lt
    have adT:G6<iO:=by rw[lG];exact(hE.h6).lt
    have adU:ot<iO:=by rw[lG];exact(hE.h3).lt
    have adV:jU<iO:=by rw[lG];exact(hE.here.1.2).lt
    replace hE:=hE.blk 33 #[.int .i64 E,.int .i64 yr] (g:=iO) lG.symm;generalize adR.alloc (.cells #[.int .i64 E,.int .i64 yr] 33)=akk at hE⊢;rw[<-lG];clear lG;have o1:=FT D8.out Ri.out (by omega)
    have Lc:w.heap.size<=iO:=by omega
    obtain⟨YV,YW⟩:=(hE.here.2).c2;have f168:=(hE.here.2).frozen 1;replace hE:=((((((((((((((((((((Env.again (hE.av.setCell (p:=⟨iO,1,none⟩) Lc (.int .i64 (yr+1)))).af ((hE.au.1.1.2).far (p:=⟨iO,1,none⟩) (by first|omega|(simp;omega)) (.int .i64 (yr+1)))).kept ((hE.au.1.2).xy (by first|exact .inr rfl|exact .inl (by omega)) 1 (.int .i64 (yr+1)))).fv ((hE.au.2).sep (i:=1) (hE.here.2) rfl (.int .i64 (yr+1)))).af ((hE.e8.1.1.1.1.1.1.1.2).far (p:=⟨iO,1,none⟩) (by first|omega|(simp;omega)) (.int .i64 (yr+1)))).fv ((hE.e8.1.1.1.1.1.1.2).sep (i:=1) (hE.here.2) rfl (.int .i64 (yr+1)))).af ((hE.bZ).far (p:=⟨iO,1,none⟩) (by first|omega|(simp;omega)) (.int .i64 (yr+1)))).af ((hE.h12).far (p:=⟨iO,1,none⟩) (by first|omega|(simp;omega)) (.int .i64 (yr+1)))).fe ((hE.h11).far (hE.here.2) (by decide) 1 (.int .i64 (yr+1)))).bu ((hE.h10).IG (hE.here.2) rfl 1 (.int .i64 (yr+1)))).fv ((hE.h9).sep (i:=1) (hE.here.2) rfl (.int .i64 (yr+1)))).af ((hE.h8).far (p:=⟨iO,1,none⟩) (by first|omega|(simp;omega)) (.int .i64 (yr+1)))).af ((hE.h7).far (p:=⟨iO,1,none⟩) (by first|omega|(simp;omega)) (.int .i64 (yr+1)))).fv ((hE.h6).sep (i:=1) (hE.here.2) rfl (.int .i64 (yr+1)))).fv ((hE.h5).sep (i:=1) (hE.here.2) rfl (.int .i64 (yr+1)))).af ((hE.h4).far (p:=⟨iO,1,none⟩) (by first|omega|(simp;omega)) (.int .i64 (yr+1)))).fv ((hE.h3).sep (i:=1) (hE.here.2) rfl (.int .i64 (yr+1)))).af ((hE.h2).far (p:=⟨iO,1,none⟩) (by first|omega|(simp;omega)) (.int .i64 (yr+1)))).fv ((hE.here.1.2).sep (i:=1) (hE.here.2) rfl (.int .i64 (yr+1)))).af (show ak 33 iO #[.int .i64 E,.int .i64 (yr+1)] _ by simpa using(hE.here.2).bW 1 (.int .i64 (yr+1))));go_wp2_with fail
    clear YV YW f168 Lc;generalize akk.setCell ⟨iO,1,none⟩ (.int .i64 (yr+1))=apE at hE⊢;clear o1
    go_roundw
    case rel=>
     exact⟨k+1,iO,yr+1,_,_,_,_,_,_,_,_,_,_,by omega,by have:=Ri.out;omega,rfl,by omega,((((((((((Env.again hE.av).af (hE.au.1.1.2)).kept (hE.au.1.2)).fv (hE.au.2)).af (hE.e8.1.1.1.1.1.1.1.2)).fv (hE.here.1.2)).af (hE.bZ)).af (hE.here.2)).fe (hE.h11)).bu (hE.h10))⟩
    case measure=>
     rw[mR (hE.here.2),mR HX.out];have:=Ri.out;omega
end Go.Proofs.YtclbiihcbfnjmaaGreat
