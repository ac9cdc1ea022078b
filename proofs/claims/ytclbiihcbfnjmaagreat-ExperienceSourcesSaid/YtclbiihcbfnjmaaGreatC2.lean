/-
  Parts.
-/
import Derived.Test.YtclbiihcbfnjmaaGreatK19
set_option linter.unusedSimpArgs false
set_option maxRecDepth 100000
set_option maxHeartbeats 8000000
namespace Go.Proofs.YtclbiihcbfnjmaaGreat
open Go.RowKit

theorem TY {F S E Y:Int}{A:Option Addr}{n c:Nat}{r:Nat->RH}{si ti:Bool}{Ai Bi:Option Addr}{ni ci mi di:Nat}{q:Rat}{w u:World}(YV:Below w.heap.size w u)(hT:eZ w A n r)(hB:nJ n r)(hq:FV w q si Ai ni ti Bi mi)(hi:Cn q)(hR:dH F S n r E Y)(N:Nat)(hN:lT (1/(1+q)) (fr F S n r E Y) N)(lZ:N<=80)(Bp:Nat)(hBw:w.heap.size<=Bp)(TF:au 133 Bp #[.int .i64 F,.int .i64 S,.slice A n c,.bool si,.slice Ai ni ci,.bool ti,.slice Bi mi di,.int .i64 E,.int .i64 Y,.slice none 0 0] u):
  Calls Tryz.prog 57 #[.pointer (some ⟨Bp,0,none⟩)] u (fun e u'=>(∃x,e= .returned x)/\∃cs0 h,au 133 Bp #[.int .i64 F,.int .i64 S,.slice A n c,.bool si,.slice Ai ni ci,.bool ti,.slice Bi mi di,.int .i64 E,.int .i64 Y,cs0] u'/\fY u.heap.size cs0 N h u'/\cK h N (fun _ j=>j=0\/j=3) (bP (1/(1+q)) (fr F S n r E Y) N) u'/\Kept u Bp u'/\Below w.heap.size w u'):=by
 obtain⟨v,hv⟩:∃v,v=1/(1+q):=⟨_,rfl⟩
 obtain⟨f,hf⟩:∃f,f=fr F S n r E Y:=⟨_,rfl⟩
 rw[<-hv,<-hf] at hN;rw[<-hv,<-hf]
 have hD:zh v:=by rw[hv];exact hi.MK
 have zi:uE f N:=by rw[hf];exact iB (hT) hR N
 have tB:3*N+3<=255:=by omega
 have hdl:∀k,k<=N->fl (dd v f k)<=256:=fun k hk=>(Iu hD zi hk).l (by decide) (by decide) (by omega)
 have nK:∀k,k<=N->fl (v*dd v f k)<=256:=fun k hk=>(hD.ql.mul (Iu hD zi hk)).l (by decide) (by decide) (by omega)
 have uF:∀k,k<N->fl (v*dd v f k*f k)<=256:=fun k hk=>(ML hD zi hk).l (by decide) (by decide) (by omega)
 have hrl:∀k,k<N->fl (f k)<=256:=fun k hk=>ay (zj zi hk) (by decide)
 have hvl:fl v<=256:=hD.ql.l (by decide) (by decide) (by decide);have Hhv:=af hv;clear hv;have YW:=af hf;clear hf;have rV:=af hN;clear hN;have HhD:=af hD;clear hD;have aqr:=af zi;clear zi;have TZ:=af hdl;clear hdl;have Ku:=af nK;clear nK;have Ua:=af uF;clear uF;have Ub:=af hrl;clear hrl;have Uc:=af hvl;clear hvl;have FJ:=af hR;clear hR;have YX:=af hi;clear hi;have MN:=af tB;clear tB;have Co:=af hT;clear hT;have Hhq:=af hq;clear hq;have TG:=af hB;clear hB;have hE:=((Env.again YV).ag TF).kept (Kept.refl u Bp);clear TF;have Kv:w.heap.size<=u.heap.size:=YV.size
 go_enter Tryz.func57,Tryz.ntmps57
 go_upto_region 0 with(fail)
 obtain⟨k1,k2,k3,k4,k5,k6,k7,k8,k9,fU⟩:=(hE.g1).cB;go_wp2_with fail
 have hc:=Cz (F:=F) (S:=S) (A:=A) (n:=n) (c:=c) (ci:=ci) (di:=di) (Hhq.out.below hE.ax) YX.out;rw[<-Hhv.out] at hc;refine hE.fr (hc) ?_;clear hE k1 k2 k3 k4 k5 k6 k7 k8 k9 fU;intro sv Av nv cv tv Bv mv dv Kw hE;clear hc
 go_upto_region 1 with(fail)
 obtain⟨g12,uq⟩:∃g12,g12=Kw.heap.size:=⟨_,rfl⟩
 have alb:Bp<g12:=by rw[uq];exact(hE.h2).lt
 have ard:u.heap.size<=g12:=by rw[uq];exact(hE.g1).size
 replace hE:=hE.blk 29 (az sv Av nv cv tv Bv mv dv) (g:=g12) uq.symm;generalize Kw.alloc (.cells (az sv Av nv cv tv Bv mv dv) 29)=W12 at hE⊢;rw[<-uq];clear uq;go_wp2_with fail
 have hc:=bg 1 W12 (by decide) (by decide);rw[show(((1:Int):Rat))=dd v f 0 from rfl] at hc;refine hE.fr (hc) ?_;clear hE;intro sz Az nz cz tz Bz mz dz Ud hE;clear hc
 go_upto_region 2 with(fail)
 obtain⟨g14,ur⟩:∃g14,g14=Ud.heap.size:=⟨_,rfl⟩
 have alc:Bp<g14:=by rw[ur];exact(hE.h4).lt
 have arf:u.heap.size<=g14:=by rw[ur];exact(hE.h3).size
 have ald:g12<g14:=by rw[ur];exact(hE.g1).lt
 replace hE:=hE.blk 29 (az sz Az nz cz tz Bz mz dz) (g:=g14) ur.symm;generalize Ud.alloc (.cells (az sz Az nz cz tz Bz mz dz) 29)=W14 at hE⊢;rw[<-ur];clear ur;obtain⟨iA,kz,lU,jS,kT,kB,lV,lW,nC,rP⟩:=(hE.h5).cB;go_wp2_with fail
 clear iA kz lU jS kT kB lV lW nC rP
 obtain⟨iC,jC⟩:∃iC,iC=W14.heap.size:=⟨_,rfl⟩
 have ale:Bp<iC:=by rw[jC];exact(hE.h5).lt
 have arh:u.heap.size<=iC:=by rw[jC];exact(hE.h4).size
 have FK:g12<iC:=by rw[jC];exact(hE.h2).lt
 have alf:g14<iC:=by rw[jC];exact(hE.g0).lt
 replace hE:=hE.blk 33 #[.int .i64 E,.int .i64 Y] (g:=iC) jC.symm;generalize W14.alloc (.cells #[.int .i64 E,.int .i64 Y] 33)=W25 at hE⊢;rw[<-jC];clear jC
 go_loopw [4] (fun p wr=>∃(k gx:Nat) (yr:Int) (cs0:Value) (h:Nat->Nat->Q8) (sz:Bool) (Az:Option Addr) (nz cz:Nat) (tz:Bool) (Bz:Option Addr) (mz dz:Nat),k<=N/\yr=Y+(k:Int)/\p= .pointer (some ⟨gx,0,none⟩)/\g14<gx/\Env w (fun V=>(((((((((True/\au 133 (Bp) #[.int .i64 F,.int .i64 S,.slice A n c,.bool si,.slice Ai ni ci,.bool ti,.slice Bi mi di,.int .i64 E,.int .i64 Y,cs0] V)/\Kept u Bp V)/\FV V v sv Av nv tv Bv mv)/\au 29 (g12) (az sv Av nv cv tv Bv mv dv) V)/\FV V (dd v f k) sz Az nz tz Bz mz)/\au 29 (g14) (az sz Az nz cz tz Bz mz dz) V)/\au 33 (gx) #[.int .i64 E,.int .i64 yr] V)/\fY u.heap.size cs0 k h V)/\cK h k (fun _ j=>j=0\/j=3) (bP v f N) V)) wr) (fun p wr=>(Y+(N:Int)-FL p wr).toNat)
 case atStart=>
  exact⟨0,_,Y,_,fun _ _=>Q8.z,_,_,_,_,_,_,_,_,bF _,by simp,rfl,by omega,((((((((((Env.again hE.ax).ag (hE.h6)).kept (hE.h5)).fv (hE.h4)).ag (hE.h3)).fv (hE.h2)).ag (hE.g1)).ag (hE.g0)).gF (.inl ⟨rfl,rfl⟩)).bP (fun k hk=>absurd hk (nY _)))⟩
 case round=>
  clear hE;obtain⟨k,gx,yr,cs0,h,sz,Az,nz,cz,tz,Bz,mz,dz,hk,hyr,rfl,hgx,hE⟩:=hrel;have Ue:=af hyr;clear hyr;have HX:=af (hE.h2)
  have hgu:u.heap.size<=g14:=by omega
  have vg:w.heap.size<=u.heap.size:=Kv
  by_cases hkN:k=N
  ·
   have Kx:nz=0:=(FV.nz hE.h4).2 (by rw[hkN];exact rV.out.1);subst hkN;subst Kx;obtain⟨nQ,qH,pM,Fy⟩:=(hE.h3).c4;go_wp2_with fail
   clear nQ qH pM Fy
   go_end0
   exact⟨⟨_,rfl⟩,cs0,h,hE.h8,hE.g1,hE.g0,hE.h7,hE.ax⟩
  ·
   have Uf:k<N:=by omega
   have xM:0<nz:=Nat.pos_of_ne_zero (fun e0=>rV.out.2 k Uf ((FV.nz hE.h4).1 e0));have t1:decide ((0:Int)<(nz:Int))=true:=aL (by omega)
   have t2:(0:Int)<(nz:Int):=by omega
   have t3:decide (0<nz)=true:=aL xM;have aqs:N<=80:=lZ;obtain⟨wW,uG,tC,tD⟩:=(hE.h3).c4;go_wp2_with fail
   refine hE.fr (bg 1 _ (by decide) (by decide)) ?_;clear hE wW uG tC tD;intro sa Aa na ca ta Ba ma da CA hE;clear t1 t2 t3 xM
   go_upto_region 6 with(fail)
   obtain⟨jr,iD⟩:∃jr,jr=CA.heap.size:=⟨_,rfl⟩
   have alg:Bp<jr:=by rw[iD];exact(hE.h9).lt
   have ari:u.heap.size<=jr:=by rw[iD];exact(hE.h8).size
   have FM:g12<jr:=by rw[iD];exact(hE.h6).lt
   have alh:g14<jr:=by rw[iD];exact(hE.h4).lt
   have FN:gx<jr:=by rw[iD];exact(hE.h3).lt
   replace hE:=hE.blk 29 (az sa Aa na ca ta Ba ma da) (g:=jr) iD.symm;generalize CA.alloc (.cells (az sa Aa na ca ta Ba ma da) 29)=Ug at hE⊢;rw[<-iD];clear iD
   by_cases aaC:yr<=300
   ·
    have HR2:=af (MO FJ.out Ue.out aaC);have Hfk:Hid (fr F S n r E yr 0=f k):=af (by rw[YW.out];exact YY Ue.out)
    go_cut [6,7] from 30 to 40 (fun p0 p1 wx=>∃G6 sj Aj nj cj tj Bj mj dj,p0= .pointer (some ⟨G6,0,none⟩)/\p1= .int .i64 0/\jr<G6/\Env w (fun V=>(((((((((((((True/\au 133 (Bp) #[.int .i64 F,.int .i64 S,.slice A n c,.bool si,.slice Ai ni ci,.bool ti,.slice Bi mi di,.int .i64 E,.int .i64 Y,cs0] V)/\Kept u Bp V)/\FV V v sv Av nv tv Bv mv)/\au 29 (g12) (az sv Av nv cv tv Bv mv dv) V)/\FV V (dd v f k) sz Az nz tz Bz mz)/\au 29 (g14) (az sz Az nz cz tz Bz mz dz) V)/\au 33 (gx) #[.int .i64 E,.int .i64 yr] V)/\fY u.heap.size cs0 k h V)/\cK h k (fun _ j=>j=0\/j=3) (bP v f N) V)/\FV V ((1:Int):Rat) sa Aa na ta Ba ma)/\au 29 (jr) (az sa Aa na ca ta Ba ma da) V)/\FV V (f k) sj Aj nj tj Bj mj)/\au 29 (G6) (az sj Aj nj cj tj Bj mj dj) V)) wx)
    case first=>
     replace hE:=hE.drew;refine bH (S:=fun w'=>w'.cell? ⟨Bp,0,none⟩=some (.int .i64 F)/\w'.cell? ⟨Bp,1,none⟩=some (.int .i64 S)/\w'.cell? ⟨Bp,2,none⟩=some (.slice A n c)/\w'.cell? ⟨Bp,3,none⟩=some (.bool si)/\w'.cell? ⟨Bp,4,none⟩=some (.slice Ai ni ci)/\w'.cell? ⟨Bp,5,none⟩=some (.bool ti)/\w'.cell? ⟨Bp,6,none⟩=some (.slice Bi mi di)/\w'.cell? ⟨Bp,7,none⟩=some (.int .i64 E)/\w'.cell? ⟨Bp,8,none⟩=some (.int .i64 Y)/\w'.cell? ⟨Bp,9,none⟩=some (cs0)/\w'.cell? ⟨gx,0,none⟩=some (.int .i64 E)/\w'.cell? ⟨gx,1,none⟩=some (.int .i64 yr)) (by kernel_rfl) (⟨(hE.h10).cB.1,(hE.h10).cB.2.1,(hE.h10).cB.2.2.1,(hE.h10).cB.2.2.2.1,(hE.h10).cB.2.2.2.2.1,(hE.h10).cB.2.2.2.2.2.1,(hE.h10).cB.2.2.2.2.2.2.1,(hE.h10).cB.2.2.2.2.2.2.2.1,(hE.h10).cB.2.2.2.2.2.2.2.2.1,(hE.h10).cB.2.2.2.2.2.2.2.2.2,(hE.h4).c2.1,(hE.h4).c2.2⟩) (fun hHeld=> ?_)
     generalize Ug.drew=wd at*
     refine tk 0 ?_;refine tk 1 ?_;refine tk 2 ?_;refine tk 3 ?_;refine tk 4 ?_;refine tk 5 ?_;refine cC (rs:=[6,10]) (by kernel_rfl) (by simp) (bq rfl (fun K hK=> ?_) (bq rfl (fun K hK=> ?_) (cD)))
     ·
      go_simp;have hc:=uH (c:=c) (Co.out.below hE.ax) TG.out HR2.out;rw[Hfk.out] at hc;refine hE.fr (hc) ?_;clear hE;intro sj Aj nj cj tj Bj mj dj w36 hE;clear hc;go_wp2_with fail
      refine hK.out _ _ (⟨(hE.h11).cB.1,(hE.h11).cB.2.1,(hE.h11).cB.2.2.1,(hE.h11).cB.2.2.2.1,(hE.h11).cB.2.2.2.2.1,(hE.h11).cB.2.2.2.2.2.1,(hE.h11).cB.2.2.2.2.2.2.1,(hE.h11).cB.2.2.2.2.2.2.2.1,(hE.h11).cB.2.2.2.2.2.2.2.2.1,(hE.h11).cB.2.2.2.2.2.2.2.2.2,(hE.h5).c2.1,(hE.h5).c2.2⟩) (fun hHeld=> ?_);clear hK K;try simp only[PL]
      refine tk 7 ?_;refine tk 8 ?_;refine tk 9 ?_;refine r1 10 (fun K hK=> ?_);go_simp
      obtain⟨FO,zk⟩:∃FO,FO=w36.heap.size:=⟨_,rfl⟩
      have ali:Bp<FO:=by rw[zk];exact(hE.h11).lt
      have arj:u.heap.size<=FO:=by rw[zk];exact(hE.h10).size
      have alj:g12<FO:=by rw[zk];exact(hE.h8).lt
      have alk:g14<FO:=by rw[zk];exact(hE.h6).lt
      have alm:gx<FO:=by rw[zk];exact(hE.h5).lt
      have aj4:jr<FO:=by rw[zk];exact(hE.g1).lt
      replace hE:=hE.blk 29 aW (g:=FO) zk.symm;generalize w36.alloc (.cells aW 29)=W37 at hE⊢;rw[<-zk];clear zk;refine hK.out _ _ (⟨(hE.h12).cB.1,(hE.h12).cB.2.1,(hE.h12).cB.2.2.1,(hE.h12).cB.2.2.2.1,(hE.h12).cB.2.2.2.2.1,(hE.h12).cB.2.2.2.2.2.1,(hE.h12).cB.2.2.2.2.2.2.1,(hE.h12).cB.2.2.2.2.2.2.2.1,(hE.h12).cB.2.2.2.2.2.2.2.2.1,(hE.h12).cB.2.2.2.2.2.2.2.2.2,(hE.h6).c2.1,(hE.h6).c2.2⟩) (fun hHeld=> ?_);clear hK K;try simp only[PL]
      refine r1 11 (fun K hK=> ?_)
      have CB:w.heap.size<=FO:=by omega
      obtain⟨MP,MQ,MR,MS⟩:=(hE.g0).c4;obtain⟨MT,MU,MV,MW⟩:=hE.g0.f4;replace hE:=((((((((((((((Env.again (bW hE.ax CB (.bool sj) (.slice Aj nj cj) (.bool tj) (.slice Bj mj dj))).ag ((hE.h12).aj (by omega) _ _ _ _)).kept ((hE.h11).cQ (by first|exact .inr rfl|exact .inl (by omega)) _ _ _ _)).fv ((hE.h10).ak hE.g0 rfl _ _ _ _ rfl rfl rfl)).ag ((hE.h9).aj (by omega) _ _ _ _)).fv ((hE.h8).ak hE.g0 rfl _ _ _ _ rfl rfl rfl)).ag ((hE.h7).aj (by omega) _ _ _ _)).ag ((hE.h6).aj (by omega) _ _ _ _)).gF ((hE.h5).aj (hE.g0) (by decide) _ _ _ _)).bP ((hE.h4).ak (hE.g0) rfl _ _ _ _ rfl rfl rfl)).fv ((hE.h3).ak hE.g0 rfl _ _ _ _ rfl rfl rfl)).ag ((hE.h2).aj (by omega) _ _ _ _)).fv ((hE.g1).ak hE.g0 rfl _ _ _ _ rfl rfl rfl)).ag ((hE.g0).s4 _ _ _ _));go_simp;clear MP MQ MR MS MT MU MV MW CB;generalize ((((W37.setCell ⟨FO,0,none⟩ (.bool sj)).setCell ⟨FO,1,none⟩ (.slice Aj nj cj)).setCell ⟨FO,2,none⟩ (.bool tj)).setCell ⟨FO,3,none⟩ (.slice Bj mj dj))=W38 at hE⊢;refine hK.out _ _ (⟨(hE.h12).cB.1,(hE.h12).cB.2.1,(hE.h12).cB.2.2.1,(hE.h12).cB.2.2.2.1,(hE.h12).cB.2.2.2.2.1,(hE.h12).cB.2.2.2.2.2.1,(hE.h12).cB.2.2.2.2.2.2.1,(hE.h12).cB.2.2.2.2.2.2.2.1,(hE.h12).cB.2.2.2.2.2.2.2.2.1,(hE.h12).cB.2.2.2.2.2.2.2.2.2,(hE.h6).c2.1,(hE.h6).c2.2⟩) (fun hHeld=> ?_);clear hK K;try simp only[PL]
      refine tk 12 ?_;refine aX (by kernel_rfl) ?_ _;go_wp2_with fail
      go_meet
      exact⟨FO,sj,Aj,nj,cj,tj,Bj,mj,dj,rfl,rfl,by omega,((((((((((((((Env.again hE.ax).ag (hE.h12)).kept (hE.h11)).fv (hE.h10)).ag (hE.h9)).fv (hE.h8)).ag (hE.h7)).ag (hE.h6)).gF (hE.h5)).bP (hE.h4)).fv (hE.h3)).ag (hE.h2)).fv (hE.g1)).ag (hE.g0))⟩
     ·
      go_simp
      obtain⟨uI,nL⟩:∃uI,uI=wd.heap.size:=⟨_,rfl⟩
      have aaD:Bp<uI:=by rw[nL];exact(hE.h10).lt
      have ark:u.heap.size<=uI:=by rw[nL];exact(hE.h9).size
      have aaE:g12<uI:=by rw[nL];exact(hE.h7).lt
      have aln:g14<uI:=by rw[nL];exact(hE.h5).lt
      have alo:gx<uI:=by rw[nL];exact(hE.h4).lt
      have aj5:jr<uI:=by rw[nL];exact(hE.g0).lt
      replace hE:=hE.blk 29 aW (g:=uI) nL.symm;generalize wd.alloc (.cells aW 29)=W39 at hE⊢;rw[<-nL];clear nL;refine hK.out _ _ (⟨(hE.h11).cB.1,(hE.h11).cB.2.1,(hE.h11).cB.2.2.1,(hE.h11).cB.2.2.2.1,(hE.h11).cB.2.2.2.2.1,(hE.h11).cB.2.2.2.2.2.1,(hE.h11).cB.2.2.2.2.2.2.1,(hE.h11).cB.2.2.2.2.2.2.2.1,(hE.h11).cB.2.2.2.2.2.2.2.2.1,(hE.h11).cB.2.2.2.2.2.2.2.2.2,(hE.h5).c2.1,(hE.h5).c2.2⟩) (fun hHeld=> ?_);clear hK K;try simp only[PL]
      refine r1 6 (fun K hK=> ?_);go_simp;have hc:=uH (c:=c) (Co.out.below hE.ax) TG.out HR2.out;rw[Hfk.out] at hc;refine hE.fr (hc) ?_;clear hE;intro sj Aj nj cj tj Bj mj dj w40 hE;clear hc;go_wp2_with fail
      refine hK.out _ _ (⟨(hE.h12).cB.1,(hE.h12).cB.2.1,(hE.h12).cB.2.2.1,(hE.h12).cB.2.2.2.1,(hE.h12).cB.2.2.2.2.1,(hE.h12).cB.2.2.2.2.2.1,(hE.h12).cB.2.2.2.2.2.2.1,(hE.h12).cB.2.2.2.2.2.2.2.1,(hE.h12).cB.2.2.2.2.2.2.2.2.1,(hE.h12).cB.2.2.2.2.2.2.2.2.2,(hE.h6).c2.1,(hE.h6).c2.2⟩) (fun hHeld=> ?_);clear hK K;try simp only[PL]
      refine tk 7 ?_;refine tk 8 ?_;refine tk 9 ?_;refine r1 11 (fun K hK=> ?_)
      have YZ:w.heap.size<=uI:=by omega
      obtain⟨afA,afB,afC,afD⟩:=(hE.g1).c4;obtain⟨afE,afF,afG,afH⟩:=hE.g1.f4;replace hE:=((((((((((((((Env.again (bW hE.ax YZ (.bool sj) (.slice Aj nj cj) (.bool tj) (.slice Bj mj dj))).ag ((hE.h12).aj (by omega) _ _ _ _)).kept ((hE.h11).cQ (by first|exact .inr rfl|exact .inl (by omega)) _ _ _ _)).fv ((hE.h10).ak hE.g1 rfl _ _ _ _ rfl rfl rfl)).ag ((hE.h9).aj (by omega) _ _ _ _)).fv ((hE.h8).ak hE.g1 rfl _ _ _ _ rfl rfl rfl)).ag ((hE.h7).aj (by omega) _ _ _ _)).ag ((hE.h6).aj (by omega) _ _ _ _)).gF ((hE.h5).aj (hE.g1) (by decide) _ _ _ _)).bP ((hE.h4).ak (hE.g1) rfl _ _ _ _ rfl rfl rfl)).fv ((hE.h3).ak hE.g1 rfl _ _ _ _ rfl rfl rfl)).ag ((hE.h2).aj (by omega) _ _ _ _)).ag ((hE.g1).s4 _ _ _ _)).fv ((hE.g0).ak hE.g1 rfl _ _ _ _ rfl rfl rfl));go_simp;clear afA afB afC afD afE afF afG afH YZ;generalize ((((w40.setCell ⟨uI,0,none⟩ (.bool sj)).setCell ⟨uI,1,none⟩ (.slice Aj nj cj)).setCell ⟨uI,2,none⟩ (.bool tj)).setCell ⟨uI,3,none⟩ (.slice Bj mj dj))=W41 at hE⊢;refine hK.out _ _ (⟨(hE.h12).cB.1,(hE.h12).cB.2.1,(hE.h12).cB.2.2.1,(hE.h12).cB.2.2.2.1,(hE.h12).cB.2.2.2.2.1,(hE.h12).cB.2.2.2.2.2.1,(hE.h12).cB.2.2.2.2.2.2.1,(hE.h12).cB.2.2.2.2.2.2.2.1,(hE.h12).cB.2.2.2.2.2.2.2.2.1,(hE.h12).cB.2.2.2.2.2.2.2.2.2,(hE.h6).c2.1,(hE.h6).c2.2⟩) (fun hHeld=> ?_);clear hK K;try simp only[PL]
      refine tk 12 ?_;refine aX (by kernel_rfl) ?_ _;go_wp2_with fail
      go_meet
      exact⟨uI,sj,Aj,nj,cj,tj,Bj,mj,dj,rfl,rfl,by omega,((((((((((((((Env.again hE.ax).ag (hE.h12)).kept (hE.h11)).fv (hE.h10)).ag (hE.h9)).fv (hE.h8)).ag (hE.h7)).ag (hE.h6)).gF (hE.h5)).bP (hE.h4)).fv (hE.h3)).ag (hE.h2)).fv (hE.g0)).ag (hE.g1))⟩
    case rest=>
    clear hE;obtain⟨G6,sj,Aj,nj,cj,tj,Bj,mj,dj,rfl,rfl,hG6,hE⟩:=hcut;generalize wc=wk6 at hE⊢
    go_upto_region 7 with(fail)
    obtain⟨Iw,zl,CC,zm⟩:=(hE.g0).c4
    have Za:w.heap.size<=jr:=by omega
    obtain⟨afI,afJ,afK,afL⟩:=(hE.h2).c4;obtain⟨afM,afN,afO,afP⟩:=hE.h2.f4;replace hE:=((((((((((((((Env.again (bW hE.ax Za (.bool sj) (.slice Aj nj cj) (.bool tj) (.slice Bj mj dj))).ag ((hE.h12).aj (by omega) _ _ _ _)).kept ((hE.h11).cQ (by first|exact .inr rfl|exact .inl (by omega)) _ _ _ _)).fv ((hE.h10).ak hE.h2 rfl _ _ _ _ rfl rfl rfl)).ag ((hE.h9).aj (by omega) _ _ _ _)).fv ((hE.h8).ak hE.h2 rfl _ _ _ _ rfl rfl rfl)).ag ((hE.h7).aj (by omega) _ _ _ _)).ag ((hE.h6).aj (by omega) _ _ _ _)).gF ((hE.h5).aj (hE.h2) (by decide) _ _ _ _)).bP ((hE.h4).ak (hE.h2) rfl _ _ _ _ rfl rfl rfl)).fv ((hE.h3).ak hE.h2 rfl _ _ _ _ rfl rfl rfl)).ag ((hE.h2).s4 _ _ _ _)).fv ((hE.g1).ak hE.h2 rfl _ _ _ _ rfl rfl rfl)).ag ((hE.g0).aj (by omega) _ _ _ _))
    go_upto_region 9 with(fail)
    clear afI afJ afK afL afM afN afO afP Za;generalize ((((wk6.setCell ⟨jr,0,none⟩ (.bool sj)).setCell ⟨jr,1,none⟩ (.slice Aj nj cj)).setCell ⟨jr,2,none⟩ (.bool tj)).setCell ⟨jr,3,none⟩ (.slice Bj mj dj))=W46 at hE⊢;clear Iw zl CC zm;obtain⟨Ky,MX,MB,TH⟩:=(hE.h9).c4;obtain⟨MY,TI,Zb,k54⟩:=(hE.h7).c4;go_wp2_with fail
    refine hE.fr (qN (ca:=cv) (da:=dv) (cb:=cz) (db:=dz) hE.h10 hE.h8 Uc.out (TZ.out k hk) (Ku.out k hk)) ?_;clear hE Ky MX MB TH MY TI Zb k54;intro sx Ax nx cx tx Bx mx dx w55 hE
    go_upto_region 10 with(fail)
    obtain⟨FP,xe⟩:∃FP,FP=w55.heap.size:=⟨_,rfl⟩
    have alp:Bp<FP:=by rw[xe];exact(hE.dN).lt
    have arl:u.heap.size<=FP:=by rw[xe];exact(hE.h12).size
    have alq:g12<FP:=by rw[xe];exact(hE.h10).lt
    have alr:g14<FP:=by rw[xe];exact(hE.h8).lt
    have als:gx<FP:=by rw[xe];exact(hE.h7).lt
    have aj6:jr<FP:=by rw[xe];exact(hE.h3).lt
    have aj7:G6<FP:=by rw[xe];exact(hE.g1).lt
    replace hE:=hE.blk 29 (az sx Ax nx cx tx Bx mx dx) (g:=FP) xe.symm;generalize w55.alloc (.cells (az sx Ax nx cx tx Bx mx dx) 29)=W56 at hE⊢;rw[<-xe];clear xe;obtain⟨k57,k58,k59,k60⟩:=(hE.g0).c4;obtain⟨k61,k62,k63,k64⟩:=(hE.h4).c4;go_wp2_with fail
    refine hE.fr (qN (ca:=cx) (da:=dx) (cb:=cj) (db:=dj) hE.g1 hE.h3 (Ku.out k hk) (Ub.out k Uf) (Ua.out k Uf)) ?_;clear hE k57 k58 k59 k60 k61 k62 k63 k64;intro sy Ay ny cy ty By my dy w65 hE
    go_upto_region 11 with(fail)
    obtain⟨xN,vh⟩:∃xN,xN=w65.heap.size:=⟨_,rfl⟩
    have alu:Bp<xN:=by rw[vh];exact(hE.g15).lt
    have arn:u.heap.size<=xN:=by rw[vh];exact(hE.g14).size
    have alv:g12<xN:=by rw[vh];exact(hE.h12).lt
    have alw:g14<xN:=by rw[vh];exact(hE.h10).lt
    have alx:gx<xN:=by rw[vh];exact(hE.h9).lt
    have aj8:jr<xN:=by rw[vh];exact(hE.h5).lt
    have aj9:G6<xN:=by rw[vh];exact(hE.h3).lt
    have aka:FP<xN:=by rw[vh];exact(hE.g1).lt
    replace hE:=hE.blk 29 (az sy Ay ny cy ty By my dy) (g:=xN) vh.symm;generalize w65.alloc (.cells (az sy Ay ny cy ty By my dy) 29)=W66 at hE⊢;rw[<-vh];clear vh
    go_cut [9] from 49 to 61 (fun p wx=>∃(gr cap:Nat) (hn:Nat->Nat->Q8),p= .pointer (some ⟨xN,0,none⟩)/\Env w (fun V=>(((((((((((((((((True/\au 133 (Bp) #[.int .i64 F,.int .i64 S,.slice A n c,.bool si,.slice Ai ni ci,.bool ti,.slice Bi mi di,.int .i64 E,.int .i64 Y,.slice (some ⟨gr,0,none⟩) (k+1) cap] V)/\Kept u Bp V)/\FV V v sv Av nv tv Bv mv)/\au 29 (g12) (az sv Av nv cv tv Bv mv dv) V)/\FV V (dd v f k) sz Az nz tz Bz mz)/\au 29 (g14) (az sz Az nz cz tz Bz mz dz) V)/\au 33 (gx) #[.int .i64 E,.int .i64 yr] V)/\fY u.heap.size (.slice (some ⟨gr,0,none⟩) (k+1) cap) (k+1) hn V)/\cK hn (k+1) (fun _ j=>j=0\/j=3) (bP v f N) V)/\FV V ((1:Int):Rat) sa Aa na ta Ba ma)/\au 29 (jr) (az sj Aj nj cj tj Bj mj dj) V)/\FV V (f k) sj Aj nj tj Bj mj)/\au 29 (G6) (az sj Aj nj cj tj Bj mj dj) V)/\FV V (v*dd v f k) sx Ax nx tx Bx mx)/\au 29 (FP) (az sx Ax nx cx tx Bx mx dx) V)/\FV V (v*dd v f k*f k) sy Ay ny ty By my)/\au 29 (xN) (az sy Ay ny cy ty By my dy) V)) wx)
    case first=>
     replace hE:=hE.drew;refine bH (S:=fun w'=>w'.cell? ⟨g14,0,none⟩=some (.bool sz)/\w'.cell? ⟨g14,1,none⟩=some (.slice Az nz cz)/\w'.cell? ⟨g14,2,none⟩=some (.bool tz)/\w'.cell? ⟨g14,3,none⟩=some (.slice Bz mz dz)/\w'.cell? ⟨xN,0,none⟩=some (.bool sy)/\w'.cell? ⟨xN,1,none⟩=some (.slice Ay ny cy)/\w'.cell? ⟨xN,2,none⟩=some (.bool ty)/\w'.cell? ⟨xN,3,none⟩=some (.slice By my dy)) (by kernel_rfl) (hE.h11.j4 hE.g0.c4) (fun hHeld=> ?_)
     generalize W66.drew=wd at*
     refine tk 0 ?_;refine tk 1 ?_;refine tk 2 ?_;refine tk 3 ?_;refine tk 5 ?_;refine tk 6 ?_;refine tk 7 ?_;refine cC (rs:=[4,8]) (by kernel_rfl) (by simp) (bq rfl (fun K hK=> ?_) (bq rfl (fun K hK=> ?_) (cD)))
     ·
      obtain⟨k67,k68,k69,k70,k71,k72,k73,k74,k75,k76⟩:=(hE.g16).cB;go_simp;clear k67 k68 k69 k70 k71 k72 k73 k74 k75 k76;refine hK.out _ _ (hE.h11.j4 hE.g0.c4) (fun hHeld=> ?_);clear hK K;try simp only[PL]
      refine r1 8 (fun K hK=> ?_);go_simp
      obtain⟨Kz,uu⟩:∃Kz,Kz=wd.heap.size:=⟨_,rfl⟩
      have aly:Bp<Kz:=by rw[uu];exact(hE.g16).lt
      have aro:u.heap.size<=Kz:=by rw[uu];exact(hE.g15).size
      have alz:g12<Kz:=by rw[uu];exact(hE.dN).lt
      have alA:g14<Kz:=by rw[uu];exact(hE.h11).lt
      have alB:gx<Kz:=by rw[uu];exact(hE.h10).lt
      have akb:jr<Kz:=by rw[uu];exact(hE.h6).lt
      have akc:G6<Kz:=by rw[uu];exact(hE.h4).lt
      have akd:FP<Kz:=by rw[uu];exact(hE.h2).lt
      have ake:xN<Kz:=by rw[uu];exact(hE.g0).lt
      replace hE:=hE.blk 98 #[.bool sz,.slice Az nz cz,.bool tz,.slice Bz mz dz,.bool false,.slice none 0 0,.bool false,.slice none 0 0,.bool false,.slice none 0 0,.bool false,.slice none 0 0,.bool sy,.slice Ay ny cy,.bool ty,.slice By my dy,.bool false,.slice none 0 0,.bool false,.slice none 0 0,.bool false,.slice none 0 0,.bool false,.slice none 0 0] (g:=Kz) uu.symm;generalize wd.alloc (.cells #[.bool sz,.slice Az nz cz,.bool tz,.slice Bz mz dz,.bool false,.slice none 0 0,.bool false,.slice none 0 0,.bool false,.slice none 0 0,.bool false,.slice none 0 0,.bool sy,.slice Ay ny cy,.bool ty,.slice By my dy,.bool false,.slice none 0 0,.bool false,.slice none 0 0,.bool false,.slice none 0 0,.bool false,.slice none 0 0] 98)=W77 at hE⊢;rw[<-uu];clear uu;refine hK.out _ _ (hE.h12.j4 hE.g1.c4) (fun hHeld=> ?_);clear hK K;try simp only[PL]
      refine r1 9 (fun K hK=> ?_);have eG:=hE.h10;have nK:=eG.KA;obtain⟨gr,cap,wa,hrun,eE,qI,eW⟩:=mA 43 eG (hE.g16).size ⟨Kz,0,none⟩ 1 (xg ⟨sz,Az,nz,cz,tz,Bz,mz,dz⟩ ⟨sy,Ay,ny,cy,ty,By,my,dy⟩) (zn (d:=⟨sz,Az,nz,cz,tz,Bz,mz,dz⟩) (c:=⟨sy,Ay,ny,cy,ty,By,my,dy⟩) (hE.g0)) (by omega)
      have FQ:cK (fun k'=>if k'=k then xg ⟨sz,Az,nz,cz,tz,Bz,mz,dz⟩ ⟨sy,Ay,ny,cy,ty,By,my,dy⟩ else h k') (k+1) (fun _ j=>j=0\/j=3) (bP v f N) wa:=cK.snoc (hE.h9|>.to fun hf=>hf.aQ eG eW) (fun j _ hj=>by
       rcases hj with rfl|rfl
       ·exact(hE.dN).aQ eG eW
       ·exact(hE.h2).aQ eG eW) (fun _ _ _ _ hj=>hj)
      replace hE:=((((((((((((((((((Env.again (Go.Proofs.YtclbiihcbfnjmaaGreat.Below.aQ hE.ax eG eW Kv (ay Kv (hE.g16).size))).ag ((hE.g17).aQ eG eW (by decide))).kept ((hE.g16).aQ eG eW)).fv ((hE.g15).aQ eG eW)).ag ((hE.g14).aQ eG eW (by decide))).fv ((hE.dN).aQ eG eW)).ag ((hE.h12).aQ eG eW (by decide))).ag ((hE.h11).aQ eG eW (by decide))).gF (.inr ⟨gr,cap,rfl,eE,qI⟩)).bP FQ).fv ((hE.h8).aQ eG eW)).ag ((hE.h7).aQ eG eW (by decide))).fv ((hE.h6).aQ eG eW)).ag ((hE.h5).aQ eG eW (by decide))).fv ((hE.h4).aQ eG eW)).ag ((hE.h3).aQ eG eW (by decide))).fv ((hE.h2).aQ eG eW)).ag ((hE.g1).aQ eG eW (by decide)));clear FQ qI;refine Eq.mpr (if_pos (by rfl)) ?_;refine qO (s:= .tmp 53) (x:= .tmp 57) rfl rfl rfl hrun ?_;clear hrun eG eW;refine hK.out _ _ (hE.h11.j4 hE.g0.c4) (fun hHeld=> ?_);clear hK K;try simp only[PL]
      refine tk 10 ?_;refine tk 11 ?_;refine r1 12 (fun K hK=> ?_)
      have Zc:w.heap.size<=Bp:=by omega
      obtain⟨afQ,afR,afS,afT,afU,afV,afW,afX,afY,afZ⟩:=(hE.g16).cB;have f78:=(hE.g16).frozen 9;replace hE:=((((((((((((((((((Env.again (hE.ax.setCell (p:=⟨Bp,9,none⟩) Zc (.slice (some ⟨gr,0,none⟩) (k+1) cap))).ag (show au 133 Bp #[.int .i64 F,.int .i64 S,.slice A n c,.bool si,.slice Ai ni ci,.bool ti,.slice Bi mi di,.int .i64 E,.int .i64 Y,.slice (some ⟨gr,0,none⟩) (k+1) cap] _ by simpa using(hE.g16).dZ 9 (.slice (some ⟨gr,0,none⟩) (k+1) cap))).kept ((hE.g15).KB (by first|exact .inr rfl|exact .inl (by omega)) 9 (.slice (some ⟨gr,0,none⟩) (k+1) cap))).fv ((hE.g14).sep (i:=9) (hE.g16) (by simpa [aP] using nK) (.slice (some ⟨gr,0,none⟩) (k+1) cap))).ag ((hE.dN).far (p:=⟨Bp,9,none⟩) (by first|omega|(simp;omega)) (.slice (some ⟨gr,0,none⟩) (k+1) cap))).fv ((hE.h12).sep (i:=9) (hE.g16) (by simpa [aP] using nK) (.slice (some ⟨gr,0,none⟩) (k+1) cap))).ag ((hE.h11).far (p:=⟨Bp,9,none⟩) (by first|omega|(simp;omega)) (.slice (some ⟨gr,0,none⟩) (k+1) cap))).ag ((hE.h10).far (p:=⟨Bp,9,none⟩) (by first|omega|(simp;omega)) (.slice (some ⟨gr,0,none⟩) (k+1) cap))).gF ((hE.h9).far (hE.g16) (by decide) 9 (.slice (some ⟨gr,0,none⟩) (k+1) cap))).bP ((hE.h8).KC (hE.g16) (by simpa [aP] using nK) 9 (.slice (some ⟨gr,0,none⟩) (k+1) cap))).fv ((hE.h7).sep (i:=9) (hE.g16) (by simpa [aP] using nK) (.slice (some ⟨gr,0,none⟩) (k+1) cap))).ag ((hE.h6).far (p:=⟨Bp,9,none⟩) (by first|omega|(simp;omega)) (.slice (some ⟨gr,0,none⟩) (k+1) cap))).fv ((hE.h5).sep (i:=9) (hE.g16) (by simpa [aP] using nK) (.slice (some ⟨gr,0,none⟩) (k+1) cap))).ag ((hE.h4).far (p:=⟨Bp,9,none⟩) (by first|omega|(simp;omega)) (.slice (some ⟨gr,0,none⟩) (k+1) cap))).fv ((hE.h3).sep (i:=9) (hE.g16) (by simpa [aP] using nK) (.slice (some ⟨gr,0,none⟩) (k+1) cap))).ag ((hE.h2).far (p:=⟨Bp,9,none⟩) (by first|omega|(simp;omega)) (.slice (some ⟨gr,0,none⟩) (k+1) cap))).fv ((hE.g1).sep (i:=9) (hE.g16) (by simpa [aP] using nK) (.slice (some ⟨gr,0,none⟩) (k+1) cap))).ag ((hE.g0).far (p:=⟨Bp,9,none⟩) (by first|omega|(simp;omega)) (.slice (some ⟨gr,0,none⟩) (k+1) cap)));go_simp;clear afQ afR afS afT afU afV afW afX afY afZ f78 Zc;generalize wa.setCell ⟨Bp,9,none⟩ (.slice (some ⟨gr,0,none⟩) (k+1) cap)=W78 at hE⊢
      refine hK.out _ _ (hE.h11.j4 hE.g0.c4) (fun hHeld=> ?_);clear hK K;try simp only[PL]
      refine aX (by kernel_rfl) ?_ _;go_wp2_with fail
      go_meet
      exact⟨_,_,_,rfl,((((((((((((((((((Env.again hE.ax).ag (hE.g16)).kept (hE.g15)).fv (hE.g14)).ag (hE.dN)).fv (hE.h12)).ag (hE.h11)).ag (hE.h10)).gF (hE.h9)).bP (hE.h8)).fv (hE.h7)).ag (hE.h6)).fv (hE.h5)).ag (hE.h4)).fv (hE.h3)).ag (hE.h2)).fv (hE.g1)).ag (hE.g0))⟩
     ·
      go_simp
      obtain⟨KD,uv⟩:∃KD,KD=wd.heap.size:=⟨_,rfl⟩
      have alC:Bp<KD:=by rw[uv];exact(hE.g16).lt
      have arp:u.heap.size<=KD:=by rw[uv];exact(hE.g15).size
      have alD:g12<KD:=by rw[uv];exact(hE.dN).lt
      have alE:g14<KD:=by rw[uv];exact(hE.h11).lt
      have alF:gx<KD:=by rw[uv];exact(hE.h10).lt
      have akf:jr<KD:=by rw[uv];exact(hE.h6).lt
      have akg:G6<KD:=by rw[uv];exact(hE.h4).lt
      have akh:FP<KD:=by rw[uv];exact(hE.h2).lt
      have aki:xN<KD:=by rw[uv];exact(hE.g0).lt
      replace hE:=hE.blk 98 #[.bool sz,.slice Az nz cz,.bool tz,.slice Bz mz dz,.bool false,.slice none 0 0,.bool false,.slice none 0 0,.bool false,.slice none 0 0,.bool false,.slice none 0 0,.bool sy,.slice Ay ny cy,.bool ty,.slice By my dy,.bool false,.slice none 0 0,.bool false,.slice none 0 0,.bool false,.slice none 0 0,.bool false,.slice none 0 0] (g:=KD) uv.symm;generalize wd.alloc (.cells #[.bool sz,.slice Az nz cz,.bool tz,.slice Bz mz dz,.bool false,.slice none 0 0,.bool false,.slice none 0 0,.bool false,.slice none 0 0,.bool false,.slice none 0 0,.bool sy,.slice Ay ny cy,.bool ty,.slice By my dy,.bool false,.slice none 0 0,.bool false,.slice none 0 0,.bool false,.slice none 0 0,.bool false,.slice none 0 0] 98)=W79 at hE⊢;rw[<-uv];clear uv;refine hK.out _ _ (hE.h12.j4 hE.g1.c4) (fun hHeld=> ?_);clear hK K;try simp only[PL]
      refine r1 4 (fun K hK=> ?_);obtain⟨k80,k81,k82,k83,k84,k85,k86,k87,k88,k89⟩:=(hE.g17).cB;go_simp;clear k80 k81 k82 k83 k84 k85 k86 k87 k88 k89;refine hK.out _ _ (hE.h12.j4 hE.g1.c4) (fun hHeld=> ?_);clear hK K;try simp only[PL]
      refine r1 9 (fun K hK=> ?_);have eG:=hE.h10;have nK:=eG.KA;obtain⟨gr,cap,wa,hrun,eE,qI,eW⟩:=mA 43 eG (hE.g16).size ⟨KD,0,none⟩ 1 (xg ⟨sz,Az,nz,cz,tz,Bz,mz,dz⟩ ⟨sy,Ay,ny,cy,ty,By,my,dy⟩) (zn (d:=⟨sz,Az,nz,cz,tz,Bz,mz,dz⟩) (c:=⟨sy,Ay,ny,cy,ty,By,my,dy⟩) (hE.g0)) (by omega)
      have FQ:cK (fun k'=>if k'=k then xg ⟨sz,Az,nz,cz,tz,Bz,mz,dz⟩ ⟨sy,Ay,ny,cy,ty,By,my,dy⟩ else h k') (k+1) (fun _ j=>j=0\/j=3) (bP v f N) wa:=cK.snoc (hE.h9|>.to fun hf=>hf.aQ eG eW) (fun j _ hj=>by
       rcases hj with rfl|rfl
       ·exact(hE.dN).aQ eG eW
       ·exact(hE.h2).aQ eG eW) (fun _ _ _ _ hj=>hj)
      replace hE:=((((((((((((((((((Env.again (Go.Proofs.YtclbiihcbfnjmaaGreat.Below.aQ hE.ax eG eW Kv (ay Kv (hE.g16).size))).ag ((hE.g17).aQ eG eW (by decide))).kept ((hE.g16).aQ eG eW)).fv ((hE.g15).aQ eG eW)).ag ((hE.g14).aQ eG eW (by decide))).fv ((hE.dN).aQ eG eW)).ag ((hE.h12).aQ eG eW (by decide))).ag ((hE.h11).aQ eG eW (by decide))).gF (.inr ⟨gr,cap,rfl,eE,qI⟩)).bP FQ).fv ((hE.h8).aQ eG eW)).ag ((hE.h7).aQ eG eW (by decide))).fv ((hE.h6).aQ eG eW)).ag ((hE.h5).aQ eG eW (by decide))).fv ((hE.h4).aQ eG eW)).ag ((hE.h3).aQ eG eW (by decide))).fv ((hE.h2).aQ eG eW)).ag ((hE.g1).aQ eG eW (by decide)));clear FQ qI;refine Eq.mpr (if_pos (by rfl)) ?_;refine qO (s:= .tmp 53) (x:= .tmp 57) rfl rfl rfl hrun ?_;clear hrun eG eW;refine hK.out _ _ (hE.h11.j4 hE.g0.c4) (fun hHeld=> ?_);clear hK K;try simp only[PL]
      refine tk 10 ?_;refine tk 11 ?_;refine r1 12 (fun K hK=> ?_)
      have Zd:w.heap.size<=Bp:=by omega
      obtain⟨af0,af1,af2,af3,af4,af5,af6,af7,af8,af9⟩:=(hE.g16).cB;have f90:=(hE.g16).frozen 9;replace hE:=((((((((((((((((((Env.again (hE.ax.setCell (p:=⟨Bp,9,none⟩) Zd (.slice (some ⟨gr,0,none⟩) (k+1) cap))).ag (show au 133 Bp #[.int .i64 F,.int .i64 S,.slice A n c,.bool si,.slice Ai ni ci,.bool ti,.slice Bi mi di,.int .i64 E,.int .i64 Y,.slice (some ⟨gr,0,none⟩) (k+1) cap] _ by simpa using(hE.g16).dZ 9 (.slice (some ⟨gr,0,none⟩) (k+1) cap))).kept ((hE.g15).KB (by first|exact .inr rfl|exact .inl (by omega)) 9 (.slice (some ⟨gr,0,none⟩) (k+1) cap))).fv ((hE.g14).sep (i:=9) (hE.g16) (by simpa [aP] using nK) (.slice (some ⟨gr,0,none⟩) (k+1) cap))).ag ((hE.dN).far (p:=⟨Bp,9,none⟩) (by first|omega|(simp;omega)) (.slice (some ⟨gr,0,none⟩) (k+1) cap))).fv ((hE.h12).sep (i:=9) (hE.g16) (by simpa [aP] using nK) (.slice (some ⟨gr,0,none⟩) (k+1) cap))).ag ((hE.h11).far (p:=⟨Bp,9,none⟩) (by first|omega|(simp;omega)) (.slice (some ⟨gr,0,none⟩) (k+1) cap))).ag ((hE.h10).far (p:=⟨Bp,9,none⟩) (by first|omega|(simp;omega)) (.slice (some ⟨gr,0,none⟩) (k+1) cap))).gF ((hE.h9).far (hE.g16) (by decide) 9 (.slice (some ⟨gr,0,none⟩) (k+1) cap))).bP ((hE.h8).KC (hE.g16) (by simpa [aP] using nK) 9 (.slice (some ⟨gr,0,none⟩) (k+1) cap))).fv ((hE.h7).sep (i:=9) (hE.g16) (by simpa [aP] using nK) (.slice (some ⟨gr,0,none⟩) (k+1) cap))).ag ((hE.h6).far (p:=⟨Bp,9,none⟩) (by first|omega|(simp;omega)) (.slice (some ⟨gr,0,none⟩) (k+1) cap))).fv ((hE.h5).sep (i:=9) (hE.g16) (by simpa [aP] using nK) (.slice (some ⟨gr,0,none⟩) (k+1) cap))).ag ((hE.h4).far (p:=⟨Bp,9,none⟩) (by first|omega|(simp;omega)) (.slice (some ⟨gr,0,none⟩) (k+1) cap))).fv ((hE.h3).sep (i:=9) (hE.g16) (by simpa [aP] using nK) (.slice (some ⟨gr,0,none⟩) (k+1) cap))).ag ((hE.h2).far (p:=⟨Bp,9,none⟩) (by first|omega|(simp;omega)) (.slice (some ⟨gr,0,none⟩) (k+1) cap))).fv ((hE.g1).sep (i:=9) (hE.g16) (by simpa [aP] using nK) (.slice (some ⟨gr,0,none⟩) (k+1) cap))).ag ((hE.g0).far (p:=⟨Bp,9,none⟩) (by first|omega|(simp;omega)) (.slice (some ⟨gr,0,none⟩) (k+1) cap)));go_simp;clear af0 af1 af2 af3 af4 af5 af6 af7 af8 af9 f90 Zd;generalize wa.setCell ⟨Bp,9,none⟩ (.slice (some ⟨gr,0,none⟩) (k+1) cap)=W90 at hE⊢
      refine hK.out _ _ (hE.h11.j4 hE.g0.c4) (fun hHeld=> ?_);clear hK K;try simp only[PL]
      refine aX (by kernel_rfl) ?_ _;go_wp2_with fail
      go_meet
      exact⟨_,_,_,rfl,((((((((((((((((((Env.again hE.ax).ag (hE.g16)).kept (hE.g15)).fv (hE.g14)).ag (hE.dN)).fv (hE.h12)).ag (hE.h11)).ag (hE.h10)).gF (hE.h9)).bP (hE.h8)).fv (hE.h7)).ag (hE.h6)).fv (hE.h5)).ag (hE.h4)).fv (hE.h3)).ag (hE.h2)).fv (hE.g1)).ag (hE.g0))⟩
    case rest=>
    clear hE;obtain⟨gr,cap,hn,rfl,hE⟩:=hcut;generalize wc=aga at hE⊢
    go_upto_region 12 with(fail)
    obtain⟨k91,k92,k93,k94⟩:=(hE.h2).c4;obtain⟨k95,k96,k97,k98⟩:=(hE.g0).c4;go_wp2_with fail
    refine hE.fr (CD (ca:=cx) (da:=dx) (cb:=cy) (db:=dy) hE.h3 hE.g1 (Ku.out k hk) (Ua.out k Uf) (TZ.out (k+1) Uf)) ?_;clear hE k91 k92 k93 k94 k95 k96 k97 k98;intro sh Ah nh ch th Bh mh dh w99 hE
    have MZ:w.heap.size<=g14:=by omega
    obtain⟨aaF,aaG,aaH,aaI⟩:=(hE.h12).c4;obtain⟨aaJ,aaK,aaL,aaM⟩:=hE.h12.f4;replace hE:=(((((((((((((((((((Env.again (bW hE.ax MZ (.bool sh) (.slice Ah nh ch) (.bool th) (.slice Bh mh dh))).ag ((hE.g17).aj (by omega) _ _ _ _)).kept ((hE.g16).cQ (by first|exact .inr rfl|exact .inl (by omega)) _ _ _ _)).fv ((hE.g15).ak hE.h12 rfl _ _ _ _ rfl rfl rfl)).ag ((hE.g14).aj (by omega) _ _ _ _)).fv ((hE.dN).ak hE.h12 rfl _ _ _ _ rfl rfl rfl)).ag ((hE.h12).s4 _ _ _ _)).ag ((hE.h11).aj (by omega) _ _ _ _)).gF ((hE.h10).aj (hE.h12) (by decide) _ _ _ _)).bP ((hE.h9).ak (hE.h12) rfl _ _ _ _ rfl rfl rfl)).fv ((hE.h8).ak hE.h12 rfl _ _ _ _ rfl rfl rfl)).ag ((hE.h7).aj (by omega) _ _ _ _)).fv ((hE.h6).ak hE.h12 rfl _ _ _ _ rfl rfl rfl)).ag ((hE.h5).aj (by omega) _ _ _ _)).fv ((hE.h4).ak hE.h12 rfl _ _ _ _ rfl rfl rfl)).ag ((hE.h3).aj (by omega) _ _ _ _)).fv ((hE.h2).ak hE.h12 rfl _ _ _ _ rfl rfl rfl)).ag ((hE.g1).aj (by omega) _ _ _ _)).fv ((hE.g0).ak hE.h12 rfl _ _ _ _ rfl rfl rfl))
    go_upto_region 13 with(fail)
    clear aaF aaG aaH aaI aaJ aaK aaL aaM MZ;generalize ((((w99.setCell ⟨g14,0,none⟩ (.bool sh)).setCell ⟨g14,1,none⟩ (.slice Ah nh ch)).setCell ⟨g14,2,none⟩ (.bool th)).setCell ⟨g14,3,none⟩ (.slice Bh mh dh))=agb at hE⊢;obtain⟨alG,alH⟩:=(hE.h11).c2
    go_upto_region 4 with(fail)
    clear alG alH
    obtain⟨jD,nD⟩:∃jD,jD=agb.heap.size:=⟨_,rfl⟩
    have akj:Bp<jD:=by rw[nD];exact(hE.g17).lt
    have aqt:u.heap.size<=jD:=by rw[nD];exact(hE.g16).size
    have akk:g12<jD:=by rw[nD];exact(hE.g14).lt
    have akl:g14<jD:=by rw[nD];exact(hE.h12).lt
    have akm:gx<jD:=by rw[nD];exact(hE.h11).lt
    have agc:jr<jD:=by rw[nD];exact(hE.h7).lt
    have agd:G6<jD:=by rw[nD];exact(hE.h5).lt
    have age:FP<jD:=by rw[nD];exact(hE.h3).lt
    have agf:xN<jD:=by rw[nD];exact(hE.g1).lt
    replace hE:=hE.blk 33 #[.int .i64 E,.int .i64 yr] (g:=jD) nD.symm;generalize agb.alloc (.cells #[.int .i64 E,.int .i64 yr] 33)=alI at hE⊢;rw[<-nD];clear nD;have o1:=Iy FJ.out Ue.out (by omega)
    have Na:w.heap.size<=jD:=by omega
    obtain⟨aaN,aaO⟩:=(hE.g0).c2;have f104:=(hE.g0).frozen 1;replace hE:=((((((((((((((((((((Env.again (hE.ax.setCell (p:=⟨jD,1,none⟩) Na (.int .i64 (yr+1)))).ag ((hE.g18).far (p:=⟨jD,1,none⟩) (by first|omega|(simp;omega)) (.int .i64 (yr+1)))).kept ((hE.g17).KB (by first|exact .inr rfl|exact .inl (by omega)) 1 (.int .i64 (yr+1)))).fv ((hE.g16).sep (i:=1) (hE.g0) rfl (.int .i64 (yr+1)))).ag ((hE.g15).far (p:=⟨jD,1,none⟩) (by first|omega|(simp;omega)) (.int .i64 (yr+1)))).fv ((hE.g14).sep (i:=1) (hE.g0) rfl (.int .i64 (yr+1)))).ag ((hE.dN).far (p:=⟨jD,1,none⟩) (by first|omega|(simp;omega)) (.int .i64 (yr+1)))).ag ((hE.h12).far (p:=⟨jD,1,none⟩) (by first|omega|(simp;omega)) (.int .i64 (yr+1)))).gF ((hE.h11).far (hE.g0) (by decide) 1 (.int .i64 (yr+1)))).bP ((hE.h10).KC (hE.g0) rfl 1 (.int .i64 (yr+1)))).fv ((hE.h9).sep (i:=1) (hE.g0) rfl (.int .i64 (yr+1)))).ag ((hE.h8).far (p:=⟨jD,1,none⟩) (by first|omega|(simp;omega)) (.int .i64 (yr+1)))).fv ((hE.h7).sep (i:=1) (hE.g0) rfl (.int .i64 (yr+1)))).ag ((hE.h6).far (p:=⟨jD,1,none⟩) (by first|omega|(simp;omega)) (.int .i64 (yr+1)))).fv ((hE.h5).sep (i:=1) (hE.g0) rfl (.int .i64 (yr+1)))).ag ((hE.h4).far (p:=⟨jD,1,none⟩) (by first|omega|(simp;omega)) (.int .i64 (yr+1)))).fv ((hE.h3).sep (i:=1) (hE.g0) rfl (.int .i64 (yr+1)))).ag ((hE.h2).far (p:=⟨jD,1,none⟩) (by first|omega|(simp;omega)) (.int .i64 (yr+1)))).fv ((hE.g1).sep (i:=1) (hE.g0) rfl (.int .i64 (yr+1)))).ag (show au 33 jD #[.int .i64 E,.int .i64 (yr+1)] _ by simpa using(hE.g0).dZ 1 (.int .i64 (yr+1))));go_wp2_with fail
    clear aaN aaO f104 Na;generalize alI.setCell ⟨jD,1,none⟩ (.int .i64 (yr+1))=arq at hE⊢;clear o1
    go_roundw
    case rel=>
     exact⟨k+1,jD,yr+1,_,_,_,_,_,_,_,_,_,_,by omega,by have:=Ue.out;omega,rfl,by omega,((((((((((Env.again hE.ax).ag (hE.g18)).kept (hE.g17)).fv (hE.g16)).ag (hE.g15)).fv (hE.g1)).ag (hE.dN)).ag (hE.g0)).gF (hE.h11)).bP (hE.h10))⟩
    case measure=>
     rw[oJ (hE.g0),oJ HX.out];have:=Ue.out;omega
   ·
    have HR2:=af (KE (F:=F) (S:=S) (E:=E) (n:=n) (r:=r) aaC);have Hfk:Hid (((1:Int):Rat)=f k):=af (by rw[YW.out];exact Uh FJ.out Ue.out aaC)
    go_cut [6,7] from 30 to 40 (fun p0 p1 wx=>∃G6,p0= .pointer (some ⟨G6,0,none⟩)/\p1= .int .i64 2/\jr<G6/\Env w (fun V=>((((((((((((True/\au 133 (Bp) #[.int .i64 F,.int .i64 S,.slice A n c,.bool si,.slice Ai ni ci,.bool ti,.slice Bi mi di,.int .i64 E,.int .i64 Y,cs0] V)/\Kept u Bp V)/\FV V v sv Av nv tv Bv mv)/\au 29 (g12) (az sv Av nv cv tv Bv mv dv) V)/\FV V (dd v f k) sz Az nz tz Bz mz)/\au 29 (g14) (az sz Az nz cz tz Bz mz dz) V)/\au 33 (gx) #[.int .i64 E,.int .i64 yr] V)/\fY u.heap.size cs0 k h V)/\cK h k (fun _ j=>j=0\/j=3) (bP v f N) V)/\FV V ((1:Int):Rat) sa Aa na ta Ba ma)/\au 29 (jr) (az sa Aa na ca ta Ba ma da) V)/\au 29 (G6) aW V)) wx)
    case first=>
     replace hE:=hE.drew;refine bH (S:=fun w'=>w'.cell? ⟨Bp,0,none⟩=some (.int .i64 F)/\w'.cell? ⟨Bp,1,none⟩=some (.int .i64 S)/\w'.cell? ⟨Bp,2,none⟩=some (.slice A n c)/\w'.cell? ⟨Bp,3,none⟩=some (.bool si)/\w'.cell? ⟨Bp,4,none⟩=some (.slice Ai ni ci)/\w'.cell? ⟨Bp,5,none⟩=some (.bool ti)/\w'.cell? ⟨Bp,6,none⟩=some (.slice Bi mi di)/\w'.cell? ⟨Bp,7,none⟩=some (.int .i64 E)/\w'.cell? ⟨Bp,8,none⟩=some (.int .i64 Y)/\w'.cell? ⟨Bp,9,none⟩=some (cs0)/\w'.cell? ⟨gx,0,none⟩=some (.int .i64 E)/\w'.cell? ⟨gx,1,none⟩=some (.int .i64 yr)) (by kernel_rfl) (⟨(hE.h10).cB.1,(hE.h10).cB.2.1,(hE.h10).cB.2.2.1,(hE.h10).cB.2.2.2.1,(hE.h10).cB.2.2.2.2.1,(hE.h10).cB.2.2.2.2.2.1,(hE.h10).cB.2.2.2.2.2.2.1,(hE.h10).cB.2.2.2.2.2.2.2.1,(hE.h10).cB.2.2.2.2.2.2.2.2.1,(hE.h10).cB.2.2.2.2.2.2.2.2.2,(hE.h4).c2.1,(hE.h4).c2.2⟩) (fun hHeld=> ?_)
     generalize Ug.drew=wd at*
     refine tk 0 ?_;refine tk 1 ?_;refine tk 2 ?_;refine tk 3 ?_;refine tk 4 ?_;refine tk 5 ?_;refine cC (rs:=[6,10]) (by kernel_rfl) (by simp) (bq rfl (fun K hK=> ?_) (bq rfl (fun K hK=> ?_) (cD)))
     ·
      go_simp;refine hE.br (xO (c:=c) (Co.out.below hE.ax) TG.out HR2.out) ?_;clear hE;intro agh hE;go_wp2_with fail
      refine hK.out _ _ (⟨(hE.h10).cB.1,(hE.h10).cB.2.1,(hE.h10).cB.2.2.1,(hE.h10).cB.2.2.2.1,(hE.h10).cB.2.2.2.2.1,(hE.h10).cB.2.2.2.2.2.1,(hE.h10).cB.2.2.2.2.2.2.1,(hE.h10).cB.2.2.2.2.2.2.2.1,(hE.h10).cB.2.2.2.2.2.2.2.2.1,(hE.h10).cB.2.2.2.2.2.2.2.2.2,(hE.h4).c2.1,(hE.h4).c2.2⟩) (fun hHeld=> ?_);clear hK K;try simp only[PL]
      refine tk 7 ?_;refine tk 8 ?_;refine tk 9 ?_;refine r1 10 (fun K hK=> ?_);go_simp
      obtain⟨pR,qP⟩:∃pR,pR=agh.heap.size:=⟨_,rfl⟩
      have akn:Bp<pR:=by rw[qP];exact(hE.h10).lt
      have aqu:u.heap.size<=pR:=by rw[qP];exact(hE.h9).size
      have ako:g12<pR:=by rw[qP];exact(hE.h7).lt
      have akp:g14<pR:=by rw[qP];exact(hE.h5).lt
      have akq:gx<pR:=by rw[qP];exact(hE.h4).lt
      have agi:jr<pR:=by rw[qP];exact(hE.g0).lt
      replace hE:=hE.blk 29 aW (g:=pR) qP.symm;generalize agh.alloc (.cells aW 29)=alJ at hE⊢;rw[<-qP];clear qP;refine hK.out _ _ (⟨(hE.h11).cB.1,(hE.h11).cB.2.1,(hE.h11).cB.2.2.1,(hE.h11).cB.2.2.2.1,(hE.h11).cB.2.2.2.2.1,(hE.h11).cB.2.2.2.2.2.1,(hE.h11).cB.2.2.2.2.2.2.1,(hE.h11).cB.2.2.2.2.2.2.2.1,(hE.h11).cB.2.2.2.2.2.2.2.2.1,(hE.h11).cB.2.2.2.2.2.2.2.2.2,(hE.h5).c2.1,(hE.h5).c2.2⟩) (fun hHeld=> ?_);clear hK K;try simp only[PL]
      refine r1 11 (fun K hK=> ?_)
      have Nb:w.heap.size<=pR:=by omega
      obtain⟨aaP,aaQ,aaR,aaS⟩:=(hE.g0).c4;obtain⟨aaT,aaU,aaV,aaW⟩:=hE.g0.f4;replace hE:=(((((((((((((Env.again (bW hE.ax Nb (.bool false) (.slice none 0 0) (.bool false) (.slice none 0 0))).ag ((hE.h11).aj (by omega) _ _ _ _)).kept ((hE.h10).cQ (by first|exact .inr rfl|exact .inl (by omega)) _ _ _ _)).fv ((hE.h9).ak hE.g0 rfl _ _ _ _ rfl rfl rfl)).ag ((hE.h8).aj (by omega) _ _ _ _)).fv ((hE.h7).ak hE.g0 rfl _ _ _ _ rfl rfl rfl)).ag ((hE.h6).aj (by omega) _ _ _ _)).ag ((hE.h5).aj (by omega) _ _ _ _)).gF ((hE.h4).aj (hE.g0) (by decide) _ _ _ _)).bP ((hE.h3).ak (hE.g0) rfl _ _ _ _ rfl rfl rfl)).fv ((hE.h2).ak hE.g0 rfl _ _ _ _ rfl rfl rfl)).ag ((hE.g1).aj (by omega) _ _ _ _)).ag ((hE.g0).s4 _ _ _ _));go_simp;clear aaP aaQ aaR aaS aaT aaU aaV aaW Nb;generalize ((((alJ.setCell ⟨pR,0,none⟩ (.bool false)).setCell ⟨pR,1,none⟩ (.slice none 0 0)).setCell ⟨pR,2,none⟩ (.bool false)).setCell ⟨pR,3,none⟩ (.slice none 0 0))=ars at hE⊢;refine hK.out _ _ (⟨(hE.h11).cB.1,(hE.h11).cB.2.1,(hE.h11).cB.2.2.1,(hE.h11).cB.2.2.2.1,(hE.h11).cB.2.2.2.2.1,(hE.h11).cB.2.2.2.2.2.1,(hE.h11).cB.2.2.2.2.2.2.1,(hE.h11).cB.2.2.2.2.2.2.2.1,(hE.h11).cB.2.2.2.2.2.2.2.2.1,(hE.h11).cB.2.2.2.2.2.2.2.2.2,(hE.h5).c2.1,(hE.h5).c2.2⟩) (fun hHeld=> ?_);clear hK K;try simp only[PL]
      refine tk 12 ?_;refine aX (by kernel_rfl) ?_ _;go_wp2_with fail
      go_meet
      exact⟨pR,rfl,rfl,by omega,(((((((((((((Env.again hE.ax).ag (hE.h11)).kept (hE.h10)).fv (hE.h9)).ag (hE.h8)).fv (hE.h7)).ag (hE.h6)).ag (hE.h5)).gF (hE.h4)).bP (hE.h3)).fv (hE.h2)).ag (hE.g1)).ag (hE.g0))⟩
     ·
      go_simp
      obtain⟨pS,qQ⟩:∃pS,pS=wd.heap.size:=⟨_,rfl⟩
      have akr:Bp<pS:=by rw[qQ];exact(hE.h10).lt
      have aqv:u.heap.size<=pS:=by rw[qQ];exact(hE.h9).size
      have aks:g12<pS:=by rw[qQ];exact(hE.h7).lt
      have akt:g14<pS:=by rw[qQ];exact(hE.h5).lt
      have aku:gx<pS:=by rw[qQ];exact(hE.h4).lt
      have agj:jr<pS:=by rw[qQ];exact(hE.g0).lt
      replace hE:=hE.blk 29 aW (g:=pS) qQ.symm;generalize wd.alloc (.cells aW 29)=art at hE⊢;rw[<-qQ];clear qQ;refine hK.out _ _ (⟨(hE.h11).cB.1,(hE.h11).cB.2.1,(hE.h11).cB.2.2.1,(hE.h11).cB.2.2.2.1,(hE.h11).cB.2.2.2.2.1,(hE.h11).cB.2.2.2.2.2.1,(hE.h11).cB.2.2.2.2.2.2.1,(hE.h11).cB.2.2.2.2.2.2.2.1,(hE.h11).cB.2.2.2.2.2.2.2.2.1,(hE.h11).cB.2.2.2.2.2.2.2.2.2,(hE.h5).c2.1,(hE.h5).c2.2⟩) (fun hHeld=> ?_);clear hK K;try simp only[PL]
      refine r1 6 (fun K hK=> ?_);go_simp;refine hE.br (xO (c:=c) (Co.out.below hE.ax) TG.out HR2.out) ?_;clear hE;intro alK hE;go_wp2_with fail
      refine hK.out _ _ (⟨(hE.h11).cB.1,(hE.h11).cB.2.1,(hE.h11).cB.2.2.1,(hE.h11).cB.2.2.2.1,(hE.h11).cB.2.2.2.2.1,(hE.h11).cB.2.2.2.2.2.1,(hE.h11).cB.2.2.2.2.2.2.1,(hE.h11).cB.2.2.2.2.2.2.2.1,(hE.h11).cB.2.2.2.2.2.2.2.2.1,(hE.h11).cB.2.2.2.2.2.2.2.2.2,(hE.h5).c2.1,(hE.h5).c2.2⟩) (fun hHeld=> ?_);clear hK K;try simp only[PL]
      refine tk 7 ?_;refine tk 8 ?_;refine tk 9 ?_;refine r1 11 (fun K hK=> ?_)
      have Nc:w.heap.size<=pS:=by omega
      obtain⟨aaX,aaY,aaZ,aa0⟩:=(hE.g0).c4;obtain⟨aa1,aa2,aa3,aa4⟩:=hE.g0.f4;replace hE:=(((((((((((((Env.again (bW hE.ax Nc (.bool false) (.slice none 0 0) (.bool false) (.slice none 0 0))).ag ((hE.h11).aj (by omega) _ _ _ _)).kept ((hE.h10).cQ (by first|exact .inr rfl|exact .inl (by omega)) _ _ _ _)).fv ((hE.h9).ak hE.g0 rfl _ _ _ _ rfl rfl rfl)).ag ((hE.h8).aj (by omega) _ _ _ _)).fv ((hE.h7).ak hE.g0 rfl _ _ _ _ rfl rfl rfl)).ag ((hE.h6).aj (by omega) _ _ _ _)).ag ((hE.h5).aj (by omega) _ _ _ _)).gF ((hE.h4).aj (hE.g0) (by decide) _ _ _ _)).bP ((hE.h3).ak (hE.g0) rfl _ _ _ _ rfl rfl rfl)).fv ((hE.h2).ak hE.g0 rfl _ _ _ _ rfl rfl rfl)).ag ((hE.g1).aj (by omega) _ _ _ _)).ag ((hE.g0).s4 _ _ _ _));go_simp;clear aaX aaY aaZ aa0 aa1 aa2 aa3 aa4 Nc;generalize ((((alK.setCell ⟨pS,0,none⟩ (.bool false)).setCell ⟨pS,1,none⟩ (.slice none 0 0)).setCell ⟨pS,2,none⟩ (.bool false)).setCell ⟨pS,3,none⟩ (.slice none 0 0))=aru at hE⊢;refine hK.out _ _ (⟨(hE.h11).cB.1,(hE.h11).cB.2.1,(hE.h11).cB.2.2.1,(hE.h11).cB.2.2.2.1,(hE.h11).cB.2.2.2.2.1,(hE.h11).cB.2.2.2.2.2.1,(hE.h11).cB.2.2.2.2.2.2.1,(hE.h11).cB.2.2.2.2.2.2.2.1,(hE.h11).cB.2.2.2.2.2.2.2.2.1,(hE.h11).cB.2.2.2.2.2.2.2.2.2,(hE.h5).c2.1,(hE.h5).c2.2⟩) (fun hHeld=> ?_);clear hK K;try simp only[PL]
      refine tk 12 ?_;refine aX (by kernel_rfl) ?_ _;go_wp2_with fail
      go_meet
      exact⟨pS,rfl,rfl,by omega,(((((((((((((Env.again hE.ax).ag (hE.h11)).kept (hE.h10)).fv (hE.h9)).ag (hE.h8)).fv (hE.h7)).ag (hE.h6)).ag (hE.h5)).gF (hE.h4)).bP (hE.h3)).fv (hE.h2)).ag (hE.g1)).ag (hE.g0))⟩
    case rest=>
    clear hE;obtain⟨G6,rfl,rfl,hG6,hE⟩:=hcut;generalize wc=wk6 at hE⊢
    go_upto_region 7 with(fail)
    go_upto_region 9 with(fail)
    have qJ:=hE.h2;rw[Hfk.out] at qJ;replace hE:=hE.fv qJ;clear qJ;obtain⟨alL,alM,alN,alO⟩:=(hE.h9).c4;obtain⟨alP,alQ,alR,alS⟩:=(hE.h7).c4;go_wp2_with fail
    refine hE.fr (qN (ca:=cv) (da:=dv) (cb:=cz) (db:=dz) hE.h10 hE.h8 Uc.out (TZ.out k hk) (Ku.out k hk)) ?_;clear hE alL alM alN alO alP alQ alR alS;intro sx Ax nx cx tx Bx mx dx agk hE
    go_upto_region 10 with(fail)
    obtain⟨pT,pN⟩:∃pT,pT=agk.heap.size:=⟨_,rfl⟩
    have akv:Bp<pT:=by rw[pN];exact(hE.dN).lt
    have aqw:u.heap.size<=pT:=by rw[pN];exact(hE.h12).size
    have akw:g12<pT:=by rw[pN];exact(hE.h10).lt
    have akx:g14<pT:=by rw[pN];exact(hE.h8).lt
    have aky:gx<pT:=by rw[pN];exact(hE.h7).lt
    have agl:jr<pT:=by rw[pN];exact(hE.h3).lt
    have agm:G6<pT:=by rw[pN];exact(hE.h2).lt
    replace hE:=hE.blk 29 (az sx Ax nx cx tx Bx mx dx) (g:=pT) pN.symm;generalize agk.alloc (.cells (az sx Ax nx cx tx Bx mx dx) 29)=arv at hE⊢;rw[<-pN];clear pN;obtain⟨alT,alU,alV,alW⟩:=(hE.g0).c4;obtain⟨alX,alY,alZ,al0⟩:=(hE.h4).c4;go_wp2_with fail
    refine hE.fr (qN (ca:=cx) (da:=dx) (cb:=ca) (db:=da) hE.g1 hE.h2 (Ku.out k hk) (Ub.out k Uf) (Ua.out k Uf)) ?_;clear hE alT alU alV alW alX alY alZ al0;intro sy Ay ny cy ty By my dy agn hE
    go_upto_region 11 with(fail)
    obtain⟨kW,nZ⟩:∃kW,kW=agn.heap.size:=⟨_,rfl⟩
    have akz:Bp<kW:=by rw[nZ];exact(hE.g15).lt
    have aqx:u.heap.size<=kW:=by rw[nZ];exact(hE.g14).size
    have akA:g12<kW:=by rw[nZ];exact(hE.h12).lt
    have akB:g14<kW:=by rw[nZ];exact(hE.h10).lt
    have akC:gx<kW:=by rw[nZ];exact(hE.h9).lt
    have agp:jr<kW:=by rw[nZ];exact(hE.h5).lt
    have agq:G6<kW:=by rw[nZ];exact(hE.h4).lt
    have agr:pT<kW:=by rw[nZ];exact(hE.g1).lt
    replace hE:=hE.blk 29 (az sy Ay ny cy ty By my dy) (g:=kW) nZ.symm;generalize agn.alloc (.cells (az sy Ay ny cy ty By my dy) 29)=al1 at hE⊢;rw[<-nZ];clear nZ
    go_cut [9] from 49 to 61 (fun p wx=>∃(gr cap:Nat) (hn:Nat->Nat->Q8),p= .pointer (some ⟨kW,0,none⟩)/\Env w (fun V=>(((((((((((((((((True/\au 133 (Bp) #[.int .i64 F,.int .i64 S,.slice A n c,.bool si,.slice Ai ni ci,.bool ti,.slice Bi mi di,.int .i64 E,.int .i64 Y,.slice (some ⟨gr,0,none⟩) (k+1) cap] V)/\Kept u Bp V)/\FV V v sv Av nv tv Bv mv)/\au 29 (g12) (az sv Av nv cv tv Bv mv dv) V)/\FV V (dd v f k) sz Az nz tz Bz mz)/\au 29 (g14) (az sz Az nz cz tz Bz mz dz) V)/\au 33 (gx) #[.int .i64 E,.int .i64 yr] V)/\fY u.heap.size (.slice (some ⟨gr,0,none⟩) (k+1) cap) (k+1) hn V)/\cK hn (k+1) (fun _ j=>j=0\/j=3) (bP v f N) V)/\FV V ((1:Int):Rat) sa Aa na ta Ba ma)/\au 29 (jr) (az sa Aa na ca ta Ba ma da) V)/\au 29 (G6) aW V)/\FV V (f k) sa Aa na ta Ba ma)/\FV V (v*dd v f k) sx Ax nx tx Bx mx)/\au 29 (pT) (az sx Ax nx cx tx Bx mx dx) V)/\FV V (v*dd v f k*f k) sy Ay ny ty By my)/\au 29 (kW) (az sy Ay ny cy ty By my dy) V)) wx)
    case first=>
     replace hE:=hE.drew;refine bH (S:=fun w'=>w'.cell? ⟨g14,0,none⟩=some (.bool sz)/\w'.cell? ⟨g14,1,none⟩=some (.slice Az nz cz)/\w'.cell? ⟨g14,2,none⟩=some (.bool tz)/\w'.cell? ⟨g14,3,none⟩=some (.slice Bz mz dz)/\w'.cell? ⟨kW,0,none⟩=some (.bool sy)/\w'.cell? ⟨kW,1,none⟩=some (.slice Ay ny cy)/\w'.cell? ⟨kW,2,none⟩=some (.bool ty)/\w'.cell? ⟨kW,3,none⟩=some (.slice By my dy)) (by kernel_rfl) (hE.h11.j4 hE.g0.c4) (fun hHeld=> ?_)
     generalize al1.drew=wd at*
     refine tk 0 ?_;refine tk 1 ?_;refine tk 2 ?_;refine tk 3 ?_;refine tk 5 ?_;refine tk 6 ?_;refine tk 7 ?_;refine cC (rs:=[4,8]) (by kernel_rfl) (by simp) (bq rfl (fun K hK=> ?_) (bq rfl (fun K hK=> ?_) (cD)))
     ·
      obtain⟨al2,al3,al4,al5,al6,al7,al8,al9,ama,amb⟩:=(hE.g16).cB;go_simp;clear al2 al3 al4 al5 al6 al7 al8 al9 ama amb;refine hK.out _ _ (hE.h11.j4 hE.g0.c4) (fun hHeld=> ?_);clear hK K;try simp only[PL]
      refine r1 8 (fun K hK=> ?_);go_simp
      obtain⟨rW,nE⟩:∃rW,rW=wd.heap.size:=⟨_,rfl⟩
      have akD:Bp<rW:=by rw[nE];exact(hE.g16).lt
      have aqy:u.heap.size<=rW:=by rw[nE];exact(hE.g15).size
      have akE:g12<rW:=by rw[nE];exact(hE.dN).lt
      have akF:g14<rW:=by rw[nE];exact(hE.h11).lt
      have akG:gx<rW:=by rw[nE];exact(hE.h10).lt
      have ags:jr<rW:=by rw[nE];exact(hE.h6).lt
      have agt:G6<rW:=by rw[nE];exact(hE.h5).lt
      have agu:pT<rW:=by rw[nE];exact(hE.h2).lt
      have agv:kW<rW:=by rw[nE];exact(hE.g0).lt
      replace hE:=hE.blk 98 #[.bool sz,.slice Az nz cz,.bool tz,.slice Bz mz dz,.bool false,.slice none 0 0,.bool false,.slice none 0 0,.bool false,.slice none 0 0,.bool false,.slice none 0 0,.bool sy,.slice Ay ny cy,.bool ty,.slice By my dy,.bool false,.slice none 0 0,.bool false,.slice none 0 0,.bool false,.slice none 0 0,.bool false,.slice none 0 0] (g:=rW) nE.symm;generalize wd.alloc (.cells #[.bool sz,.slice Az nz cz,.bool tz,.slice Bz mz dz,.bool false,.slice none 0 0,.bool false,.slice none 0 0,.bool false,.slice none 0 0,.bool false,.slice none 0 0,.bool sy,.slice Ay ny cy,.bool ty,.slice By my dy,.bool false,.slice none 0 0,.bool false,.slice none 0 0,.bool false,.slice none 0 0,.bool false,.slice none 0 0] 98)=arw at hE⊢;rw[<-nE];clear nE;refine hK.out _ _ (hE.h12.j4 hE.g1.c4) (fun hHeld=> ?_);clear hK K;try simp only[PL]
      refine r1 9 (fun K hK=> ?_);have eG:=hE.h10;have nK:=eG.KA;obtain⟨gr,cap,wa,hrun,eE,qI,eW⟩:=mA 43 eG (hE.g16).size ⟨rW,0,none⟩ 1 (xg ⟨sz,Az,nz,cz,tz,Bz,mz,dz⟩ ⟨sy,Ay,ny,cy,ty,By,my,dy⟩) (zn (d:=⟨sz,Az,nz,cz,tz,Bz,mz,dz⟩) (c:=⟨sy,Ay,ny,cy,ty,By,my,dy⟩) (hE.g0)) (by omega)
      have FQ:cK (fun k'=>if k'=k then xg ⟨sz,Az,nz,cz,tz,Bz,mz,dz⟩ ⟨sy,Ay,ny,cy,ty,By,my,dy⟩ else h k') (k+1) (fun _ j=>j=0\/j=3) (bP v f N) wa:=cK.snoc (hE.h9|>.to fun hf=>hf.aQ eG eW) (fun j _ hj=>by
       rcases hj with rfl|rfl
       ·exact(hE.dN).aQ eG eW
       ·exact(hE.h2).aQ eG eW) (fun _ _ _ _ hj=>hj)
      replace hE:=((((((((((((((((((Env.again (Go.Proofs.YtclbiihcbfnjmaaGreat.Below.aQ hE.ax eG eW Kv (ay Kv (hE.g16).size))).ag ((hE.g17).aQ eG eW (by decide))).kept ((hE.g16).aQ eG eW)).fv ((hE.g15).aQ eG eW)).ag ((hE.g14).aQ eG eW (by decide))).fv ((hE.dN).aQ eG eW)).ag ((hE.h12).aQ eG eW (by decide))).ag ((hE.h11).aQ eG eW (by decide))).gF (.inr ⟨gr,cap,rfl,eE,qI⟩)).bP FQ).fv ((hE.h8).aQ eG eW)).ag ((hE.h7).aQ eG eW (by decide))).ag ((hE.h6).aQ eG eW (by decide))).fv ((hE.h5).aQ eG eW)).fv ((hE.h4).aQ eG eW)).ag ((hE.h3).aQ eG eW (by decide))).fv ((hE.h2).aQ eG eW)).ag ((hE.g1).aQ eG eW (by decide)));clear FQ qI;refine Eq.mpr (if_pos (by rfl)) ?_;refine qO (s:= .tmp 53) (x:= .tmp 57) rfl rfl rfl hrun ?_;clear hrun eG eW;refine hK.out _ _ (hE.h11.j4 hE.g0.c4) (fun hHeld=> ?_);clear hK K;try simp only[PL]
      refine tk 10 ?_;refine tk 11 ?_;refine r1 12 (fun K hK=> ?_)
      have Nd:w.heap.size<=Bp:=by omega
      obtain⟨aa5,aa6,aa7,aa8,aa9,abb,abd,abe,abf,abg⟩:=(hE.g16).cB;have f142:=(hE.g16).frozen 9;replace hE:=((((((((((((((((((Env.again (hE.ax.setCell (p:=⟨Bp,9,none⟩) Nd (.slice (some ⟨gr,0,none⟩) (k+1) cap))).ag (show au 133 Bp #[.int .i64 F,.int .i64 S,.slice A n c,.bool si,.slice Ai ni ci,.bool ti,.slice Bi mi di,.int .i64 E,.int .i64 Y,.slice (some ⟨gr,0,none⟩) (k+1) cap] _ by simpa using(hE.g16).dZ 9 (.slice (some ⟨gr,0,none⟩) (k+1) cap))).kept ((hE.g15).KB (by first|exact .inr rfl|exact .inl (by omega)) 9 (.slice (some ⟨gr,0,none⟩) (k+1) cap))).fv ((hE.g14).sep (i:=9) (hE.g16) (by simpa [aP] using nK) (.slice (some ⟨gr,0,none⟩) (k+1) cap))).ag ((hE.dN).far (p:=⟨Bp,9,none⟩) (by first|omega|(simp;omega)) (.slice (some ⟨gr,0,none⟩) (k+1) cap))).fv ((hE.h12).sep (i:=9) (hE.g16) (by simpa [aP] using nK) (.slice (some ⟨gr,0,none⟩) (k+1) cap))).ag ((hE.h11).far (p:=⟨Bp,9,none⟩) (by first|omega|(simp;omega)) (.slice (some ⟨gr,0,none⟩) (k+1) cap))).ag ((hE.h10).far (p:=⟨Bp,9,none⟩) (by first|omega|(simp;omega)) (.slice (some ⟨gr,0,none⟩) (k+1) cap))).gF ((hE.h9).far (hE.g16) (by decide) 9 (.slice (some ⟨gr,0,none⟩) (k+1) cap))).bP ((hE.h8).KC (hE.g16) (by simpa [aP] using nK) 9 (.slice (some ⟨gr,0,none⟩) (k+1) cap))).fv ((hE.h7).sep (i:=9) (hE.g16) (by simpa [aP] using nK) (.slice (some ⟨gr,0,none⟩) (k+1) cap))).ag ((hE.h6).far (p:=⟨Bp,9,none⟩) (by first|omega|(simp;omega)) (.slice (some ⟨gr,0,none⟩) (k+1) cap))).ag ((hE.h5).far (p:=⟨Bp,9,none⟩) (by first|omega|(simp;omega)) (.slice (some ⟨gr,0,none⟩) (k+1) cap))).fv ((hE.h4).sep (i:=9) (hE.g16) (by simpa [aP] using nK) (.slice (some ⟨gr,0,none⟩) (k+1) cap))).fv ((hE.h3).sep (i:=9) (hE.g16) (by simpa [aP] using nK) (.slice (some ⟨gr,0,none⟩) (k+1) cap))).ag ((hE.h2).far (p:=⟨Bp,9,none⟩) (by first|omega|(simp;omega)) (.slice (some ⟨gr,0,none⟩) (k+1) cap))).fv ((hE.g1).sep (i:=9) (hE.g16) (by simpa [aP] using nK) (.slice (some ⟨gr,0,none⟩) (k+1) cap))).ag ((hE.g0).far (p:=⟨Bp,9,none⟩) (by first|omega|(simp;omega)) (.slice (some ⟨gr,0,none⟩) (k+1) cap)));go_simp;clear aa5 aa6 aa7 aa8 aa9 abb abd abe abf abg f142 Nd;generalize wa.setCell ⟨Bp,9,none⟩ (.slice (some ⟨gr,0,none⟩) (k+1) cap)=arx at hE⊢
      refine hK.out _ _ (hE.h11.j4 hE.g0.c4) (fun hHeld=> ?_);clear hK K;try simp only[PL]
      refine aX (by kernel_rfl) ?_ _;go_wp2_with fail
      go_meet
      exact⟨_,_,_,rfl,((((((((((((((((((Env.again hE.ax).ag (hE.g16)).kept (hE.g15)).fv (hE.g14)).ag (hE.dN)).fv (hE.h12)).ag (hE.h11)).ag (hE.h10)).gF (hE.h9)).bP (hE.h8)).fv (hE.h7)).ag (hE.h6)).ag (hE.h5)).fv (hE.h4)).fv (hE.h3)).ag (hE.h2)).fv (hE.g1)).ag (hE.g0))⟩
     ·
      go_simp
      obtain⟨rX,nF⟩:∃rX,rX=wd.heap.size:=⟨_,rfl⟩
      have akH:Bp<rX:=by rw[nF];exact(hE.g16).lt
      have aqz:u.heap.size<=rX:=by rw[nF];exact(hE.g15).size
      have akI:g12<rX:=by rw[nF];exact(hE.dN).lt
      have akJ:g14<rX:=by rw[nF];exact(hE.h11).lt
      have akK:gx<rX:=by rw[nF];exact(hE.h10).lt
      have agw:jr<rX:=by rw[nF];exact(hE.h6).lt
      have agx:G6<rX:=by rw[nF];exact(hE.h5).lt
      have agy:pT<rX:=by rw[nF];exact(hE.h2).lt
      have agz:kW<rX:=by rw[nF];exact(hE.g0).lt
      replace hE:=hE.blk 98 #[.bool sz,.slice Az nz cz,.bool tz,.slice Bz mz dz,.bool false,.slice none 0 0,.bool false,.slice none 0 0,.bool false,.slice none 0 0,.bool false,.slice none 0 0,.bool sy,.slice Ay ny cy,.bool ty,.slice By my dy,.bool false,.slice none 0 0,.bool false,.slice none 0 0,.bool false,.slice none 0 0,.bool false,.slice none 0 0] (g:=rX) nF.symm;generalize wd.alloc (.cells #[.bool sz,.slice Az nz cz,.bool tz,.slice Bz mz dz,.bool false,.slice none 0 0,.bool false,.slice none 0 0,.bool false,.slice none 0 0,.bool false,.slice none 0 0,.bool sy,.slice Ay ny cy,.bool ty,.slice By my dy,.bool false,.slice none 0 0,.bool false,.slice none 0 0,.bool false,.slice none 0 0,.bool false,.slice none 0 0] 98)=ary at hE⊢;rw[<-nF];clear nF;refine hK.out _ _ (hE.h12.j4 hE.g1.c4) (fun hHeld=> ?_);clear hK K;try simp only[PL]
      refine r1 4 (fun K hK=> ?_);obtain⟨amc,amd,ame,amf,amg,amh,ami,amj,amk,aml⟩:=(hE.g17).cB;go_simp;clear amc amd ame amf amg amh ami amj amk aml;refine hK.out _ _ (hE.h12.j4 hE.g1.c4) (fun hHeld=> ?_);clear hK K;try simp only[PL]
      refine r1 9 (fun K hK=> ?_);have eG:=hE.h10;have nK:=eG.KA;obtain⟨gr,cap,wa,hrun,eE,qI,eW⟩:=mA 43 eG (hE.g16).size ⟨rX,0,none⟩ 1 (xg ⟨sz,Az,nz,cz,tz,Bz,mz,dz⟩ ⟨sy,Ay,ny,cy,ty,By,my,dy⟩) (zn (d:=⟨sz,Az,nz,cz,tz,Bz,mz,dz⟩) (c:=⟨sy,Ay,ny,cy,ty,By,my,dy⟩) (hE.g0)) (by omega)
      have FQ:cK (fun k'=>if k'=k then xg ⟨sz,Az,nz,cz,tz,Bz,mz,dz⟩ ⟨sy,Ay,ny,cy,ty,By,my,dy⟩ else h k') (k+1) (fun _ j=>j=0\/j=3) (bP v f N) wa:=cK.snoc (hE.h9|>.to fun hf=>hf.aQ eG eW) (fun j _ hj=>by
       rcases hj with rfl|rfl
       ·exact(hE.dN).aQ eG eW
       ·exact(hE.h2).aQ eG eW) (fun _ _ _ _ hj=>hj)
      replace hE:=((((((((((((((((((Env.again (Go.Proofs.YtclbiihcbfnjmaaGreat.Below.aQ hE.ax eG eW Kv (ay Kv (hE.g16).size))).ag ((hE.g17).aQ eG eW (by decide))).kept ((hE.g16).aQ eG eW)).fv ((hE.g15).aQ eG eW)).ag ((hE.g14).aQ eG eW (by decide))).fv ((hE.dN).aQ eG eW)).ag ((hE.h12).aQ eG eW (by decide))).ag ((hE.h11).aQ eG eW (by decide))).gF (.inr ⟨gr,cap,rfl,eE,qI⟩)).bP FQ).fv ((hE.h8).aQ eG eW)).ag ((hE.h7).aQ eG eW (by decide))).ag ((hE.h6).aQ eG eW (by decide))).fv ((hE.h5).aQ eG eW)).fv ((hE.h4).aQ eG eW)).ag ((hE.h3).aQ eG eW (by decide))).fv ((hE.h2).aQ eG eW)).ag ((hE.g1).aQ eG eW (by decide)));clear FQ qI;refine Eq.mpr (if_pos (by rfl)) ?_;refine qO (s:= .tmp 53) (x:= .tmp 57) rfl rfl rfl hrun ?_;clear hrun eG eW;refine hK.out _ _ (hE.h11.j4 hE.g0.c4) (fun hHeld=> ?_);clear hK K;try simp only[PL]
      refine tk 10 ?_;refine tk 11 ?_;refine r1 12 (fun K hK=> ?_)
      have Nf:w.heap.size<=Bp:=by omega
      obtain⟨abh,abj,abk,abl,abm,abn,abo,abp,abq,abr⟩:=(hE.g16).cB;have f154:=(hE.g16).frozen 9;replace hE:=((((((((((((((((((Env.again (hE.ax.setCell (p:=⟨Bp,9,none⟩) Nf (.slice (some ⟨gr,0,none⟩) (k+1) cap))).ag (show au 133 Bp #[.int .i64 F,.int .i64 S,.slice A n c,.bool si,.slice Ai ni ci,.bool ti,.slice Bi mi di,.int .i64 E,.int .i64 Y,.slice (some ⟨gr,0,none⟩) (k+1) cap] _ by simpa using(hE.g16).dZ 9 (.slice (some ⟨gr,0,none⟩) (k+1) cap))).kept ((hE.g15).KB (by first|exact .inr rfl|exact .inl (by omega)) 9 (.slice (some ⟨gr,0,none⟩) (k+1) cap))).fv ((hE.g14).sep (i:=9) (hE.g16) (by simpa [aP] using nK) (.slice (some ⟨gr,0,none⟩) (k+1) cap))).ag ((hE.dN).far (p:=⟨Bp,9,none⟩) (by first|omega|(simp;omega)) (.slice (some ⟨gr,0,none⟩) (k+1) cap))).fv ((hE.h12).sep (i:=9) (hE.g16) (by simpa [aP] using nK) (.slice (some ⟨gr,0,none⟩) (k+1) cap))).ag ((hE.h11).far (p:=⟨Bp,9,none⟩) (by first|omega|(simp;omega)) (.slice (some ⟨gr,0,none⟩) (k+1) cap))).ag ((hE.h10).far (p:=⟨Bp,9,none⟩) (by first|omega|(simp;omega)) (.slice (some ⟨gr,0,none⟩) (k+1) cap))).gF ((hE.h9).far (hE.g16) (by decide) 9 (.slice (some ⟨gr,0,none⟩) (k+1) cap))).bP ((hE.h8).KC (hE.g16) (by simpa [aP] using nK) 9 (.slice (some ⟨gr,0,none⟩) (k+1) cap))).fv ((hE.h7).sep (i:=9) (hE.g16) (by simpa [aP] using nK) (.slice (some ⟨gr,0,none⟩) (k+1) cap))).ag ((hE.h6).far (p:=⟨Bp,9,none⟩) (by first|omega|(simp;omega)) (.slice (some ⟨gr,0,none⟩) (k+1) cap))).ag ((hE.h5).far (p:=⟨Bp,9,none⟩) (by first|omega|(simp;omega)) (.slice (some ⟨gr,0,none⟩) (k+1) cap))).fv ((hE.h4).sep (i:=9) (hE.g16) (by simpa [aP] using nK) (.slice (some ⟨gr,0,none⟩) (k+1) cap))).fv ((hE.h3).sep (i:=9) (hE.g16) (by simpa [aP] using nK) (.slice (some ⟨gr,0,none⟩) (k+1) cap))).ag ((hE.h2).far (p:=⟨Bp,9,none⟩) (by first|omega|(simp;omega)) (.slice (some ⟨gr,0,none⟩) (k+1) cap))).fv ((hE.g1).sep (i:=9) (hE.g16) (by simpa [aP] using nK) (.slice (some ⟨gr,0,none⟩) (k+1) cap))).ag ((hE.g0).far (p:=⟨Bp,9,none⟩) (by first|omega|(simp;omega)) (.slice (some ⟨gr,0,none⟩) (k+1) cap)));go_simp;clear abh abj abk abl abm abn abo abp abq abr f154 Nf;generalize wa.setCell ⟨Bp,9,none⟩ (.slice (some ⟨gr,0,none⟩) (k+1) cap)=arz at hE⊢
      refine hK.out _ _ (hE.h11.j4 hE.g0.c4) (fun hHeld=> ?_);clear hK K;try simp only[PL]
      refine aX (by kernel_rfl) ?_ _;go_wp2_with fail
      go_meet
      exact⟨_,_,_,rfl,((((((((((((((((((Env.again hE.ax).ag (hE.g16)).kept (hE.g15)).fv (hE.g14)).ag (hE.dN)).fv (hE.h12)).ag (hE.h11)).ag (hE.h10)).gF (hE.h9)).bP (hE.h8)).fv (hE.h7)).ag (hE.h6)).ag (hE.h5)).fv (hE.h4)).fv (hE.h3)).ag (hE.h2)).fv (hE.g1)).ag (hE.g0))⟩
    case rest=>
    clear hE;obtain⟨gr,cap,hn,rfl,hE⟩:=hcut;generalize wc=aga at hE⊢
    go_upto_region 12 with(fail)
    obtain⟨amm,amn,amo,amq⟩:=(hE.h2).c4;obtain⟨amr,ams,amu,amv⟩:=(hE.g0).c4;go_wp2_with fail
    refine hE.fr (CD (ca:=cx) (da:=dx) (cb:=cy) (db:=dy) hE.h3 hE.g1 (Ku.out k hk) (Ua.out k Uf) (TZ.out (k+1) Uf)) ?_;clear hE amm amn amo amq amr ams amu amv;intro sh Ah nh ch th Bh mh dh amw hE
    have Ng:w.heap.size<=g14:=by omega
    obtain⟨abt,abu,abv,abw⟩:=(hE.h12).c4;obtain⟨abx,aby,abz,abA⟩:=hE.h12.f4;replace hE:=(((((((((((((((((((Env.again (bW hE.ax Ng (.bool sh) (.slice Ah nh ch) (.bool th) (.slice Bh mh dh))).ag ((hE.g17).aj (by omega) _ _ _ _)).kept ((hE.g16).cQ (by first|exact .inr rfl|exact .inl (by omega)) _ _ _ _)).fv ((hE.g15).ak hE.h12 rfl _ _ _ _ rfl rfl rfl)).ag ((hE.g14).aj (by omega) _ _ _ _)).fv ((hE.dN).ak hE.h12 rfl _ _ _ _ rfl rfl rfl)).ag ((hE.h12).s4 _ _ _ _)).ag ((hE.h11).aj (by omega) _ _ _ _)).gF ((hE.h10).aj (hE.h12) (by decide) _ _ _ _)).bP ((hE.h9).ak (hE.h12) rfl _ _ _ _ rfl rfl rfl)).fv ((hE.h8).ak hE.h12 rfl _ _ _ _ rfl rfl rfl)).ag ((hE.h7).aj (by omega) _ _ _ _)).ag ((hE.h6).aj (by omega) _ _ _ _)).fv ((hE.h5).ak hE.h12 rfl _ _ _ _ rfl rfl rfl)).fv ((hE.h4).ak hE.h12 rfl _ _ _ _ rfl rfl rfl)).ag ((hE.h3).aj (by omega) _ _ _ _)).fv ((hE.h2).ak hE.h12 rfl _ _ _ _ rfl rfl rfl)).ag ((hE.g1).aj (by omega) _ _ _ _)).fv ((hE.g0).ak hE.h12 rfl _ _ _ _ rfl rfl rfl))
    go_upto_region 13 with(fail)
    clear abt abu abv abw abx aby abz abA Ng;generalize ((((amw.setCell ⟨g14,0,none⟩ (.bool sh)).setCell ⟨g14,1,none⟩ (.slice Ah nh ch)).setCell ⟨g14,2,none⟩ (.bool th)).setCell ⟨g14,3,none⟩ (.slice Bh mh dh))=agA at hE⊢;obtain⟨amx,amy⟩:=(hE.h11).c2
    go_upto_region 4 with(fail)
    clear amx amy
    obtain⟨jE,nG⟩:∃jE,jE=agA.heap.size:=⟨_,rfl⟩
    have akL:Bp<jE:=by rw[nG];exact(hE.g17).lt
    have aqA:u.heap.size<=jE:=by rw[nG];exact(hE.g16).size
    have akM:g12<jE:=by rw[nG];exact(hE.g14).lt
    have akN:g14<jE:=by rw[nG];exact(hE.h12).lt
    have akO:gx<jE:=by rw[nG];exact(hE.h11).lt
    have agB:jr<jE:=by rw[nG];exact(hE.h7).lt
    have agC:G6<jE:=by rw[nG];exact(hE.h6).lt
    have agD:pT<jE:=by rw[nG];exact(hE.h3).lt
    have agE:kW<jE:=by rw[nG];exact(hE.g1).lt
    replace hE:=hE.blk 33 #[.int .i64 E,.int .i64 yr] (g:=jE) nG.symm;generalize agA.alloc (.cells #[.int .i64 E,.int .i64 yr] 33)=amz at hE⊢;rw[<-nG];clear nG;have o1:=Iy FJ.out Ue.out (by omega)
    have Nh:w.heap.size<=jE:=by omega
    obtain⟨abB,abC⟩:=(hE.g0).c2;have f168:=(hE.g0).frozen 1;replace hE:=((((((((((((((((((((Env.again (hE.ax.setCell (p:=⟨jE,1,none⟩) Nh (.int .i64 (yr+1)))).ag ((hE.g18).far (p:=⟨jE,1,none⟩) (by first|omega|(simp;omega)) (.int .i64 (yr+1)))).kept ((hE.g17).KB (by first|exact .inr rfl|exact .inl (by omega)) 1 (.int .i64 (yr+1)))).fv ((hE.g16).sep (i:=1) (hE.g0) rfl (.int .i64 (yr+1)))).ag ((hE.g15).far (p:=⟨jE,1,none⟩) (by first|omega|(simp;omega)) (.int .i64 (yr+1)))).fv ((hE.g14).sep (i:=1) (hE.g0) rfl (.int .i64 (yr+1)))).ag ((hE.dN).far (p:=⟨jE,1,none⟩) (by first|omega|(simp;omega)) (.int .i64 (yr+1)))).ag ((hE.h12).far (p:=⟨jE,1,none⟩) (by first|omega|(simp;omega)) (.int .i64 (yr+1)))).gF ((hE.h11).far (hE.g0) (by decide) 1 (.int .i64 (yr+1)))).bP ((hE.h10).KC (hE.g0) rfl 1 (.int .i64 (yr+1)))).fv ((hE.h9).sep (i:=1) (hE.g0) rfl (.int .i64 (yr+1)))).ag ((hE.h8).far (p:=⟨jE,1,none⟩) (by first|omega|(simp;omega)) (.int .i64 (yr+1)))).ag ((hE.h7).far (p:=⟨jE,1,none⟩) (by first|omega|(simp;omega)) (.int .i64 (yr+1)))).fv ((hE.h6).sep (i:=1) (hE.g0) rfl (.int .i64 (yr+1)))).fv ((hE.h5).sep (i:=1) (hE.g0) rfl (.int .i64 (yr+1)))).ag ((hE.h4).far (p:=⟨jE,1,none⟩) (by first|omega|(simp;omega)) (.int .i64 (yr+1)))).fv ((hE.h3).sep (i:=1) (hE.g0) rfl (.int .i64 (yr+1)))).ag ((hE.h2).far (p:=⟨jE,1,none⟩) (by first|omega|(simp;omega)) (.int .i64 (yr+1)))).fv ((hE.g1).sep (i:=1) (hE.g0) rfl (.int .i64 (yr+1)))).ag (show au 33 jE #[.int .i64 E,.int .i64 (yr+1)] _ by simpa using(hE.g0).dZ 1 (.int .i64 (yr+1))));go_wp2_with fail
    clear abB abC f168 Nh;generalize amz.setCell ⟨jE,1,none⟩ (.int .i64 (yr+1))=arA at hE⊢;clear o1
    go_roundw
    case rel=>
     exact⟨k+1,jE,yr+1,_,_,_,_,_,_,_,_,_,_,by omega,by have:=Ue.out;omega,rfl,by omega,((((((((((Env.again hE.ax).ag (hE.g18)).kept (hE.g17)).fv (hE.g16)).ag (hE.g15)).fv (hE.g1)).ag (hE.dN)).ag (hE.g0)).gF (hE.h11)).bP (hE.h10))⟩
    case measure=>
     rw[oJ (hE.g0),oJ HX.out];have:=Ue.out;omega
end Go.Proofs.YtclbiihcbfnjmaaGreat
