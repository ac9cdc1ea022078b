/-
  Parts.
-/
import Derived.Test.YtclbiihcbfnjmaaGreatK8
import Derived.Test.YtclbiihcbfnjmaaGreatK9
set_option linter.unusedSimpArgs false
set_option maxRecDepth 100000
set_option maxHeartbeats 4000000
namespace Go.Proofs.YtclbiihcbfnjmaaGreat
section
open Go.RowKit

theorem Hs {n d:Int}(hd:0<d):(Rat.divInt n d).num=n.fdiv ((Nat.gcd n.natAbs d.natAbs:Nat):Int)/\(((Rat.divInt n d).den:Nat):Int)=d.fdiv ((Nat.gcd n.natAbs d.natAbs:Nat):Int):=by
 have h:=zg (n:=n) hd;rw[Int.fdiv_eq_ediv_of_nonneg _ (by omega),Int.fdiv_eq_ediv_of_nonneg _ (by omega)];exact h
theorem ux {n d:Int}(hd:d≠0):((Nat.gcd n.natAbs d.natAbs:Nat):Int)≠0:=by
 have:=Nat.gcd_pos_of_pos_right n.natAbs (show 0<d.natAbs by omega);omega
theorem Ht {a b:Int}{s t u:Bool}{A B G:Option Addr}{n m g:Nat}{w:World}(_:WV w a s A n)(hb:WV w b t B m)(hg:WV w ((Nat.gcd a.natAbs b.natAbs:Nat):Int) u G g)(hb0:b≠0){k:Nat}(lb:m<=k):g<=k:=by
 rw[hg.len,Int.natAbs_natCast];refine Nat.le_trans (bO aD (Nat.gcd_le_right _ (show 0<b.natAbs by omega))) ?_;rw[<-hb.len];exact lb
theorem zh {z:Int}{s t:Bool}{A B:Option Addr}{n m k:Nat}{w:World}(h:WV w z s A n)(h2:WV w (-z) t B m)(hk:n<=k):m<=k:=by
 rw[h2.len,Int.natAbs_neg,<-h.len];exact hk
theorem nC {a b:Int}{sa sb:Bool}{Aa Ab:Option Addr}{na ca nb cb:Nat}{w:World}(ha:WV w a sa Aa na)(hb:WV w b sb Ab nb)(la:na<=1024)(lb:nb<=1024)(hb0:b≠0):
  Calls Tryz.prog 114 #[.agg #[.bool sa,.slice Aa na ca],.agg #[.bool sb,.slice Ab nb cb]] w (FR (Rat.divInt a b) w):=by
 cases sb with
 |true=>
  have hd:b<0:=of_decide_eq_true hb.EA.symm;have hE:=((((Env.start w).wv ha).wv hb).blk 27 #[.bool sa,.slice Aa na ca] (g:=w.heap.size) rfl).blk 27 #[.bool true,.slice Ab nb cb] (g:=w.heap.size+1) (by simp);have hE:=hE.blk 138 aY (g:=w.heap.size+1+1) (by simp)
  obtain⟨W0,aC⟩:∃W0,W0=(((w.alloc (.cells #[.bool sa,.slice Aa na ca] 27)).alloc (.cells #[.bool true,.slice Ab nb cb] 27)).alloc (.cells aY 138)):=⟨_,rfl⟩
  rw[<-aC] at hE;have aU:=Lib.hid aC;clear aC
  go_enter Tryz.func114,Tryz.ntmps114
  go_upto_region 1 with(fail)
  rw[<-aU.out];obtain⟨k1,k2⟩:=(hE.here.1.2).c2
  go_upto_region 2 with(fail)
  clear k1 k2
  go_cut [] from 8 to 11 (fun wx=>∃sx Ax nx cx sy Ay ny cy,Env w (fun V=>(((((((True/\WV V a sa Aa na)/\WV V b true Ab nb)/\ak 27 (w.heap.size) #[.bool sx,.slice Ax nx cx] V)/\ak 27 (w.heap.size+1) #[.bool sy,.slice Ay ny cy] V)/\ak 138 (w.heap.size+1+1) aY V)/\WV V (-a) sx Ax nx)/\WV V (-b) sy Ay ny)) wx)
  case first=>
   replace hE:=hE.drew;refine wp_region_held_drew (S:=fun w'=>True) (by kernel_rfl) (trivial) (fun hHeld=> ?_);refine wpAnyH_ready (rs:=[0,2]) (by kernel_rfl) (by simp) (AllReadyH.cons rfl (fun K hK=> ?_) (AllReadyH.cons rfl (fun K hK=> ?_) (AllReadyH.nil)))
   ·
    obtain⟨k3,k4⟩:=(hE.h2).c2;go_simp;clear k3 k4;refine hK.out _ _ (trivial) (fun hHeld=> ?_);clear hK K;try simp only[PL]
    refine wpAnyH_ready (rs:=[1,2]) (by kernel_rfl) (by simp) (AllReadyH.cons rfl (fun K hK=> ?_) (AllReadyH.cons rfl (fun K hK=> ?_) (AllReadyH.nil)))
    ·
     go_simp;have hc:=eK (c:=ca) hE.h4 la;refine hc.mono ?_;clear hc
     rintro e w5 ⟨sx,Ax,nx,cx,rfl,hx,hb⟩
     replace hE:=hE.step hb;clear hb;replace hE:=hE.wv hx;clear hx;go_wp2_with fail
     refine hK.out _ _ (trivial) (fun hHeld=> ?_);clear hK K;try simp only[PL]
     refine r1 2 (fun K hK=> ?_);obtain⟨k6,k7⟩:=(hE.h2).c2;go_simp;clear k6 k7;refine hK.out _ _ (trivial) (fun hHeld=> ?_);clear hK K;try simp only[PL]
     refine r1 3 (fun K hK=> ?_);go_simp;have hc:=eK (c:=cb) hE.h4 lb;refine hc.mono ?_;clear hc
     rintro e w8 ⟨sy,Ay,ny,cy,rfl,hy,hb⟩
     replace hE:=hE.step hb;clear hb;replace hE:=hE.wv hy;clear hy;go_wp2_with fail
     refine hK.out _ _ (trivial) (fun hHeld=> ?_);clear hK K;try simp only[PL]
     refine r1 4 (fun K hK=> ?_)
     have OS:w.heap.size<=w.heap.size:=by omega
     obtain⟨aaO,aaP⟩:=(hE.h4).c2;obtain⟨aaQ,aaR⟩:=hE.h4.f2;replace hE:=((((((((Env.again (qK hE.av OS (.bool sx) (.slice Ax nx cx))).wv ((hE.h6).cJ hE.h4 rfl _ _ rfl)).wv ((hE.h5).cJ hE.h4 rfl _ _ rfl)).af ((hE.h4).s2 _ _)).af ((hE.h3).gF (by omega) _ _)).af ((hE.h2).gF (by omega) _ _)).wv ((hE.here.1.2).cJ hE.h4 rfl _ _ rfl)).wv ((hE.here.2).cJ hE.h4 rfl _ _ rfl));go_simp;clear aaO aaP aaQ aaR OS;generalize ((w8.setCell ⟨w.heap.size,0,none⟩ (.bool sx)).setCell ⟨w.heap.size,1,none⟩ (.slice Ax nx cx))=W9 at hE⊢;refine hK.out _ _ (trivial) (fun hHeld=> ?_);clear hK K;try simp only[PL]
     refine r1 5 (fun K hK=> ?_)
     have mF:w.heap.size<=w.heap.size+1:=by omega
     obtain⟨tQ,tR⟩:=(hE.h3).c2;obtain⟨tS,tT⟩:=hE.h3.f2;replace hE:=((((((((Env.again (qK hE.av mF (.bool sy) (.slice Ay ny cy))).wv ((hE.h6).cJ hE.h3 rfl _ _ rfl)).wv ((hE.h5).cJ hE.h3 rfl _ _ rfl)).af ((hE.h4).gF (R:=w.heap.size+1) (by omega) _ _)).af ((hE.h3).s2 _ _)).af ((hE.h2).gF (R:=w.heap.size+1) (by omega) _ _)).wv ((hE.here.1.2).cJ hE.h3 rfl _ _ rfl)).wv ((hE.here.2).cJ hE.h3 rfl _ _ rfl));go_simp;clear tQ tR tS tT mF;generalize ((W9.setCell ⟨w.heap.size+1,0,none⟩ (.bool sy)).setCell ⟨w.heap.size+1,1,none⟩ (.slice Ay ny cy))=uV at hE⊢;refine hK.out _ _ (trivial) (fun hHeld=> ?_);clear hK K;try simp only[PL]
     refine wpAnyH_done (by kernel_rfl) ?_ _;go_wp2_with fail
     go_meet
     exact⟨sx,Ax,nx,cx,sy,Ay,ny,cy,hE⟩
    ·
     obtain⟨cS,cZ⟩:=(hE.here.1.2).c2;go_simp;clear cS cZ;refine hK.out _ _ (trivial) (fun hHeld=> ?_);clear hK K;try simp only[PL]
     refine r1 1 (fun K hK=> ?_);go_simp;have hc:=eK (c:=ca) hE.h4 la;refine hc.mono ?_;clear hc
     rintro e VM ⟨sx,Ax,nx,cx,rfl,hx,hb⟩
     replace hE:=hE.step hb;clear hb;replace hE:=hE.wv hx;clear hx;go_wp2_with fail
     refine hK.out _ _ (trivial) (fun hHeld=> ?_);clear hK K;try simp only[PL]
     refine r1 3 (fun K hK=> ?_);go_simp;have hc:=eK (c:=cb) hE.h4 lb;refine hc.mono ?_;clear hc
     rintro e zQ ⟨sy,Ay,ny,cy,rfl,hy,hb⟩
     replace hE:=hE.step hb;clear hb;replace hE:=hE.wv hy;clear hy;go_wp2_with fail
     refine hK.out _ _ (trivial) (fun hHeld=> ?_);clear hK K;try simp only[PL]
     refine r1 4 (fun K hK=> ?_)
     have rz:w.heap.size<=w.heap.size:=by omega
     obtain⟨BM,BN⟩:=(hE.h4).c2;obtain⟨BO,BP⟩:=hE.h4.f2;replace hE:=((((((((Env.again (qK hE.av rz (.bool sx) (.slice Ax nx cx))).wv ((hE.h6).cJ hE.h4 rfl _ _ rfl)).wv ((hE.h5).cJ hE.h4 rfl _ _ rfl)).af ((hE.h4).s2 _ _)).af ((hE.h3).gF (by omega) _ _)).af ((hE.h2).gF (by omega) _ _)).wv ((hE.here.1.2).cJ hE.h4 rfl _ _ rfl)).wv ((hE.here.2).cJ hE.h4 rfl _ _ rfl));go_simp;clear BM BN BO BP rz;generalize ((zQ.setCell ⟨w.heap.size,0,none⟩ (.bool sx)).setCell ⟨w.heap.size,1,none⟩ (.slice Ax nx cx))=W15 at hE⊢;refine hK.out _ _ (trivial) (fun hHeld=> ?_);clear hK K;try simp only[PL]
     refine r1 5 (fun K hK=> ?_)
     have BR:w.heap.size<=w.heap.size+1:=by omega
     obtain⟨MO,MP⟩:=(hE.h3).c2;obtain⟨MQ,MR⟩:=hE.h3.f2;replace hE:=((((((((Env.again (qK hE.av BR (.bool sy) (.slice Ay ny cy))).wv ((hE.h6).cJ hE.h3 rfl _ _ rfl)).wv ((hE.h5).cJ hE.h3 rfl _ _ rfl)).af ((hE.h4).gF (R:=w.heap.size+1) (by omega) _ _)).af ((hE.h3).s2 _ _)).af ((hE.h2).gF (R:=w.heap.size+1) (by omega) _ _)).wv ((hE.here.1.2).cJ hE.h3 rfl _ _ rfl)).wv ((hE.here.2).cJ hE.h3 rfl _ _ rfl));go_simp;clear MO MP MQ MR BR;generalize ((W15.setCell ⟨w.heap.size+1,0,none⟩ (.bool sy)).setCell ⟨w.heap.size+1,1,none⟩ (.slice Ay ny cy))=W16 at hE⊢;refine hK.out _ _ (trivial) (fun hHeld=> ?_);clear hK K;try simp only[PL]
     refine wpAnyH_done (by kernel_rfl) ?_ _;go_wp2_with fail
     go_meet
     exact⟨sx,Ax,nx,cx,sy,Ay,ny,cy,hE⟩
   ·
    obtain⟨nL,jx⟩:=(hE.here.1.2).c2;go_simp;clear nL jx;refine hK.out _ _ (trivial) (fun hHeld=> ?_);clear hK K;try simp only[PL]
    refine r1 0 (fun K hK=> ?_);obtain⟨lO,kI⟩:=(hE.h2).c2;go_simp;clear lO kI;refine hK.out _ _ (trivial) (fun hHeld=> ?_);clear hK K;try simp only[PL]
    refine r1 1 (fun K hK=> ?_);go_simp;have hc:=eK (c:=ca) hE.h4 la;refine hc.mono ?_;clear hc
    rintro e Ky ⟨sx,Ax,nx,cx,rfl,hx,hb⟩
    replace hE:=hE.step hb;clear hb;replace hE:=hE.wv hx;clear hx;go_wp2_with fail
    refine hK.out _ _ (trivial) (fun hHeld=> ?_);clear hK K;try simp only[PL]
    refine r1 3 (fun K hK=> ?_);go_simp;have hc:=eK (c:=cb) hE.h4 lb;refine hc.mono ?_;clear hc
    rintro e w22 ⟨sy,Ay,ny,cy,rfl,hy,hb⟩
    replace hE:=hE.step hb;clear hb;replace hE:=hE.wv hy;clear hy;go_wp2_with fail
    refine hK.out _ _ (trivial) (fun hHeld=> ?_);clear hK K;try simp only[PL]
    refine r1 4 (fun K hK=> ?_)
    have Xa:w.heap.size<=w.heap.size:=by omega
    obtain⟨af3,af4⟩:=(hE.h4).c2;obtain⟨af5,af6⟩:=hE.h4.f2;replace hE:=((((((((Env.again (qK hE.av Xa (.bool sx) (.slice Ax nx cx))).wv ((hE.h6).cJ hE.h4 rfl _ _ rfl)).wv ((hE.h5).cJ hE.h4 rfl _ _ rfl)).af ((hE.h4).s2 _ _)).af ((hE.h3).gF (by omega) _ _)).af ((hE.h2).gF (by omega) _ _)).wv ((hE.here.1.2).cJ hE.h4 rfl _ _ rfl)).wv ((hE.here.2).cJ hE.h4 rfl _ _ rfl));go_simp;clear af3 af4 af5 af6 Xa;generalize ((w22.setCell ⟨w.heap.size,0,none⟩ (.bool sx)).setCell ⟨w.heap.size,1,none⟩ (.slice Ax nx cx))=Kz at hE⊢;refine hK.out _ _ (trivial) (fun hHeld=> ?_);clear hK K;try simp only[PL]
    refine r1 5 (fun K hK=> ?_)
    have CZ:w.heap.size<=w.heap.size+1:=by omega
    obtain⟨OT,OU⟩:=(hE.h3).c2;obtain⟨OV,OW⟩:=hE.h3.f2;replace hE:=((((((((Env.again (qK hE.av CZ (.bool sy) (.slice Ay ny cy))).wv ((hE.h6).cJ hE.h3 rfl _ _ rfl)).wv ((hE.h5).cJ hE.h3 rfl _ _ rfl)).af ((hE.h4).gF (R:=w.heap.size+1) (by omega) _ _)).af ((hE.h3).s2 _ _)).af ((hE.h2).gF (R:=w.heap.size+1) (by omega) _ _)).wv ((hE.here.1.2).cJ hE.h3 rfl _ _ rfl)).wv ((hE.here.2).cJ hE.h3 rfl _ _ rfl));go_simp;clear OT OU OV OW CZ;generalize ((Kz.setCell ⟨w.heap.size+1,0,none⟩ (.bool sy)).setCell ⟨w.heap.size+1,1,none⟩ (.slice Ay ny cy))=W24 at hE⊢;refine hK.out _ _ (trivial) (fun hHeld=> ?_);clear hK K;try simp only[PL]
    refine wpAnyH_done (by kernel_rfl) ?_ _;go_wp2_with fail
    go_meet
    exact⟨sx,Ax,nx,cx,sy,Ay,ny,cy,hE⟩
  case rest=>
  clear hE;obtain⟨sx,Ax,nx,cx,sy,Ay,ny,cy,hE⟩:=hcut;have Xb:=zh hE.h6 hE.here.1.2 la;have TV:=zh hE.h5 hE.here.2 lb;clear la lb;have la:=Xb;have lb:=TV;clear Xb TV
  go_upto_region 3 with(fail)
  obtain⟨mS,lW⟩:=(hE.h4).c2;obtain⟨oV,om⟩:=(hE.h3).c2;go_wp2_with fail
  have hc:=oG (ca:=cx) (cb:=cy) hE.here.1.2 hE.here.2 la lb;refine hc.mono ?_;clear hc;clear mS lW oV om
  rintro e QG ⟨sg,Ag,ng,cg,rfl,hg,hb⟩
  replace hE:=hE.step hb;clear hb;replace hE:=hE.wv hg;clear hg;have lg:=Ht hE.h2 hE.here.1.2 hE.here.2 (show((-b))≠0 by omega) lb
  go_upto_region 4 with(fail)
  obtain⟨nD,sJ⟩:∃nD,nD=QG.heap.size:=⟨_,rfl⟩
  have amO:w.heap.size<nD:=by rw[sJ];exact(hE.h5).lt
  have amP:w.heap.size+1<nD:=by rw[sJ];exact(hE.h4).lt
  have amQ:w.heap.size+1+1<nD:=by rw[sJ];exact(hE.h3).lt
  replace hE:=hE.blk 27 #[.bool sg,.slice Ag ng cg] (g:=nD) sJ.symm;generalize QG.alloc (.cells #[.bool sg,.slice Ag ng cg] 27)=W30 at hE⊢;rw[<-sJ];clear sJ;obtain⟨zM,FQ⟩:=(hE.h6).c2;obtain⟨vH,Md⟩:=(hE.here.2).c2;go_wp2_with fail
  have hc:=nE (ca:=cx) (cb:=cg) hE.h3 hE.here.1.2 la lg (ux (show((-b))≠0 by omega));refine hc.mono ?_;clear hc;clear zM FQ vH Md
  rintro e w35 ⟨sp,Ap,np,cp,sr,Ar,nr,cr,rfl,hp,hr,hb⟩
  replace hE:=hE.step hb;clear hb;replace hE:=hE.wv hp;clear hp;replace hE:=hE.wv hr;clear hr
  have rq:w.heap.size<=w.heap.size:=by omega
  obtain⟨AD,AE⟩:=(hE.h8).c2;obtain⟨AF,AG⟩:=hE.h8.f2;replace hE:=((((((((((((Env.again (qK hE.av rq (.bool sp) (.slice Ap np cp))).wv ((hE.h10).cJ hE.h8 rfl _ _ rfl)).wv ((hE.h9).cJ hE.h8 rfl _ _ rfl)).af ((hE.h8).s2 _ _)).af ((hE.h7).gF (by omega) _ _)).af ((hE.h6).gF (by omega) _ _)).wv ((hE.h5).cJ hE.h8 rfl _ _ rfl)).wv ((hE.h4).cJ hE.h8 rfl _ _ rfl)).wv ((hE.h3).cJ hE.h8 rfl _ _ rfl)).af ((hE.h2).gF (by omega) _ _)).wv ((hE.here.1.2).cJ hE.h8 rfl _ _ rfl)).wv ((hE.here.2).cJ hE.h8 rfl _ _ rfl))
  go_upto_region 5 with(fail)
  clear AD AE AF AG rq;generalize ((w35.setCell ⟨w.heap.size,0,none⟩ (.bool sp)).setCell ⟨w.heap.size,1,none⟩ (.slice Ap np cp))=W36 at hE⊢;obtain⟨Kr,Ek⟩:=(hE.h7).c2;obtain⟨DT,zN⟩:=(hE.h2).c2;go_wp2_with fail
  have hc:=nE (ca:=cy) (cb:=cg) hE.h4 hE.h3 lb lg (ux (show((-b))≠0 by omega));refine hc.mono ?_;clear hc;clear Kr Ek DT zN
  rintro e w41 ⟨sq,Aq,nq,cq,su,Au,nu,cu,rfl,hq,hu,hb⟩
  replace hE:=hE.step hb;clear hb;replace hE:=hE.wv hq;clear hq;replace hE:=hE.wv hu;clear hu
  have Xc:w.heap.size<=w.heap.size+1:=by omega
  obtain⟨af7,af8⟩:=(hE.h9).c2;obtain⟨af9,aga⟩:=hE.h9.f2;replace hE:=((((((((((((((Env.again (qK hE.av Xc (.bool sq) (.slice Aq nq cq))).wv ((hE.h12).cJ hE.h9 rfl _ _ rfl)).wv ((hE.h11).cJ hE.h9 rfl _ _ rfl)).af ((hE.h10).gF (R:=w.heap.size+1) (by omega) _ _)).af ((hE.h9).s2 _ _)).af ((hE.h8).gF (R:=w.heap.size+1) (by omega) _ _)).wv ((hE.h7).cJ hE.h9 rfl _ _ rfl)).wv ((hE.h6).cJ hE.h9 rfl _ _ rfl)).wv ((hE.h5).cJ hE.h9 rfl _ _ rfl)).af ((hE.h4).gF (R:=w.heap.size+1) (by omega) _ _)).wv ((hE.h3).cJ hE.h9 rfl _ _ rfl)).wv ((hE.h2).cJ hE.h9 rfl _ _ rfl)).wv ((hE.here.1.2).cJ hE.h9 rfl _ _ rfl)).wv ((hE.here.2).cJ hE.h9 rfl _ _ rfl))
  go_upto_region 6 with(fail)
  clear af7 af8 af9 aga Xc;generalize ((w41.setCell ⟨w.heap.size+1,0,none⟩ (.bool sq)).setCell ⟨w.heap.size+1,1,none⟩ (.slice Aq nq cq))=W42 at hE⊢;obtain⟨e1,e2⟩:=Hs (n:=(-a)) (d:=(-b)) (show 0< -b by omega);rw[Ho] at e1 e2;have mV:FV W42 (Rat.divInt a b) sp Ap np sq Aq nq:=⟨by rw[e1];exact hE.h3,by rw[e2];exact hE.here.1.2⟩;clear e1 e2;replace hE:=hE.fv mV;clear mV;obtain⟨ID,KR⟩:=(hE.h11).c2;obtain⟨xw,El⟩:=(hE.h10).c2
  have cA:w.heap.size<=w.heap.size+1+1:=by omega
  obtain⟨WW,bn,hB,hV,aQ⟩:=aO hE hE.h9 cA hE.here.2 cp cq;obtain⟨x0,x1,x2,x3⟩:=(hE.h9).c4;obtain⟨fQ,fR,gJ,gK⟩:=hE.h9.f4;have bJ:=Lib.hid bn;clear bn;go_wp2_with fail
  clear ID KR xw El;rw[<-bJ.out];obtain⟨y0,y1,y2,y3⟩:=hB.c4;refine bodyPost_ret (v:= .agg (az sp Ap np cp sq Aq nq cq)) (by simp[results,Tryz.results114,go_sem,y0,y1,y2,y3]) rfl ?_;exact⟨sp,Ap,np,cp,sq,Aq,nq,cq,rfl,hV,aQ⟩
 |false=>
  have hd:0<b:=by have:=of_decide_eq_false hb.EA.symm;omega
  have hE:=((((Env.start w).wv ha).wv hb).blk 27 #[.bool sa,.slice Aa na ca] (g:=w.heap.size) rfl).blk 27 #[.bool false,.slice Ab nb cb] (g:=w.heap.size+1) (by simp);have hE:=hE.blk 138 aY (g:=w.heap.size+1+1) (by simp)
  obtain⟨W0,aC⟩:∃W0,W0=(((w.alloc (.cells #[.bool sa,.slice Aa na ca] 27)).alloc (.cells #[.bool false,.slice Ab nb cb] 27)).alloc (.cells aY 138)):=⟨_,rfl⟩
  rw[<-aC] at hE;have aU:=Lib.hid aC;clear aC
  go_enter Tryz.func114,Tryz.ntmps114
  go_upto_region 1 with(fail)
  rw[<-aU.out];obtain⟨k1,k2⟩:=(hE.here.1.2).c2
  go_upto_region 3 with(fail)
  clear k1 k2;obtain⟨k3,k4⟩:=(hE.h2).c2;obtain⟨k5,k6⟩:=(hE.here.1.2).c2;go_wp2_with fail
  have hc:=oG (ca:=ca) (cb:=cb) hE.h4 hE.h3 la lb;refine hc.mono ?_;clear hc;clear k3 k4 k5 k6
  rintro e w7 ⟨sg,Ag,ng,cg,rfl,hg,hb⟩
  replace hE:=hE.step hb;clear hb;replace hE:=hE.wv hg;clear hg;have lg:=Ht hE.h5 hE.h4 hE.here.2 (show(b)≠0 by omega) lb
  go_upto_region 4 with(fail)
  obtain⟨g8,lU⟩:∃g8,g8=w7.heap.size:=⟨_,rfl⟩
  have ao5:w.heap.size<g8:=by rw[lU];exact(hE.h3).lt
  have aeO:w.heap.size+1<g8:=by rw[lU];exact(hE.h2).lt
  have ao6:w.heap.size+1+1<g8:=by rw[lU];exact(hE.here.1.2).lt
  replace hE:=hE.blk 27 #[.bool sg,.slice Ag ng cg] (g:=g8) lU.symm;generalize w7.alloc (.cells #[.bool sg,.slice Ag ng cg] 27)=W8 at hE⊢;rw[<-lU];clear lU;obtain⟨k9,eG⟩:=(hE.h4).c2;obtain⟨cS,cZ⟩:=(hE.here.2).c2;go_wp2_with fail
  have hc:=nE (ca:=ca) (cb:=cg) hE.h6 hE.here.1.2 la lg (ux (show(b)≠0 by omega));refine hc.mono ?_;clear hc;clear k9 eG cS cZ
  rintro e VM ⟨sp,Ap,np,cp,sr,Ar,nr,cr,rfl,hp,hr,hb⟩
  replace hE:=hE.step hb;clear hb;replace hE:=hE.wv hp;clear hp;replace hE:=hE.wv hr;clear hr
  have BL:w.heap.size<=w.heap.size:=by omega
  obtain⟨ME,MF⟩:=(hE.h6).c2;obtain⟨MG,MH⟩:=hE.h6.f2;replace hE:=((((((((((Env.again (qK hE.av BL (.bool sp) (.slice Ap np cp))).wv ((hE.h8).cJ hE.h6 rfl _ _ rfl)).wv ((hE.h7).cJ hE.h6 rfl _ _ rfl)).af ((hE.h6).s2 _ _)).af ((hE.h5).gF (by omega) _ _)).af ((hE.h4).gF (by omega) _ _)).wv ((hE.h3).cJ hE.h6 rfl _ _ rfl)).af ((hE.h2).gF (by omega) _ _)).wv ((hE.here.1.2).cJ hE.h6 rfl _ _ rfl)).wv ((hE.here.2).cJ hE.h6 rfl _ _ rfl))
  go_upto_region 5 with(fail)
  clear ME MF MG MH BL;generalize ((VM.setCell ⟨w.heap.size,0,none⟩ (.bool sp)).setCell ⟨w.heap.size,1,none⟩ (.slice Ap np cp))=XK at hE⊢;obtain⟨fP,lC⟩:=(hE.h5).c2;obtain⟨nL,jx⟩:=(hE.h2).c2;go_wp2_with fail
  have hc:=nE (ca:=cb) (cb:=cg) hE.h7 hE.h3 lb lg (ux (show(b)≠0 by omega));refine hc.mono ?_;clear hc;clear fP lC nL jx
  rintro e w19 ⟨sq,Aq,nq,cq,su,Au,nu,cu,rfl,hq,hu,hb⟩
  replace hE:=hE.step hb;clear hb;replace hE:=hE.wv hq;clear hq;replace hE:=hE.wv hu;clear hu
  have Ce:w.heap.size<=w.heap.size+1:=by omega
  obtain⟨Nd,jz⟩:=(hE.h7).c2;obtain⟨Nf,Ng⟩:=hE.h7.f2;replace hE:=((((((((((((Env.again (qK hE.av Ce (.bool sq) (.slice Aq nq cq))).wv ((hE.h10).cJ hE.h7 rfl _ _ rfl)).wv ((hE.h9).cJ hE.h7 rfl _ _ rfl)).af ((hE.h8).gF (R:=w.heap.size+1) (by omega) _ _)).af ((hE.h7).s2 _ _)).af ((hE.h6).gF (R:=w.heap.size+1) (by omega) _ _)).wv ((hE.h5).cJ hE.h7 rfl _ _ rfl)).af ((hE.h4).gF (R:=w.heap.size+1) (by omega) _ _)).wv ((hE.h3).cJ hE.h7 rfl _ _ rfl)).wv ((hE.h2).cJ hE.h7 rfl _ _ rfl)).wv ((hE.here.1.2).cJ hE.h7 rfl _ _ rfl)).wv ((hE.here.2).cJ hE.h7 rfl _ _ rfl))
  go_upto_region 6 with(fail)
  clear Nd jz Nf Ng Ce;generalize ((w19.setCell ⟨w.heap.size+1,0,none⟩ (.bool sq)).setCell ⟨w.heap.size+1,1,none⟩ (.slice Aq nq cq))=W20 at hE⊢;obtain⟨e1,e2⟩:=Hs (n:=a) (d:=b) hd;have mV:FV W20 (Rat.divInt a b) sp Ap np sq Aq nq:=⟨by rw[e1];exact hE.h3,by rw[e2];exact hE.here.1.2⟩;clear e1 e2;replace hE:=hE.fv mV;clear mV;obtain⟨og,mQ⟩:=(hE.h9).c2;obtain⟨oh,oU⟩:=(hE.h8).c2
  have cA:w.heap.size<=w.heap.size+1+1:=by omega
  obtain⟨WW,bn,hB,hV,aQ⟩:=aO hE hE.h7 cA hE.here.2 cp cq;obtain⟨x0,x1,x2,x3⟩:=(hE.h7).c4;obtain⟨fQ,fR,gJ,gK⟩:=hE.h7.f4;have bJ:=Lib.hid bn;clear bn;go_wp2_with fail
  clear og mQ oh oU;rw[<-bJ.out];obtain⟨y0,y1,y2,y3⟩:=hB.c4;refine bodyPost_ret (v:= .agg (az sp Ap np cp sq Aq nq cq)) (by simp[results,Tryz.results114,go_sem,y0,y1,y2,y3]) rfl ?_;exact⟨sp,Ap,np,cp,sq,Aq,nq,cq,rfl,hV,aQ⟩
end
section
open Go.RowKit

def okF (s:Bool)(n:Nat)(f:Nat->Nat)(t:Bool)(m:Nat)(g:Nat->Nat):Bool:=
 !(decide (256<n)||decide (256<m))&&(okW s n f&&(okW t m g&&(!t&&(!decide (m=0)&&(Nat.gcd (vs aj f n) (vs aj g m)==1)))))
def oT (w:World)(A:Option Addr)(n:Nat)(f:Nat->Nat)(B:Option Addr)(m:Nat)(g:Nat->Nat):Prop:=
 Rd w.heap.size .u16 w A n f/\Rd w.heap.size .u16 w B m g/\(∀j,j<n->f j<65536)/\(∀j,j<m->g j<65536)
theorem oT.below {w w':World}{A B:Option Addr}{n m:Nat}{f g:Nat->Nat}(h:oT w A n f B m g)(hb:Below w.heap.size w w'):oT w' A n f B m g:=
 ⟨(h.1.below hb).more hb.size,(h.2.1.below hb).more hb.size,h.2.2.1,h.2.2.2⟩
theorem FV.rd {w:World}{q:Rat}{s t:Bool}{A B:Option Addr}{n m:Nat}(h:FV w q s A n t B m):oT w A n (aB aj q.num.natAbs) B m (aB aj q.den):=by
 obtain⟨⟨-,h1,h2⟩,⟨-,h3,h4⟩⟩:=h;unfold aN at h2 h4;rw[<-h1] at h2;rw[<-h3] at h4;rw[Int.natAbs_natCast] at h4;exact⟨h2,h4,fun j _=>bh _ j,fun j _=>bh _ j⟩
theorem qy {w:World}{q:Rat}{s t:Bool}{A B:Option Addr}{n m:Nat}(h:FV w q s A n t B m)(hq:fl q<=256):okF s n (aB aj q.num.natAbs) t m (aB aj q.den)=true:=by
 obtain⟨l1,l2⟩:=bV.1 hq;obtain⟨⟨h0,h1,h2⟩,⟨h5,h3,h4⟩⟩:=h;rw[Int.natAbs_natCast] at h3;have e1:=sU (z:=q.num) (by omega);have e2:=sU (z:=((q.den:Nat):Int)) (by rw[Int.natAbs_natCast];omega);rw[Int.natAbs_natCast] at e2;have hd:=den_pos q
 have hm:0<m:=by rw[h3];exact(cK aD).2 hd
 unfold okF;rw[decide_eq_false (show¬256<n by omega),decide_eq_false (show¬256<m by omega),decide_eq_false (show¬m=0 by omega),h0,h5,h1,h3,e1,e2,cL aD,cL aD,beq_iff_eq.2 (show Nat.gcd q.num.natAbs q.den=1 from q.reduced)];rw[decide_eq_false (show¬((q.den:Nat):Int)<0 by omega)];rfl
theorem zi {w:World}{s:Bool}{A:Option Addr}{n:Nat}{f:Nat->Nat}(hr:Rd w.heap.size .u16 w A n f)(hf:∀j,j<n->f j<65536)(h:okW s n f=true):WV w (jg s (vs aj f n)) s A n:=by
 have zO:ln aj (vs aj f n)=n:=by
  unfold okW at h
  by_cases h0:n=0
  ·subst h0;rw[jC,cF]
  ·
   rw[if_neg h0,Bool.and_eq_true] at h;exact Oq aD hf (.inr (by simpa using h.2))
 refine⟨?_,by rw[bT,zO], ?_⟩
 ·
  rw[jj];unfold okW at h
  by_cases h0:n=0
  ·
   subst h0;rw[if_pos rfl] at h;rw[jC]
   revert h;cases s<;>simp
  ·
   have:0<vs aj f n:=(cK aD).1 (by omega);rw[decide_eq_true this,Bool.and_true]
 ·
  rw[bT];exact aN.rJ hr hf
theorem JG (s t:Bool)(A B:Option Addr)(n m c d:Nat)(w:World):
  Calls Tryz.prog 147 #[.agg (az s A n c t B m d)] w fun e w'=>e= .returned (.bool (decide (256<n)||decide (256<m)))/\Below w.heap.size w w':=by
 have eP:Below w.heap.size w (w.alloc (.cells (az s A n c t B m d) 138)):=(Below.refl _ _).alloc (Nat.le_refl _) _
 by_cases h1:256<n
 ·
  have HE:=Lib.hid (decide_eq_true h1);have t1:decide ((256:Int)<(n:Int))=true:=decide_eq_true (by omega);clear h1
  go_enter Tryz.func147,Tryz.ntmps147
  go_wp2_with fail
  go_ret
  exact⟨aS (by rw[HE.out];rfl),eP⟩
 ·
  have HE:=Lib.hid (decide_eq_false h1);have t1:decide ((256:Int)<(n:Int))=false:=decide_eq_false (by omega);clear h1
  by_cases h2:256<m
  ·
   have Ex:=Lib.hid (decide_eq_true h2);have t2:decide ((256:Int)<(m:Int))=true:=decide_eq_true (by omega);clear h2
   go_enter Tryz.func147,Tryz.ntmps147
   go_wp2_with fail
   go_ret
   exact⟨aS (by rw[HE.out,Ex.out];rfl),eP⟩
  ·
   have Ex:=Lib.hid (decide_eq_false h2);have t2:decide ((256:Int)<(m:Int))=false:=decide_eq_false (by omega);clear h2
   go_enter Tryz.func147,Tryz.ntmps147
   go_wp2_with fail
   go_ret
   exact⟨aS (by rw[HE.out,Ex.out];rfl),eP⟩
theorem C0 {s t:Bool}{A B:Option Addr}{n m c d:Nat}{z:Int}{w:World}(hB:WV w z t B m)(hm:m<=1000000):
  Calls Tryz.prog 149 #[.agg (az s A n c t B m d)] w fun e w'=>e= .returned (.bool (decide (z=1)))/\Below w.heap.size w w':=by
 have eP:Below w.heap.size w (w.alloc (.cells (az s A n c t B m d) 138)):=(Below.refl _ _).alloc (Nat.le_refl _) _;have HC:=Lib.hid (Hu (c:=d) (hB.below eP) hm);clear hB
 go_enter Tryz.func149,Tryz.ntmps149
 go_wp2_with fail
 refine HC.out.mono ?_
 rintro e w1 ⟨rfl,hb⟩
 obtain⟨y,hy⟩:∃y,y=decide (z=1):=⟨_,rfl⟩
 rw[<-hy];have HY:=Lib.hid hy;clear hy HC;go_wp2_with fail
 go_ret
 exact⟨aS HY.out,eP.trans (hb.mono eP.size)⟩
theorem bU (s:Bool)(A:Option Addr)(n c:Nat)(f:Nat->Nat)(w:World)(h:Rd w.heap.size .u16 w A n f)(hf:∀i,i<n->f i<65536)(hn:n<=1000000)(r:Bool)(hr:okW s n f=r):
  Calls Tryz.prog 148 #[.agg #[.bool s,.slice A n c]] w fun e w'=>e= .returned (.bool r)/\Below w.heap.size w w':=by
 subst hr;exact wG s A n c f w h hf hn
theorem kY (s t:Bool)(A B:Option Addr)(n m c d:Nat)(w:World)(r:Bool)(hr:(decide (256<n)||decide (256<m))=r):
  Calls Tryz.prog 147 #[.agg (az s A n c t B m d)] w fun e w'=>e= .returned (.bool r)/\Below w.heap.size w w':=by
 subst hr;exact JG s t A B n m c d w
theorem TW (s t:Bool)(x y:Nat):Nat.gcd (jg s x).natAbs (jg t y).natAbs=Nat.gcd x y:=by rw[bT,bT]
theorem C1 (s t:Bool)(A B:Option Addr)(n m c d:Nat)(f g:Nat->Nat)(w:World)(hr:oT w A n f B m g)(hn:n<=1000000)(hm:m<=1000000):
  Calls Tryz.prog 113 #[.agg (az s A n c t B m d)] w fun e w'=>e= .returned (.bool (okF s n f t m g))/\Below w.heap.size w w':=by
 have hE:=(Env.start w).blk 138 (az s A n c t B m d) (g:=w.heap.size) rfl
 obtain⟨W0,aC⟩:∃W0,W0=w.alloc (.cells (az s A n c t B m d) 138):=⟨_,rfl⟩
 rw[<-aC] at hE;have aU:=Lib.hid aC;clear aC
 obtain⟨r,hres⟩:∃r,r=okF s n f t m g:=⟨_,rfl⟩
 rw[<-hres];unfold okF at hres
 obtain⟨L,hL⟩:∃L,(decide (256<n)||decide (256<m))=L:=⟨_,rfl⟩
 obtain⟨v1,QW⟩:∃v1,okW s n f=v1:=⟨_,rfl⟩
 obtain⟨v2,mX⟩:∃v2,okW t m g=v2:=⟨_,rfl⟩
 rw[hL,QW,mX] at hres;have HL:=Lib.hid hL;have HV1:=Lib.hid QW;have HV2:=Lib.hid mX;clear hL QW mX
 cases L with
 |true=>
  obtain rfl:r=false:=by rw[hres];rfl
  clear hres
  go_enter Tryz.func113,Tryz.ntmps113
  go_upto_region 1 with(fail)
  rw[<-aU.out];obtain⟨k1,k2,k3,k4⟩:=hE.here.2.c4;go_wp2_with fail
  refine(kY s t A B n m c d _ _ HL.out).mono ?_
  rintro e w1 ⟨rfl,hb⟩
  clear k1 k2 k3 k4;go_wp2_with fail
  go_ret
  exact⟨rfl,(hE.step hb).av⟩
 |false=>
  have hlen:n<=256/\m<=256:=by have:=HL.out;simp only[Bool.or_eq_false_iff,decide_eq_false_iff_not] at this;omega
  cases v1 with
  |false=>
   obtain rfl:r=false:=by rw[hres];rfl
   clear hres
   go_enter Tryz.func113,Tryz.ntmps113
   go_upto_region 1 with(fail)
   rw[<-aU.out];obtain⟨k1,k2,k3,k4⟩:=hE.here.2.c4;go_wp2_with fail
   refine(kY s t A B n m c d _ _ HL.out).mono ?_
   rintro e w1 ⟨rfl,hb⟩
   clear k1 k2 k3 k4;replace hE:=hE.step hb;clear hb;obtain⟨k1,k2,k3,k4⟩:=hE.here.2.c4;go_wp2_with fail
   refine(bU s A n c f _ (hr.below hE.av).1 hr.2.2.1 hn _ HV1.out).mono ?_
   rintro e w2 ⟨rfl,hb⟩
   clear k1 k2 k3 k4;go_wp2_with fail
   go_ret
   exact⟨rfl,(hE.step hb).av⟩
  |true=>
   cases v2 with
   |false=>
    obtain rfl:r=false:=by rw[hres];rfl
    clear hres
    go_enter Tryz.func113,Tryz.ntmps113
    go_upto_region 1 with(fail)
    rw[<-aU.out];obtain⟨k1,k2,k3,k4⟩:=hE.here.2.c4;go_wp2_with fail
    refine(kY s t A B n m c d _ _ HL.out).mono ?_
    rintro e w1 ⟨rfl,hb⟩
    clear k1 k2 k3 k4;replace hE:=hE.step hb;clear hb;obtain⟨k1,k2,k3,k4⟩:=hE.here.2.c4;go_wp2_with fail
    refine(bU s A n c f _ (hr.below hE.av).1 hr.2.2.1 hn _ HV1.out).mono ?_
    rintro e w2 ⟨rfl,hb⟩
    clear k1 k2 k3 k4;replace hE:=hE.step hb;clear hb;obtain⟨k1,k2,k3,k4⟩:=hE.here.2.c4;go_wp2_with fail
    refine(bU t B m d g _ (hr.below hE.av).2.1 hr.2.2.2 hm _ HV2.out).mono ?_
    rintro e w3 ⟨rfl,hb⟩
    clear k1 k2 k3 k4;go_wp2_with fail
    go_ret
    exact⟨rfl,(hE.step hb).av⟩
   |true=>
    have w1:=zi hr.1 hr.2.2.1 HV1.out;have w2:=zi hr.2.1 hr.2.2.2 HV2.out
    obtain⟨x,hx⟩:∃x,jg s (vs aj f n)=x:=⟨_,rfl⟩
    obtain⟨y,hy⟩:∃y,jg t (vs aj g m)=y:=⟨_,rfl⟩
    have TX:=TW s t (vs aj f n) (vs aj g m);rw[hx,hy] at TX;rw[hx] at w1;rw[hy] at w2;rw[<-TX] at hres
    have hyy:y=1->Nat.gcd x.natAbs y.natAbs=1:=fun e=>by rw[e];exact Nat.gcd_one_right _
    clear hx hy TX
    cases t with
    |true=>
     obtain rfl:r=false:=by rw[hres];rfl
     clear hres
     go_enter Tryz.func113,Tryz.ntmps113
     go_upto_region 1 with(fail)
     rw[<-aU.out];obtain⟨k1,k2,k3,k4⟩:=hE.here.2.c4;go_wp2_with fail
     refine(kY s _ A B n _ c d _ _ HL.out).mono ?_
     rintro e w1' ⟨rfl,hb⟩
     clear k1 k2 k3 k4;replace hE:=hE.step hb;clear hb;obtain⟨k1,k2,k3,k4⟩:=hE.here.2.c4;go_wp2_with fail
     refine(bU s A n c f _ (hr.below hE.av).1 hr.2.2.1 hn _ HV1.out).mono ?_
     rintro e w2' ⟨rfl,hb⟩
     clear k1 k2 k3 k4;replace hE:=hE.step hb;clear hb;obtain⟨k1,k2,k3,k4⟩:=hE.here.2.c4;go_wp2_with fail
     refine(bU _ B _ d g _ (hr.below hE.av).2.1 hr.2.2.2 hm _ HV2.out).mono ?_
     rintro e w3 ⟨rfl,hb⟩
     clear k1 k2 k3 k4;replace hE:=hE.step hb;clear hb;obtain⟨k1,k2,k3,k4⟩:=hE.here.2.c4;go_wp2_with fail
     go_ret
     exact⟨rfl,hE.av⟩
    |false=>
     by_cases hm0:m=0
     ·
      obtain rfl:r=false:=by rw[hres,decide_eq_true hm0];rfl
      subst hm0;clear hres
      go_enter Tryz.func113,Tryz.ntmps113
      go_upto_region 1 with(fail)
      rw[<-aU.out];obtain⟨k1,k2,k3,k4⟩:=hE.here.2.c4;go_wp2_with fail
      refine(kY s _ A B n _ c d _ _ HL.out).mono ?_
      rintro e w1' ⟨rfl,hb⟩
      clear k1 k2 k3 k4;replace hE:=hE.step hb;clear hb;obtain⟨k1,k2,k3,k4⟩:=hE.here.2.c4;go_wp2_with fail
      refine(bU s A n c f _ (hr.below hE.av).1 hr.2.2.1 hn _ HV1.out).mono ?_
      rintro e w2' ⟨rfl,hb⟩
      clear k1 k2 k3 k4;replace hE:=hE.step hb;clear hb;obtain⟨k1,k2,k3,k4⟩:=hE.here.2.c4;go_wp2_with fail
      refine(bU _ B _ d g _ (hr.below hE.av).2.1 hr.2.2.2 hm _ HV2.out).mono ?_
      rintro e w3 ⟨rfl,hb⟩
      clear k1 k2 k3 k4;replace hE:=hE.step hb;clear hb;obtain⟨k1,k2,k3,k4⟩:=hE.here.2.c4;go_wp2_with fail
      go_ret
      exact⟨rfl,hE.av⟩
     ·
      have t1:((m:Int)==0)=false:=beq_eq_false_iff_ne.2 (by omega)
      have hres2:r=(Nat.gcd x.natAbs y.natAbs==1):=by rw[hres,decide_eq_false hm0];rfl
      clear hres;have HR:=Lib.hid hres2;clear hres2
      go_enter Tryz.func113,Tryz.ntmps113
      go_upto_region 1 with(fail)
      rw[<-aU.out];obtain⟨k1,k2,k3,k4⟩:=hE.here.2.c4;go_wp2_with fail
      refine(kY s _ A B n _ c d _ _ HL.out).mono ?_
      rintro e w1' ⟨rfl,hb⟩
      clear k1 k2 k3 k4;replace hE:=hE.step hb;clear hb;obtain⟨k1,k2,k3,k4⟩:=hE.here.2.c4;go_wp2_with fail
      refine(bU s A n c f _ (hr.below hE.av).1 hr.2.2.1 hn _ HV1.out).mono ?_
      rintro e w2' ⟨rfl,hb⟩
      clear k1 k2 k3 k4;replace hE:=hE.step hb;clear hb;obtain⟨k1,k2,k3,k4⟩:=hE.here.2.c4;go_wp2_with fail
      refine(bU _ B _ d g _ (hr.below hE.av).2.1 hr.2.2.2 hm _ HV2.out).mono ?_
      rintro e w3 ⟨rfl,hb⟩
      clear k1 k2 k3 k4;replace hE:=hE.step hb;clear hb;obtain⟨k1,k2,k3,k4⟩:=hE.here.2.c4;go_wp2_with fail
      refine(C0 (w:=w3) (w2.below hE.av) hm).mono ?_;clear k1 k2 k3 k4
      rintro e w4 ⟨rfl,hb⟩
      replace hE:=hE.step hb;clear hb t1
      by_cases hy1:y=1
      ·
       have hg:=hyy hy1;rw[decide_eq_true hy1]
       have DW:r=true:=by rw[HR.out,hg];rfl
       clear hg hy1 hyy;have HR1:=Lib.hid DW;clear DW;go_wp2_with fail
       go_ret
       exact⟨aS HR1.out.symm,hE.av⟩
      ·
       rw[decide_eq_false hy1];clear hyy hy1;obtain⟨k1,k2,k3,k4⟩:=hE.here.2.c4;go_wp2_with fail
       refine(oG (ca:=c) (cb:=d) (w1.below hE.av) (w2.below hE.av) (by omega) (by omega)).mono ?_;clear k1 k2 k3 k4
       rintro e w5 ⟨sg,Ag,ng,cg,rfl,hg,hb⟩
       replace hE:=hE.step hb;clear hb
       have QL:ng<=1024:=by
        rw[hg.len,Int.natAbs_natCast];refine Fh _ _ _ ?_ ?_
        ·rw[<-w1.len];omega
        ·rw[<-w2.len];omega
       go_wp2_with fail
       refine(Hu (c:=cg) hg (by omega)).mono ?_
       rintro e w6 ⟨rfl,hb⟩
       have hq:decide (((Nat.gcd x.natAbs y.natAbs:Nat):Int)=1)=r:=by rw[HR.out,Bool.eq_iff_iff,decide_eq_true_iff,beq_iff_eq];omega
       rw[hq];clear hq;go_wp2_with fail
       go_ret
       exact⟨rfl,(hE.step hb).av⟩
end
section
open Go.RowKit

theorem JH (s t:Bool)(A B:Option Addr)(n m c d:Nat)(f g:Nat->Nat)(w:World)(hr:oT w A n f B m g)(hn:n<=1000000)(hm:m<=1000000)(r:Bool)(h:okF s n f t m g=r):
  Calls Tryz.prog 113 #[.agg (az s A n c t B m d)] w fun e w'=>e= .returned (.bool r)/\Below w.heap.size w w':=by
 subst h;exact C1 s t A B n m c d f g w hr hn hm
theorem cT (s t:Bool)(A B:Option Addr)(n m c d:Nat)(f g:Nat->Nat)(w:World)(hr:oT w A n f B m g)(hn:n<=1000000)(hm:m<=1000000)(r:Bool)(h:okF s n f t m g=r):
  Calls Tryz.prog 71 #[.agg (az s A n c t B m d)] w fun e w'=>e= .returned (.bool r)/\Below w.heap.size w w':=by
 have eP:Below w.heap.size w (w.alloc (.cells (az s A n c t B m d) 29)):=(Below.refl _ _).alloc (Nat.le_refl _) _;have HC:=Lib.hid (JH s t A B n m c d f g _ (hr.below eP) hn hm r h);clear h hr
 go_enter Tryz.func71,Tryz.ntmps71
 go_wp2_with fail
 refine HC.out.mono ?_
 rintro e w1 ⟨rfl,hb⟩
 clear HC;go_wp2_with fail
 go_ret
 exact⟨rfl,eP.trans (hb.mono eP.size)⟩
theorem nF (s t:Bool)(A B:Option Addr)(n m c d:Nat)(f g:Nat->Nat)(w:World)(hr:oT w A n f B m g)(hn:n<=1000000)(hm:m<=1000000)(r:Bool)(h:okF s n f t m g=r):
  Calls Tryz.prog 121 #[.agg (az s A n c t B m d)] w fun e w'=>e= .returned (.bool (!r))/\Below w.heap.size w w':=by
 have eP:Below w.heap.size w (w.alloc (.cells (az s A n c t B m d) 29)):=(Below.refl _ _).alloc (Nat.le_refl _) _;have HC:=Lib.hid (cT s t A B n m c d f g _ (hr.below eP) hn hm r h);clear h hr
 go_enter Tryz.func121,Tryz.ntmps121
 go_wp2_with fail
 refine HC.out.mono ?_
 rintro e w1 ⟨rfl,hb⟩
 clear HC;go_wp2_with fail
 go_ret
 exact⟨rfl,eP.trans (hb.mono eP.size)⟩
theorem ak.c8 {t:TypeId}{g:Nat}{w:World}{a b c d e f x y:Value}(h:ak t g #[a,b,c,d,e,f,x,y] w):
  (w.cell? ⟨g,0,none⟩=some a/\w.cell? ⟨g,1,none⟩=some b/\w.cell? ⟨g,2,none⟩=some c/\w.cell? ⟨g,3,none⟩=some d)/\w.cell? ⟨g,4,none⟩=some e/\w.cell? ⟨g,5,none⟩=some f/\w.cell? ⟨g,6,none⟩=some x/\w.cell? ⟨g,7,none⟩=some y:=
 ⟨⟨h.cell 0,h.cell 1,h.cell 2,h.cell 3⟩,h.cell 4,h.cell 5,h.cell 6,h.cell 7⟩
def uy (r1 r2:Bool):Int:=if r1 then(if r2 then-1 else 1) else 0
theorem Fi (S:Nat)(s t s2 t2:Bool)(A B A2 B2:Option Addr)(n m c d n2 m2 c2 d2:Nat)(f g f2 g2:Nat->Nat)(w:World)(hS:ak 29 S #[.bool s,.slice A n c,.bool t,.slice B m d,.bool s2,.slice A2 n2 c2,.bool t2,.slice B2 m2 d2] w)
  (hr:oT w A n f B m g) (JI:oT w A2 n2 f2 B2 m2 g2) (hn:n<=1000000) (hm:m<=1000000) (hn2:n2<=1000000) (hm2:m2<=1000000) (r1 r2:Bool) (h1:okF s n f t m g=r1) (h2:okF s2 n2 f2 t2 m2 g2=r2):
  Calls Tryz.prog 156 #[.slice (some ⟨S,0,none⟩) 2 2,.func (.func 121) #[] #[]] w fun e w'=>e= .returned (.int .i64 (uy r1 r2))/\Below w.heap.size w w':=by
 have hE:=(Env.start w).af hS;have H1:=Lib.hid h1;have H2:=Lib.hid h2;clear h1 h2
 go_enter Tryz.func156,Tryz.ntmps156
 go_wp2_with fail
 go_loopw [8] (fun i wr=>∃k:Nat,k<=2/\i= .int .i64 (k:Int)/\Hid ((0<k->r1=true)/\(1<k->r2=true))/\Env w (fun V=>True/\ak 29 S #[.bool s,.slice A n c,.bool t,.slice B m d,.bool s2,.slice A2 n2 c2,.bool t2,.slice B2 m2 d2] V) wr) (fun i _=>2-(intOf i).toNat)
 case atStart=>exact⟨0,by omega,rfl,Lib.hid ⟨fun h=>absurd h (by omega),fun h=>absurd h (by omega)⟩,hE⟩
 case round=>
  obtain⟨k,hk,rfl,HK,hE⟩:=hrel
  rcases(show k=0\/k=1\/k=2 by omega) with rfl|rfl|rfl
  ·
   obtain⟨⟨k1,k2,k3,k4⟩,-⟩:=hE.here.2.c8
   cases r1 with
   |true=>
    go_wp2_with fail
    refine(nF s t A B n m c d f g _ (hr.below hE.av) hn hm _ H1.out).mono ?_
    rintro e w1 ⟨rfl,hb⟩
    clear k1 k2 k3 k4;go_wp2_with fail
    go_roundw
    case rel=>exact⟨1,by omega,rfl,Lib.hid ⟨fun _=>(by first|rfl|trivial),fun h=>absurd h (by omega)⟩,hE.step hb⟩
    case measure=>simp[intOf]
   |false=>
    go_wp2_with fail
    refine(nF s t A B n m c d f g _ (hr.below hE.av) hn hm _ H1.out).mono ?_
    rintro e w1 ⟨rfl,hb⟩
    clear k1 k2 k3 k4;go_wp2_with fail
    go_ret
    exact⟨rfl,(hE.step hb).av⟩
  ·
   obtain⟨-,k1,k2,k3,k4⟩:=hE.here.2.c8;have DW:=HK.out.1 (by omega)
   cases r2 with
   |true=>
    go_wp2_with fail
    refine(nF s2 t2 A2 B2 n2 m2 c2 d2 f2 g2 _ (JI.below hE.av) hn2 hm2 _ H2.out).mono ?_
    rintro e w1 ⟨rfl,hb⟩
    clear k1 k2 k3 k4;go_wp2_with fail
    go_roundw
    case rel=>exact⟨2,by omega,rfl,Lib.hid ⟨fun _=>DW,fun _=>(by first|rfl|trivial)⟩,hE.step hb⟩
    case measure=>simp[intOf]
   |false=>
    go_wp2_with fail
    refine(nF s2 t2 A2 B2 n2 m2 c2 d2 f2 g2 _ (JI.below hE.av) hn2 hm2 _ H2.out).mono ?_
    rintro e w1 ⟨rfl,hb⟩
    clear k1 k2 k3 k4;go_wp2_with fail
    go_ret
    exact⟨by rw[DW];rfl,(hE.step hb).av⟩
  ·
   have DW:=HK.out.1 (by omega);have agb:=HK.out.2 (by omega);have HR:=Lib.hid DW;have XO:=Lib.hid agb;clear DW agb;go_wp2_with fail
   go_ret
   exact⟨by rw[HR.out,XO.out];rfl,hE.av⟩
theorem C4 (r1 r2:Bool):decide ((0:Int)<=uy r1 r2)= !(r1&&r2):=by cases r1<;>cases r2<;>rfl
section
variable (S:Nat) (s t s2 t2:Bool) (A B A2 B2:Option Addr) (n m c d n2 m2 c2 d2:Nat) (f g f2 g2:Nat->Nat) (w:World) (hS:ak 29 S #[.bool s,.slice A n c,.bool t,.slice B m d,.bool s2,.slice A2 n2 c2,.bool t2,.slice B2 m2 d2] w)
  (hr:oT w A n f B m g) (JI:oT w A2 n2 f2 B2 m2 g2) (hn:n<=1000000) (hm:m<=1000000) (hn2:n2<=1000000) (hm2:m2<=1000000) (r1 r2:Bool) (h1:okF s n f t m g=r1) (h2:okF s2 n2 f2 t2 m2 g2=r2)
include hS hr JI hn hm hn2 hm2 h1 h2
theorem vw :
  Calls Tryz.prog 120 #[.slice (some ⟨S,0,none⟩) 2 2,.func (.func 121) #[] #[]] w fun e w'=>e= .returned (.bool (!(r1&&r2)))/\Below w.heap.size w w':=by
 have HC:=Lib.hid (Fi S s t s2 t2 A B A2 B2 n m c d n2 m2 c2 d2 f g f2 g2 w hS hr JI hn hm hn2 hm2 r1 r2 h1 h2);have hf:=C4 r1 r2
 obtain⟨v,hv⟩:∃v,v=uy r1 r2:=⟨_,rfl⟩
 rw[<-hv] at hf HC;have HF:=Lib.hid hf;clear hf hv h1 h2
 go_enter Tryz.func120,Tryz.ntmps120
 go_wp2_with fail
 refine HC.out.mono ?_
 rintro e w1 ⟨rfl,hb⟩
 clear HC;go_wp2_with fail
 go_ret
 exact⟨aS HF.out,hb⟩
theorem vz :
  Calls Tryz.prog 80 #[.slice (some ⟨S,0,none⟩) 2 2] w fun e w'=>e= .returned (.bool (r1&&r2))/\Below w.heap.size w w':=by
 have HC:=Lib.hid (vw S s t s2 t2 A B A2 B2 n m c d n2 m2 c2 d2 f g f2 g2 w hS hr JI hn hm hn2 hm2 r1 r2 h1 h2);clear h1 h2
 obtain⟨v,hv⟩:∃v,v=(r1&&r2):=⟨_,rfl⟩
 rw[<-hv] at HC;have HV:=Lib.hid hv;clear hv
 go_enter Tryz.func80,Tryz.ntmps80
 go_wp2_with fail
 refine HC.out.mono ?_
 rintro e w1 ⟨rfl,hb⟩
 clear HC;go_wp2_with fail
 go_ret
 exact⟨aS HV.out,hb⟩
end
theorem iJ {p q:Rat}{s t s2 t2:Bool}{A B A2 B2:Option Addr}{n m c d n2 m2 c2 d2:Nat}{W:World}(h1:FV W p s A n t B m)(h2:FV W q s2 A2 n2 t2 B2 m2)(l1:fl p<=256)(l2:fl q<=256):
  Calls Tryz.prog 80 #[.slice (some ⟨W.heap.size,0,none⟩) 2 2] (W.alloc (.cells #[.bool s,.slice A n c,.bool t,.slice B m d,.bool s2,.slice A2 n2 c2,.bool t2,.slice B2 m2 d2] 29)) fun e w'=>e= .returned (.bool true)/\Below W.heap.size W w':=by
 have hb:=(Below.refl W.heap.size W).alloc (Nat.le_refl _) (.cells #[.bool s,.slice A n c,.bool t,.slice B m d,.bool s2,.slice A2 n2 c2,.bool t2,.slice B2 m2 d2] 29);have e1:=h1.ln l1;have e2:=h2.ln l2;have h:=vz W.heap.size s t s2 t2 A B A2 B2 n m c d n2 m2 c2 d2 _ _ _ _ _ (ak.new W _ _) (h1.below hb).rd (h2.below hb).rd (by omega) (by omega) (by omega) (by omega) true true (qy h1 l1) (qy h2 l2)
 exact h.mono fun e w' ⟨he,hb'⟩=>⟨he,hb.trans (hb'.mono hb.size)⟩
end
end Go.Proofs.YtclbiihcbfnjmaaGreat
