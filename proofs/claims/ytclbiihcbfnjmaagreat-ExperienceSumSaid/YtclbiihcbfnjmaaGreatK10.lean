/-
  Parts.
-/
import Derived.Test.YtclbiihcbfnjmaaGreatK2
import Derived.Test.YtclbiihcbfnjmaaGreatK8
import Derived.Test.YtclbiihcbfnjmaaGreatK9
set_option linter.unusedSimpArgs false
set_option maxRecDepth 100000
set_option maxHeartbeats 4000000
namespace Go.Proofs.YtclbiihcbfnjmaaGreat
section
open Go.RowKit

theorem low_pos {n d:Int}(hd:0<d):(Rat.divInt n d).num=n.fdiv ((Nat.gcd n.natAbs d.natAbs:Nat):Int)/\(((Rat.divInt n d).den:Nat):Int)=d.fdiv ((Nat.gcd n.natAbs d.natAbs:Nat):Int):=by
 have h:=low_num (n:=n) hd;rw[Int.fdiv_eq_ediv_of_nonneg _ (by omega),Int.fdiv_eq_ediv_of_nonneg _ (by omega)];exact h
theorem gcd_ne {n d:Int}(hd:d≠0):((Nat.gcd n.natAbs d.natAbs:Nat):Int)≠0:=by
 have:=Nat.gcd_pos_of_pos_right n.natAbs (show 0<d.natAbs by omega);omega
theorem gcd_len {a b:Int}{s t u:Bool}{A B G:Option Addr}{n m g:Nat}{w:World}(_:WV w a s A n)(hb:WV w b t B m)(hg:WV w ((Nat.gcd a.natAbs b.natAbs:Nat):Int) u G g)(hb0:b≠0){k:Nat}(lb:m<=k):g<=k:=by
 rw[hg.len,Int.natAbs_natCast];refine Nat.le_trans (ln_mono b16_two (Nat.gcd_le_right _ (show 0<b.natAbs by omega))) ?_;rw[<-hb.len];exact lb
theorem neg_len {z:Int}{s t:Bool}{A B:Option Addr}{n m k:Nat}{w:World}(h:WV w z s A n)(h2:WV w (-z) t B m)(hk:n<=k):m<=k:=by
 rw[h2.len,Int.natAbs_neg,<-h.len];exact hk
theorem flowest_v {a b:Int}{sa sb:Bool}{Aa Ab:Option Addr}{na ca nb cb:Nat}{w:World}(ha:WV w a sa Aa na)(hb:WV w b sb Ab nb)(la:na<=1024)(lb:nb<=1024)(hb0:b≠0):
  Calls Tryz.prog 114 #[.agg #[.bool sa,.slice Aa na ca],.agg #[.bool sb,.slice Ab nb cb]] w (FR (Rat.divInt a b) w):=by
 cases sb with
 |true=>
  have hd:b<0:=of_decide_eq_true hb.sgn.symm;have hE:=((((Env.start w).wv ha).wv hb).blk 27 #[.bool sa,.slice Aa na ca] (g:=w.heap.size) rfl).blk 27 #[.bool true,.slice Ab nb cb] (g:=w.heap.size+1) (by simp);have hE:=hE.blk 138 qz4 (g:=w.heap.size+1+1) (by simp)
  obtain⟨W0,hW0⟩:∃W0,W0=(((w.alloc (.cells #[.bool sa,.slice Aa na ca] 27)).alloc (.cells #[.bool true,.slice Ab nb cb] 27)).alloc (.cells qz4 138)):=⟨_,rfl⟩
  rw[<-hW0] at hE;have HW0:=Lib.hid hW0;clear hW0
  go_enter Tryz.func114,Tryz.ntmps114
  go_upto_region 1 with(fail)
  rw[<-HW0.out];obtain⟨k1,k2⟩:=(hE.here.1.2).c2
  go_upto_region 2 with(fail)
  clear k1 k2
  go_cut [] from 8 to 11 (fun wx=>∃sx Ax nx cx sy Ay ny cy,Env w (fun V=>(((((((True/\WV V a sa Aa na)/\WV V b true Ab nb)/\Blk 27 (w.heap.size) #[.bool sx,.slice Ax nx cx] V)/\Blk 27 (w.heap.size+1) #[.bool sy,.slice Ay ny cy] V)/\Blk 138 (w.heap.size+1+1) qz4 V)/\WV V (-a) sx Ax nx)/\WV V (-b) sy Ay ny)) wx)
  case first=>
   replace hE:=hE.drew;refine wp_region_held_drew (S:=fun w'=>True) (by kernel_rfl) (trivial) (fun hHeld=> ?_);refine wpAnyH_ready (rs:=[0,2]) (by kernel_rfl) (by simp) (AllReadyH.cons rfl (fun K hK=> ?_) (AllReadyH.cons rfl (fun K hK=> ?_) (AllReadyH.nil)))
   ·
    obtain⟨k3,k4⟩:=(hE.h2).c2;go_simp;clear k3 k4;refine hK.out _ _ (trivial) (fun hHeld=> ?_);clear hK K;try simp only[PL]
    refine wpAnyH_ready (rs:=[1,2]) (by kernel_rfl) (by simp) (AllReadyH.cons rfl (fun K hK=> ?_) (AllReadyH.cons rfl (fun K hK=> ?_) (AllReadyH.nil)))
    ·
     go_simp;have hc:=fopposite_v (c:=ca) hE.h4 la;refine hc.mono ?_;clear hc
     rintro e w5 ⟨sx,Ax,nx,cx,rfl,hx,hb⟩
     replace hE:=hE.step hb;clear hb;replace hE:=hE.wv hx;clear hx;go_wp2_with fail
     refine hK.out _ _ (trivial) (fun hHeld=> ?_);clear hK K;try simp only[PL]
     refine r1 2 (fun K hK=> ?_);obtain⟨k6,k7⟩:=(hE.h2).c2;go_simp;clear k6 k7;refine hK.out _ _ (trivial) (fun hHeld=> ?_);clear hK K;try simp only[PL]
     refine r1 3 (fun K hK=> ?_);go_simp;have hc:=fopposite_v (c:=cb) hE.h4 lb;refine hc.mono ?_;clear hc
     rintro e w8 ⟨sy,Ay,ny,cy,rfl,hy,hb⟩
     replace hE:=hE.step hb;clear hb;replace hE:=hE.wv hy;clear hy;go_wp2_with fail
     refine hK.out _ _ (trivial) (fun hHeld=> ?_);clear hK K;try simp only[PL]
     refine r1 4 (fun K hK=> ?_)
     have hgl9:w.heap.size<=w.heap.size:=by omega
     obtain⟨x9_0,x9_1⟩:=(hE.h4).c2;obtain⟨f9_0,f9_1⟩:=hE.h4.f2;replace hE:=((((((((Env.again (bel2 hE.bel hgl9 (.bool sx) (.slice Ax nx cx))).wv ((hE.h6).sep2 hE.h4 rfl _ _ rfl)).wv ((hE.h5).sep2 hE.h4 rfl _ _ rfl)).blkI ((hE.h4).s2 _ _)).blkI ((hE.h3).far2 (by omega) _ _)).blkI ((hE.h2).far2 (by omega) _ _)).wv ((hE.here.1.2).sep2 hE.h4 rfl _ _ rfl)).wv ((hE.here.2).sep2 hE.h4 rfl _ _ rfl));go_simp;clear x9_0 x9_1 f9_0 f9_1 hgl9;generalize ((w8.setCell ⟨w.heap.size,0,none⟩ (.bool sx)).setCell ⟨w.heap.size,1,none⟩ (.slice Ax nx cx))=W9 at hE⊢;refine hK.out _ _ (trivial) (fun hHeld=> ?_);clear hK K;try simp only[PL]
     refine r1 5 (fun K hK=> ?_)
     have hgl10:w.heap.size<=w.heap.size+1:=by omega
     obtain⟨x10_0,x10_1⟩:=(hE.h3).c2;obtain⟨f10_0,f10_1⟩:=hE.h3.f2;replace hE:=((((((((Env.again (bel2 hE.bel hgl10 (.bool sy) (.slice Ay ny cy))).wv ((hE.h6).sep2 hE.h3 rfl _ _ rfl)).wv ((hE.h5).sep2 hE.h3 rfl _ _ rfl)).blkI ((hE.h4).far2 (R:=w.heap.size+1) (by omega) _ _)).blkI ((hE.h3).s2 _ _)).blkI ((hE.h2).far2 (R:=w.heap.size+1) (by omega) _ _)).wv ((hE.here.1.2).sep2 hE.h3 rfl _ _ rfl)).wv ((hE.here.2).sep2 hE.h3 rfl _ _ rfl));go_simp;clear x10_0 x10_1 f10_0 f10_1 hgl10;generalize ((W9.setCell ⟨w.heap.size+1,0,none⟩ (.bool sy)).setCell ⟨w.heap.size+1,1,none⟩ (.slice Ay ny cy))=W10 at hE⊢;refine hK.out _ _ (trivial) (fun hHeld=> ?_);clear hK K;try simp only[PL]
     refine wpAnyH_done (by kernel_rfl) ?_ _;go_wp2_with fail
     go_meet
     exact⟨sx,Ax,nx,cx,sy,Ay,ny,cy,hE⟩
    ·
     obtain⟨k11,k12⟩:=(hE.here.1.2).c2;go_simp;clear k11 k12;refine hK.out _ _ (trivial) (fun hHeld=> ?_);clear hK K;try simp only[PL]
     refine r1 1 (fun K hK=> ?_);go_simp;have hc:=fopposite_v (c:=ca) hE.h4 la;refine hc.mono ?_;clear hc
     rintro e w13 ⟨sx,Ax,nx,cx,rfl,hx,hb⟩
     replace hE:=hE.step hb;clear hb;replace hE:=hE.wv hx;clear hx;go_wp2_with fail
     refine hK.out _ _ (trivial) (fun hHeld=> ?_);clear hK K;try simp only[PL]
     refine r1 3 (fun K hK=> ?_);go_simp;have hc:=fopposite_v (c:=cb) hE.h4 lb;refine hc.mono ?_;clear hc
     rintro e w14 ⟨sy,Ay,ny,cy,rfl,hy,hb⟩
     replace hE:=hE.step hb;clear hb;replace hE:=hE.wv hy;clear hy;go_wp2_with fail
     refine hK.out _ _ (trivial) (fun hHeld=> ?_);clear hK K;try simp only[PL]
     refine r1 4 (fun K hK=> ?_)
     have hgl15:w.heap.size<=w.heap.size:=by omega
     obtain⟨x15_0,x15_1⟩:=(hE.h4).c2;obtain⟨f15_0,f15_1⟩:=hE.h4.f2;replace hE:=((((((((Env.again (bel2 hE.bel hgl15 (.bool sx) (.slice Ax nx cx))).wv ((hE.h6).sep2 hE.h4 rfl _ _ rfl)).wv ((hE.h5).sep2 hE.h4 rfl _ _ rfl)).blkI ((hE.h4).s2 _ _)).blkI ((hE.h3).far2 (by omega) _ _)).blkI ((hE.h2).far2 (by omega) _ _)).wv ((hE.here.1.2).sep2 hE.h4 rfl _ _ rfl)).wv ((hE.here.2).sep2 hE.h4 rfl _ _ rfl));go_simp;clear x15_0 x15_1 f15_0 f15_1 hgl15;generalize ((w14.setCell ⟨w.heap.size,0,none⟩ (.bool sx)).setCell ⟨w.heap.size,1,none⟩ (.slice Ax nx cx))=W15 at hE⊢;refine hK.out _ _ (trivial) (fun hHeld=> ?_);clear hK K;try simp only[PL]
     refine r1 5 (fun K hK=> ?_)
     have hgl16:w.heap.size<=w.heap.size+1:=by omega
     obtain⟨x16_0,x16_1⟩:=(hE.h3).c2;obtain⟨f16_0,f16_1⟩:=hE.h3.f2;replace hE:=((((((((Env.again (bel2 hE.bel hgl16 (.bool sy) (.slice Ay ny cy))).wv ((hE.h6).sep2 hE.h3 rfl _ _ rfl)).wv ((hE.h5).sep2 hE.h3 rfl _ _ rfl)).blkI ((hE.h4).far2 (R:=w.heap.size+1) (by omega) _ _)).blkI ((hE.h3).s2 _ _)).blkI ((hE.h2).far2 (R:=w.heap.size+1) (by omega) _ _)).wv ((hE.here.1.2).sep2 hE.h3 rfl _ _ rfl)).wv ((hE.here.2).sep2 hE.h3 rfl _ _ rfl));go_simp;clear x16_0 x16_1 f16_0 f16_1 hgl16;generalize ((W15.setCell ⟨w.heap.size+1,0,none⟩ (.bool sy)).setCell ⟨w.heap.size+1,1,none⟩ (.slice Ay ny cy))=W16 at hE⊢;refine hK.out _ _ (trivial) (fun hHeld=> ?_);clear hK K;try simp only[PL]
     refine wpAnyH_done (by kernel_rfl) ?_ _;go_wp2_with fail
     go_meet
     exact⟨sx,Ax,nx,cx,sy,Ay,ny,cy,hE⟩
   ·
    obtain⟨k17,k18⟩:=(hE.here.1.2).c2;go_simp;clear k17 k18;refine hK.out _ _ (trivial) (fun hHeld=> ?_);clear hK K;try simp only[PL]
    refine r1 0 (fun K hK=> ?_);obtain⟨k19,k20⟩:=(hE.h2).c2;go_simp;clear k19 k20;refine hK.out _ _ (trivial) (fun hHeld=> ?_);clear hK K;try simp only[PL]
    refine r1 1 (fun K hK=> ?_);go_simp;have hc:=fopposite_v (c:=ca) hE.h4 la;refine hc.mono ?_;clear hc
    rintro e w21 ⟨sx,Ax,nx,cx,rfl,hx,hb⟩
    replace hE:=hE.step hb;clear hb;replace hE:=hE.wv hx;clear hx;go_wp2_with fail
    refine hK.out _ _ (trivial) (fun hHeld=> ?_);clear hK K;try simp only[PL]
    refine r1 3 (fun K hK=> ?_);go_simp;have hc:=fopposite_v (c:=cb) hE.h4 lb;refine hc.mono ?_;clear hc
    rintro e w22 ⟨sy,Ay,ny,cy,rfl,hy,hb⟩
    replace hE:=hE.step hb;clear hb;replace hE:=hE.wv hy;clear hy;go_wp2_with fail
    refine hK.out _ _ (trivial) (fun hHeld=> ?_);clear hK K;try simp only[PL]
    refine r1 4 (fun K hK=> ?_)
    have hgl23:w.heap.size<=w.heap.size:=by omega
    obtain⟨x23_0,x23_1⟩:=(hE.h4).c2;obtain⟨f23_0,f23_1⟩:=hE.h4.f2;replace hE:=((((((((Env.again (bel2 hE.bel hgl23 (.bool sx) (.slice Ax nx cx))).wv ((hE.h6).sep2 hE.h4 rfl _ _ rfl)).wv ((hE.h5).sep2 hE.h4 rfl _ _ rfl)).blkI ((hE.h4).s2 _ _)).blkI ((hE.h3).far2 (by omega) _ _)).blkI ((hE.h2).far2 (by omega) _ _)).wv ((hE.here.1.2).sep2 hE.h4 rfl _ _ rfl)).wv ((hE.here.2).sep2 hE.h4 rfl _ _ rfl));go_simp;clear x23_0 x23_1 f23_0 f23_1 hgl23;generalize ((w22.setCell ⟨w.heap.size,0,none⟩ (.bool sx)).setCell ⟨w.heap.size,1,none⟩ (.slice Ax nx cx))=W23 at hE⊢;refine hK.out _ _ (trivial) (fun hHeld=> ?_);clear hK K;try simp only[PL]
    refine r1 5 (fun K hK=> ?_)
    have hgl24:w.heap.size<=w.heap.size+1:=by omega
    obtain⟨x24_0,x24_1⟩:=(hE.h3).c2;obtain⟨f24_0,f24_1⟩:=hE.h3.f2;replace hE:=((((((((Env.again (bel2 hE.bel hgl24 (.bool sy) (.slice Ay ny cy))).wv ((hE.h6).sep2 hE.h3 rfl _ _ rfl)).wv ((hE.h5).sep2 hE.h3 rfl _ _ rfl)).blkI ((hE.h4).far2 (R:=w.heap.size+1) (by omega) _ _)).blkI ((hE.h3).s2 _ _)).blkI ((hE.h2).far2 (R:=w.heap.size+1) (by omega) _ _)).wv ((hE.here.1.2).sep2 hE.h3 rfl _ _ rfl)).wv ((hE.here.2).sep2 hE.h3 rfl _ _ rfl));go_simp;clear x24_0 x24_1 f24_0 f24_1 hgl24;generalize ((W23.setCell ⟨w.heap.size+1,0,none⟩ (.bool sy)).setCell ⟨w.heap.size+1,1,none⟩ (.slice Ay ny cy))=W24 at hE⊢;refine hK.out _ _ (trivial) (fun hHeld=> ?_);clear hK K;try simp only[PL]
    refine wpAnyH_done (by kernel_rfl) ?_ _;go_wp2_with fail
    go_meet
    exact⟨sx,Ax,nx,cx,sy,Ay,ny,cy,hE⟩
  case rest=>
  clear hE;obtain⟨sx,Ax,nx,cx,sy,Ay,ny,cy,hE⟩:=hcut;have la2:=neg_len hE.h6 hE.here.1.2 la;have lb2:=neg_len hE.h5 hE.here.2 lb;clear la lb;have la:=la2;have lb:=lb2;clear la2 lb2
  go_upto_region 3 with(fail)
  obtain⟨k25,k26⟩:=(hE.h4).c2;obtain⟨k27,k28⟩:=(hE.h3).c2;go_wp2_with fail
  have hc:=fdivisor_v (ca:=cx) (cb:=cy) hE.here.1.2 hE.here.2 la lb;refine hc.mono ?_;clear hc;clear k25 k26 k27 k28
  rintro e w29 ⟨sg,Ag,ng,cg,rfl,hg,hb⟩
  replace hE:=hE.step hb;clear hb;replace hE:=hE.wv hg;clear hg;have lg:=gcd_len hE.h2 hE.here.1.2 hE.here.2 (show((-b))≠0 by omega) lb
  go_upto_region 4 with(fail)
  obtain⟨g30,hg30⟩:∃g30,g30=w29.heap.size:=⟨_,rfl⟩
  have hl30_2:w.heap.size<g30:=by rw[hg30];exact(hE.h5).lt
  have hl30_3:w.heap.size+1<g30:=by rw[hg30];exact(hE.h4).lt
  have hl30_4:w.heap.size+1+1<g30:=by rw[hg30];exact(hE.h3).lt
  replace hE:=hE.blk 27 #[.bool sg,.slice Ag ng cg] (g:=g30) hg30.symm;generalize w29.alloc (.cells #[.bool sg,.slice Ag ng cg] 27)=W30 at hE⊢;rw[<-hg30];clear hg30;obtain⟨k31,k32⟩:=(hE.h6).c2;obtain⟨k33,k34⟩:=(hE.here.2).c2;go_wp2_with fail
  have hc:=fdivide_v (ca:=cx) (cb:=cg) hE.h3 hE.here.1.2 la lg (gcd_ne (show((-b))≠0 by omega));refine hc.mono ?_;clear hc;clear k31 k32 k33 k34
  rintro e w35 ⟨sp,Ap,np,cp,sr,Ar,nr,cr,rfl,hp,hr,hb⟩
  replace hE:=hE.step hb;clear hb;replace hE:=hE.wv hp;clear hp;replace hE:=hE.wv hr;clear hr
  have hgl36:w.heap.size<=w.heap.size:=by omega
  obtain⟨x36_0,x36_1⟩:=(hE.h8).c2;obtain⟨f36_0,f36_1⟩:=hE.h8.f2;replace hE:=((((((((((((Env.again (bel2 hE.bel hgl36 (.bool sp) (.slice Ap np cp))).wv ((hE.h10).sep2 hE.h8 rfl _ _ rfl)).wv ((hE.h9).sep2 hE.h8 rfl _ _ rfl)).blkI ((hE.h8).s2 _ _)).blkI ((hE.h7).far2 (by omega) _ _)).blkI ((hE.h6).far2 (by omega) _ _)).wv ((hE.h5).sep2 hE.h8 rfl _ _ rfl)).wv ((hE.h4).sep2 hE.h8 rfl _ _ rfl)).wv ((hE.h3).sep2 hE.h8 rfl _ _ rfl)).blkI ((hE.h2).far2 (by omega) _ _)).wv ((hE.here.1.2).sep2 hE.h8 rfl _ _ rfl)).wv ((hE.here.2).sep2 hE.h8 rfl _ _ rfl))
  go_upto_region 5 with(fail)
  clear x36_0 x36_1 f36_0 f36_1 hgl36;generalize ((w35.setCell ⟨w.heap.size,0,none⟩ (.bool sp)).setCell ⟨w.heap.size,1,none⟩ (.slice Ap np cp))=W36 at hE⊢;obtain⟨k37,k38⟩:=(hE.h7).c2;obtain⟨k39,k40⟩:=(hE.h2).c2;go_wp2_with fail
  have hc:=fdivide_v (ca:=cy) (cb:=cg) hE.h4 hE.h3 lb lg (gcd_ne (show((-b))≠0 by omega));refine hc.mono ?_;clear hc;clear k37 k38 k39 k40
  rintro e w41 ⟨sq,Aq,nq,cq,su,Au,nu,cu,rfl,hq,hu,hb⟩
  replace hE:=hE.step hb;clear hb;replace hE:=hE.wv hq;clear hq;replace hE:=hE.wv hu;clear hu
  have hgl42:w.heap.size<=w.heap.size+1:=by omega
  obtain⟨x42_0,x42_1⟩:=(hE.h9).c2;obtain⟨f42_0,f42_1⟩:=hE.h9.f2;replace hE:=((((((((((((((Env.again (bel2 hE.bel hgl42 (.bool sq) (.slice Aq nq cq))).wv ((hE.h12).sep2 hE.h9 rfl _ _ rfl)).wv ((hE.h11).sep2 hE.h9 rfl _ _ rfl)).blkI ((hE.h10).far2 (R:=w.heap.size+1) (by omega) _ _)).blkI ((hE.h9).s2 _ _)).blkI ((hE.h8).far2 (R:=w.heap.size+1) (by omega) _ _)).wv ((hE.h7).sep2 hE.h9 rfl _ _ rfl)).wv ((hE.h6).sep2 hE.h9 rfl _ _ rfl)).wv ((hE.h5).sep2 hE.h9 rfl _ _ rfl)).blkI ((hE.h4).far2 (R:=w.heap.size+1) (by omega) _ _)).wv ((hE.h3).sep2 hE.h9 rfl _ _ rfl)).wv ((hE.h2).sep2 hE.h9 rfl _ _ rfl)).wv ((hE.here.1.2).sep2 hE.h9 rfl _ _ rfl)).wv ((hE.here.2).sep2 hE.h9 rfl _ _ rfl))
  go_upto_region 6 with(fail)
  clear x42_0 x42_1 f42_0 f42_1 hgl42;generalize ((w41.setCell ⟨w.heap.size+1,0,none⟩ (.bool sq)).setCell ⟨w.heap.size+1,1,none⟩ (.slice Aq nq cq))=W42 at hE⊢;obtain⟨e1,e2⟩:=low_pos (n:=(-a)) (d:=(-b)) (show 0< -b by omega);rw[low_neg] at e1 e2;have hfv:FV W42 (Rat.divInt a b) sp Ap np sq Aq nq:=⟨by rw[e1];exact hE.h3,by rw[e2];exact hE.here.1.2⟩;clear e1 e2;replace hE:=hE.fv hfv;clear hfv;obtain⟨k43,k44⟩:=(hE.h11).c2;obtain⟨k45,k46⟩:=(hE.h10).c2
  have hRl:w.heap.size<=w.heap.size+1+1:=by omega
  obtain⟨WW,hWW,hB,hV,hBel⟩:=ret_frac hE hE.h9 hRl hE.here.2 cp cq;obtain⟨x0,x1,x2,x3⟩:=(hE.h9).c4;obtain⟨fz0,fz1,fz2,fz3⟩:=hE.h9.f4;have HWW:=Lib.hid hWW;clear hWW;go_wp2_with fail
  clear k43 k44 k45 k46;rw[<-HWW.out];obtain⟨y0,y1,y2,y3⟩:=hB.c4;refine bodyPost_ret (v:= .agg (qf4 sp Ap np cp sq Aq nq cq)) (by simp[results,Tryz.results114,go_sem,y0,y1,y2,y3]) rfl ?_;exact⟨sp,Ap,np,cp,sq,Aq,nq,cq,rfl,hV,hBel⟩
 |false=>
  have hd:0<b:=by have:=of_decide_eq_false hb.sgn.symm;omega
  have hE:=((((Env.start w).wv ha).wv hb).blk 27 #[.bool sa,.slice Aa na ca] (g:=w.heap.size) rfl).blk 27 #[.bool false,.slice Ab nb cb] (g:=w.heap.size+1) (by simp);have hE:=hE.blk 138 qz4 (g:=w.heap.size+1+1) (by simp)
  obtain⟨W0,hW0⟩:∃W0,W0=(((w.alloc (.cells #[.bool sa,.slice Aa na ca] 27)).alloc (.cells #[.bool false,.slice Ab nb cb] 27)).alloc (.cells qz4 138)):=⟨_,rfl⟩
  rw[<-hW0] at hE;have HW0:=Lib.hid hW0;clear hW0
  go_enter Tryz.func114,Tryz.ntmps114
  go_upto_region 1 with(fail)
  rw[<-HW0.out];obtain⟨k1,k2⟩:=(hE.here.1.2).c2
  go_upto_region 3 with(fail)
  clear k1 k2;obtain⟨k3,k4⟩:=(hE.h2).c2;obtain⟨k5,k6⟩:=(hE.here.1.2).c2;go_wp2_with fail
  have hc:=fdivisor_v (ca:=ca) (cb:=cb) hE.h4 hE.h3 la lb;refine hc.mono ?_;clear hc;clear k3 k4 k5 k6
  rintro e w7 ⟨sg,Ag,ng,cg,rfl,hg,hb⟩
  replace hE:=hE.step hb;clear hb;replace hE:=hE.wv hg;clear hg;have lg:=gcd_len hE.h5 hE.h4 hE.here.2 (show(b)≠0 by omega) lb
  go_upto_region 4 with(fail)
  obtain⟨g8,hg8⟩:∃g8,g8=w7.heap.size:=⟨_,rfl⟩
  have hl8_2:w.heap.size<g8:=by rw[hg8];exact(hE.h3).lt
  have hl8_3:w.heap.size+1<g8:=by rw[hg8];exact(hE.h2).lt
  have hl8_4:w.heap.size+1+1<g8:=by rw[hg8];exact(hE.here.1.2).lt
  replace hE:=hE.blk 27 #[.bool sg,.slice Ag ng cg] (g:=g8) hg8.symm;generalize w7.alloc (.cells #[.bool sg,.slice Ag ng cg] 27)=W8 at hE⊢;rw[<-hg8];clear hg8;obtain⟨k9,k10⟩:=(hE.h4).c2;obtain⟨k11,k12⟩:=(hE.here.2).c2;go_wp2_with fail
  have hc:=fdivide_v (ca:=ca) (cb:=cg) hE.h6 hE.here.1.2 la lg (gcd_ne (show(b)≠0 by omega));refine hc.mono ?_;clear hc;clear k9 k10 k11 k12
  rintro e w13 ⟨sp,Ap,np,cp,sr,Ar,nr,cr,rfl,hp,hr,hb⟩
  replace hE:=hE.step hb;clear hb;replace hE:=hE.wv hp;clear hp;replace hE:=hE.wv hr;clear hr
  have hgl14:w.heap.size<=w.heap.size:=by omega
  obtain⟨x14_0,x14_1⟩:=(hE.h6).c2;obtain⟨f14_0,f14_1⟩:=hE.h6.f2;replace hE:=((((((((((Env.again (bel2 hE.bel hgl14 (.bool sp) (.slice Ap np cp))).wv ((hE.h8).sep2 hE.h6 rfl _ _ rfl)).wv ((hE.h7).sep2 hE.h6 rfl _ _ rfl)).blkI ((hE.h6).s2 _ _)).blkI ((hE.h5).far2 (by omega) _ _)).blkI ((hE.h4).far2 (by omega) _ _)).wv ((hE.h3).sep2 hE.h6 rfl _ _ rfl)).blkI ((hE.h2).far2 (by omega) _ _)).wv ((hE.here.1.2).sep2 hE.h6 rfl _ _ rfl)).wv ((hE.here.2).sep2 hE.h6 rfl _ _ rfl))
  go_upto_region 5 with(fail)
  clear x14_0 x14_1 f14_0 f14_1 hgl14;generalize ((w13.setCell ⟨w.heap.size,0,none⟩ (.bool sp)).setCell ⟨w.heap.size,1,none⟩ (.slice Ap np cp))=W14 at hE⊢;obtain⟨k15,k16⟩:=(hE.h5).c2;obtain⟨k17,k18⟩:=(hE.h2).c2;go_wp2_with fail
  have hc:=fdivide_v (ca:=cb) (cb:=cg) hE.h7 hE.h3 lb lg (gcd_ne (show(b)≠0 by omega));refine hc.mono ?_;clear hc;clear k15 k16 k17 k18
  rintro e w19 ⟨sq,Aq,nq,cq,su,Au,nu,cu,rfl,hq,hu,hb⟩
  replace hE:=hE.step hb;clear hb;replace hE:=hE.wv hq;clear hq;replace hE:=hE.wv hu;clear hu
  have hgl20:w.heap.size<=w.heap.size+1:=by omega
  obtain⟨x20_0,x20_1⟩:=(hE.h7).c2;obtain⟨f20_0,f20_1⟩:=hE.h7.f2;replace hE:=((((((((((((Env.again (bel2 hE.bel hgl20 (.bool sq) (.slice Aq nq cq))).wv ((hE.h10).sep2 hE.h7 rfl _ _ rfl)).wv ((hE.h9).sep2 hE.h7 rfl _ _ rfl)).blkI ((hE.h8).far2 (R:=w.heap.size+1) (by omega) _ _)).blkI ((hE.h7).s2 _ _)).blkI ((hE.h6).far2 (R:=w.heap.size+1) (by omega) _ _)).wv ((hE.h5).sep2 hE.h7 rfl _ _ rfl)).blkI ((hE.h4).far2 (R:=w.heap.size+1) (by omega) _ _)).wv ((hE.h3).sep2 hE.h7 rfl _ _ rfl)).wv ((hE.h2).sep2 hE.h7 rfl _ _ rfl)).wv ((hE.here.1.2).sep2 hE.h7 rfl _ _ rfl)).wv ((hE.here.2).sep2 hE.h7 rfl _ _ rfl))
  go_upto_region 6 with(fail)
  clear x20_0 x20_1 f20_0 f20_1 hgl20;generalize ((w19.setCell ⟨w.heap.size+1,0,none⟩ (.bool sq)).setCell ⟨w.heap.size+1,1,none⟩ (.slice Aq nq cq))=W20 at hE⊢;obtain⟨e1,e2⟩:=low_pos (n:=a) (d:=b) hd;have hfv:FV W20 (Rat.divInt a b) sp Ap np sq Aq nq:=⟨by rw[e1];exact hE.h3,by rw[e2];exact hE.here.1.2⟩;clear e1 e2;replace hE:=hE.fv hfv;clear hfv;obtain⟨k21,k22⟩:=(hE.h9).c2;obtain⟨k23,k24⟩:=(hE.h8).c2
  have hRl:w.heap.size<=w.heap.size+1+1:=by omega
  obtain⟨WW,hWW,hB,hV,hBel⟩:=ret_frac hE hE.h7 hRl hE.here.2 cp cq;obtain⟨x0,x1,x2,x3⟩:=(hE.h7).c4;obtain⟨fz0,fz1,fz2,fz3⟩:=hE.h7.f4;have HWW:=Lib.hid hWW;clear hWW;go_wp2_with fail
  clear k21 k22 k23 k24;rw[<-HWW.out];obtain⟨y0,y1,y2,y3⟩:=hB.c4;refine bodyPost_ret (v:= .agg (qf4 sp Ap np cp sq Aq nq cq)) (by simp[results,Tryz.results114,go_sem,y0,y1,y2,y3]) rfl ?_;exact⟨sp,Ap,np,cp,sq,Aq,nq,cq,rfl,hV,hBel⟩
end
section
open Go.RowKit

def okF (s:Bool)(n:Nat)(f:Nat->Nat)(t:Bool)(m:Nat)(g:Nat->Nat):Bool:=
 !(decide (256<n)||decide (256<m))&&(okW s n f&&(okW t m g&&(!t&&(!decide (m=0)&&(Nat.gcd (vs b16 f n) (vs b16 g m)==1)))))
def FRd (w:World)(A:Option Addr)(n:Nat)(f:Nat->Nat)(B:Option Addr)(m:Nat)(g:Nat->Nat):Prop:=
 Rd w.heap.size .u16 w A n f/\Rd w.heap.size .u16 w B m g/\(∀j,j<n->f j<65536)/\(∀j,j<m->g j<65536)
theorem FRd.below {w w':World}{A B:Option Addr}{n m:Nat}{f g:Nat->Nat}(h:FRd w A n f B m g)(hb:Below w.heap.size w w'):FRd w' A n f B m g:=
 ⟨(h.1.below hb).more hb.size,(h.2.1.below hb).more hb.size,h.2.2.1,h.2.2.2⟩
theorem FV.rd {w:World}{q:Rat}{s t:Bool}{A B:Option Addr}{n m:Nat}(h:FV w q s A n t B m):FRd w A n (dgt b16 q.num.natAbs) B m (dgt b16 q.den):=by
 obtain⟨⟨-,h1,h2⟩,⟨-,h3,h4⟩⟩:=h;unfold Num16 at h2 h4;rw[<-h1] at h2;rw[<-h3] at h4;rw[Int.natAbs_natCast] at h4;exact⟨h2,h4,fun j _=>dgt16_lt _ j,fun j _=>dgt16_lt _ j⟩
theorem okF_of {w:World}{q:Rat}{s t:Bool}{A B:Option Addr}{n m:Nat}(h:FV w q s A n t B m)(hq:fl q<=256):okF s n (dgt b16 q.num.natAbs) t m (dgt b16 q.den)=true:=by
 obtain⟨l1,l2⟩:=fl_le.1 hq;obtain⟨⟨h0,h1,h2⟩,⟨h5,h3,h4⟩⟩:=h;rw[Int.natAbs_natCast] at h3;have e1:=okW_num (z:=q.num) (by omega);have e2:=okW_num (z:=((q.den:Nat):Int)) (by rw[Int.natAbs_natCast];omega);rw[Int.natAbs_natCast] at e2;have hd:=den_pos q
 have hm:0<m:=by rw[h3];exact(ln_pos b16_two).2 hd
 unfold okF;rw[decide_eq_false (show¬256<n by omega),decide_eq_false (show¬256<m by omega),decide_eq_false (show¬m=0 by omega),h0,h5,h1,h3,e1,e2,vs_dgt_ln b16_two,vs_dgt_ln b16_two,beq_iff_eq.2 (show Nat.gcd q.num.natAbs q.den=1 from q.reduced)];rw[decide_eq_false (show¬((q.den:Nat):Int)<0 by omega)];rfl
theorem okW_wv {w:World}{s:Bool}{A:Option Addr}{n:Nat}{f:Nat->Nat}(hr:Rd w.heap.size .u16 w A n f)(hf:∀j,j<n->f j<65536)(h:okW s n f=true):WV w (toI s (vs b16 f n)) s A n:=by
 have hln:ln b16 (vs b16 f n)=n:=by
  unfold okW at h
  by_cases h0:n=0
  ·subst h0;rw[vs_zero,ln_zero]
  ·
   rw[if_neg h0,Bool.and_eq_true] at h;exact ln_vs b16_two hf (.inr (by simpa using h.2))
 refine⟨?_,by rw[toI_abs,hln], ?_⟩
 ·
  rw[toI_neg];unfold okW at h
  by_cases h0:n=0
  ·
   subst h0;rw[if_pos rfl] at h;rw[vs_zero]
   revert h;cases s<;>simp
  ·
   have:0<vs b16 f n:=(ln_pos b16_two).1 (by omega);rw[decide_eq_true this,Bool.and_true]
 ·
  rw[toI_abs];exact Num16.of_rd hr hf
theorem flong_any (s t:Bool)(A B:Option Addr)(n m c d:Nat)(w:World):
  Calls Tryz.prog 147 #[.agg (qf4 s A n c t B m d)] w fun e w'=>e= .returned (.bool (decide (256<n)||decide (256<m)))/\Below w.heap.size w w':=by
 have hbl:Below w.heap.size w (w.alloc (.cells (qf4 s A n c t B m d) 138)):=(Below.refl _ _).alloc (Nat.le_refl _) _
 by_cases h1:256<n
 ·
  have HE:=Lib.hid (decide_eq_true h1);have t1:decide ((256:Int)<(n:Int))=true:=decide_eq_true (by omega);clear h1
  go_enter Tryz.func147,Tryz.ntmps147
  go_wp2_with fail
  go_ret
  exact⟨ret_bool (by rw[HE.out];rfl),hbl⟩
 ·
  have HE:=Lib.hid (decide_eq_false h1);have t1:decide ((256:Int)<(n:Int))=false:=decide_eq_false (by omega);clear h1
  by_cases h2:256<m
  ·
   have HE2:=Lib.hid (decide_eq_true h2);have t2:decide ((256:Int)<(m:Int))=true:=decide_eq_true (by omega);clear h2
   go_enter Tryz.func147,Tryz.ntmps147
   go_wp2_with fail
   go_ret
   exact⟨ret_bool (by rw[HE.out,HE2.out];rfl),hbl⟩
  ·
   have HE2:=Lib.hid (decide_eq_false h2);have t2:decide ((256:Int)<(m:Int))=false:=decide_eq_false (by omega);clear h2
   go_enter Tryz.func147,Tryz.ntmps147
   go_wp2_with fail
   go_ret
   exact⟨ret_bool (by rw[HE.out,HE2.out];rfl),hbl⟩
theorem fintegral_v {s t:Bool}{A B:Option Addr}{n m c d:Nat}{z:Int}{w:World}(hB:WV w z t B m)(hm:m<=1000000):
  Calls Tryz.prog 149 #[.agg (qf4 s A n c t B m d)] w fun e w'=>e= .returned (.bool (decide (z=1)))/\Below w.heap.size w w':=by
 have hbl:Below w.heap.size w (w.alloc (.cells (qf4 s A n c t B m d) 138)):=(Below.refl _ _).alloc (Nat.le_refl _) _;have HC:=Lib.hid (isOne_v (c:=d) (hB.below hbl) hm);clear hB
 go_enter Tryz.func149,Tryz.ntmps149
 go_wp2_with fail
 refine HC.out.mono ?_
 rintro e w1 ⟨rfl,hb⟩
 obtain⟨y,hy⟩:∃y,y=decide (z=1):=⟨_,rfl⟩
 rw[<-hy];have HY:=Lib.hid hy;clear hy HC;go_wp2_with fail
 go_ret
 exact⟨ret_bool HY.out,hbl.trans (hb.mono hbl.size)⟩
theorem whole_valid_any (s:Bool)(A:Option Addr)(n c:Nat)(f:Nat->Nat)(w:World)(h:Rd w.heap.size .u16 w A n f)(hf:∀i,i<n->f i<65536)(hn:n<=1000000)(r:Bool)(hr:okW s n f=r):
  Calls Tryz.prog 148 #[.agg #[.bool s,.slice A n c]] w fun e w'=>e= .returned (.bool r)/\Below w.heap.size w w':=by
 subst hr;exact valid_any s A n c f w h hf hn
theorem flong_r (s t:Bool)(A B:Option Addr)(n m c d:Nat)(w:World)(r:Bool)(hr:(decide (256<n)||decide (256<m))=r):
  Calls Tryz.prog 147 #[.agg (qf4 s A n c t B m d)] w fun e w'=>e= .returned (.bool r)/\Below w.heap.size w w':=by
 subst hr;exact flong_any s t A B n m c d w
theorem gcd_toI (s t:Bool)(x y:Nat):Nat.gcd (toI s x).natAbs (toI t y).natAbs=Nat.gcd x y:=by rw[toI_abs,toI_abs]
theorem ftvalid_any (s t:Bool)(A B:Option Addr)(n m c d:Nat)(f g:Nat->Nat)(w:World)(hr:FRd w A n f B m g)(hn:n<=1000000)(hm:m<=1000000):
  Calls Tryz.prog 113 #[.agg (qf4 s A n c t B m d)] w fun e w'=>e= .returned (.bool (okF s n f t m g))/\Below w.heap.size w w':=by
 have hE:=(Env.start w).blk 138 (qf4 s A n c t B m d) (g:=w.heap.size) rfl
 obtain⟨W0,hW0⟩:∃W0,W0=w.alloc (.cells (qf4 s A n c t B m d) 138):=⟨_,rfl⟩
 rw[<-hW0] at hE;have HW0:=Lib.hid hW0;clear hW0
 obtain⟨r,hres⟩:∃r,r=okF s n f t m g:=⟨_,rfl⟩
 rw[<-hres];unfold okF at hres
 obtain⟨L,hL⟩:∃L,(decide (256<n)||decide (256<m))=L:=⟨_,rfl⟩
 obtain⟨v1,hv1⟩:∃v1,okW s n f=v1:=⟨_,rfl⟩
 obtain⟨v2,hv2⟩:∃v2,okW t m g=v2:=⟨_,rfl⟩
 rw[hL,hv1,hv2] at hres;have HL:=Lib.hid hL;have HV1:=Lib.hid hv1;have HV2:=Lib.hid hv2;clear hL hv1 hv2
 cases L with
 |true=>
  obtain rfl:r=false:=by rw[hres];rfl
  clear hres
  go_enter Tryz.func113,Tryz.ntmps113
  go_upto_region 1 with(fail)
  rw[<-HW0.out];obtain⟨k1,k2,k3,k4⟩:=hE.here.2.c4;go_wp2_with fail
  refine(flong_r s t A B n m c d _ _ HL.out).mono ?_
  rintro e w1 ⟨rfl,hb⟩
  clear k1 k2 k3 k4;go_wp2_with fail
  go_ret
  exact⟨rfl,(hE.step hb).bel⟩
 |false=>
  have hlen:n<=256/\m<=256:=by have:=HL.out;simp only[Bool.or_eq_false_iff,decide_eq_false_iff_not] at this;omega
  cases v1 with
  |false=>
   obtain rfl:r=false:=by rw[hres];rfl
   clear hres
   go_enter Tryz.func113,Tryz.ntmps113
   go_upto_region 1 with(fail)
   rw[<-HW0.out];obtain⟨k1,k2,k3,k4⟩:=hE.here.2.c4;go_wp2_with fail
   refine(flong_r s t A B n m c d _ _ HL.out).mono ?_
   rintro e w1 ⟨rfl,hb⟩
   clear k1 k2 k3 k4;replace hE:=hE.step hb;clear hb;obtain⟨k1,k2,k3,k4⟩:=hE.here.2.c4;go_wp2_with fail
   refine(whole_valid_any s A n c f _ (hr.below hE.bel).1 hr.2.2.1 hn _ HV1.out).mono ?_
   rintro e w2 ⟨rfl,hb⟩
   clear k1 k2 k3 k4;go_wp2_with fail
   go_ret
   exact⟨rfl,(hE.step hb).bel⟩
  |true=>
   cases v2 with
   |false=>
    obtain rfl:r=false:=by rw[hres];rfl
    clear hres
    go_enter Tryz.func113,Tryz.ntmps113
    go_upto_region 1 with(fail)
    rw[<-HW0.out];obtain⟨k1,k2,k3,k4⟩:=hE.here.2.c4;go_wp2_with fail
    refine(flong_r s t A B n m c d _ _ HL.out).mono ?_
    rintro e w1 ⟨rfl,hb⟩
    clear k1 k2 k3 k4;replace hE:=hE.step hb;clear hb;obtain⟨k1,k2,k3,k4⟩:=hE.here.2.c4;go_wp2_with fail
    refine(whole_valid_any s A n c f _ (hr.below hE.bel).1 hr.2.2.1 hn _ HV1.out).mono ?_
    rintro e w2 ⟨rfl,hb⟩
    clear k1 k2 k3 k4;replace hE:=hE.step hb;clear hb;obtain⟨k1,k2,k3,k4⟩:=hE.here.2.c4;go_wp2_with fail
    refine(whole_valid_any t B m d g _ (hr.below hE.bel).2.1 hr.2.2.2 hm _ HV2.out).mono ?_
    rintro e w3 ⟨rfl,hb⟩
    clear k1 k2 k3 k4;go_wp2_with fail
    go_ret
    exact⟨rfl,(hE.step hb).bel⟩
   |true=>
    have w1:=okW_wv hr.1 hr.2.2.1 HV1.out;have w2:=okW_wv hr.2.1 hr.2.2.2 HV2.out
    obtain⟨x,hx⟩:∃x,toI s (vs b16 f n)=x:=⟨_,rfl⟩
    obtain⟨y,hy⟩:∃y,toI t (vs b16 g m)=y:=⟨_,rfl⟩
    have hgc:=gcd_toI s t (vs b16 f n) (vs b16 g m);rw[hx,hy] at hgc;rw[hx] at w1;rw[hy] at w2;rw[<-hgc] at hres
    have hyy:y=1->Nat.gcd x.natAbs y.natAbs=1:=fun e=>by rw[e];exact Nat.gcd_one_right _
    clear hx hy hgc
    cases t with
    |true=>
     obtain rfl:r=false:=by rw[hres];rfl
     clear hres
     go_enter Tryz.func113,Tryz.ntmps113
     go_upto_region 1 with(fail)
     rw[<-HW0.out];obtain⟨k1,k2,k3,k4⟩:=hE.here.2.c4;go_wp2_with fail
     refine(flong_r s _ A B n _ c d _ _ HL.out).mono ?_
     rintro e w1' ⟨rfl,hb⟩
     clear k1 k2 k3 k4;replace hE:=hE.step hb;clear hb;obtain⟨k1,k2,k3,k4⟩:=hE.here.2.c4;go_wp2_with fail
     refine(whole_valid_any s A n c f _ (hr.below hE.bel).1 hr.2.2.1 hn _ HV1.out).mono ?_
     rintro e w2' ⟨rfl,hb⟩
     clear k1 k2 k3 k4;replace hE:=hE.step hb;clear hb;obtain⟨k1,k2,k3,k4⟩:=hE.here.2.c4;go_wp2_with fail
     refine(whole_valid_any _ B _ d g _ (hr.below hE.bel).2.1 hr.2.2.2 hm _ HV2.out).mono ?_
     rintro e w3 ⟨rfl,hb⟩
     clear k1 k2 k3 k4;replace hE:=hE.step hb;clear hb;obtain⟨k1,k2,k3,k4⟩:=hE.here.2.c4;go_wp2_with fail
     go_ret
     exact⟨rfl,hE.bel⟩
    |false=>
     by_cases hm0:m=0
     ·
      obtain rfl:r=false:=by rw[hres,decide_eq_true hm0];rfl
      subst hm0;clear hres
      go_enter Tryz.func113,Tryz.ntmps113
      go_upto_region 1 with(fail)
      rw[<-HW0.out];obtain⟨k1,k2,k3,k4⟩:=hE.here.2.c4;go_wp2_with fail
      refine(flong_r s _ A B n _ c d _ _ HL.out).mono ?_
      rintro e w1' ⟨rfl,hb⟩
      clear k1 k2 k3 k4;replace hE:=hE.step hb;clear hb;obtain⟨k1,k2,k3,k4⟩:=hE.here.2.c4;go_wp2_with fail
      refine(whole_valid_any s A n c f _ (hr.below hE.bel).1 hr.2.2.1 hn _ HV1.out).mono ?_
      rintro e w2' ⟨rfl,hb⟩
      clear k1 k2 k3 k4;replace hE:=hE.step hb;clear hb;obtain⟨k1,k2,k3,k4⟩:=hE.here.2.c4;go_wp2_with fail
      refine(whole_valid_any _ B _ d g _ (hr.below hE.bel).2.1 hr.2.2.2 hm _ HV2.out).mono ?_
      rintro e w3 ⟨rfl,hb⟩
      clear k1 k2 k3 k4;replace hE:=hE.step hb;clear hb;obtain⟨k1,k2,k3,k4⟩:=hE.here.2.c4;go_wp2_with fail
      go_ret
      exact⟨rfl,hE.bel⟩
     ·
      have t1:((m:Int)==0)=false:=beq_eq_false_iff_ne.2 (by omega)
      have hres2:r=(Nat.gcd x.natAbs y.natAbs==1):=by rw[hres,decide_eq_false hm0];rfl
      clear hres;have HR:=Lib.hid hres2;clear hres2
      go_enter Tryz.func113,Tryz.ntmps113
      go_upto_region 1 with(fail)
      rw[<-HW0.out];obtain⟨k1,k2,k3,k4⟩:=hE.here.2.c4;go_wp2_with fail
      refine(flong_r s _ A B n _ c d _ _ HL.out).mono ?_
      rintro e w1' ⟨rfl,hb⟩
      clear k1 k2 k3 k4;replace hE:=hE.step hb;clear hb;obtain⟨k1,k2,k3,k4⟩:=hE.here.2.c4;go_wp2_with fail
      refine(whole_valid_any s A n c f _ (hr.below hE.bel).1 hr.2.2.1 hn _ HV1.out).mono ?_
      rintro e w2' ⟨rfl,hb⟩
      clear k1 k2 k3 k4;replace hE:=hE.step hb;clear hb;obtain⟨k1,k2,k3,k4⟩:=hE.here.2.c4;go_wp2_with fail
      refine(whole_valid_any _ B _ d g _ (hr.below hE.bel).2.1 hr.2.2.2 hm _ HV2.out).mono ?_
      rintro e w3 ⟨rfl,hb⟩
      clear k1 k2 k3 k4;replace hE:=hE.step hb;clear hb;obtain⟨k1,k2,k3,k4⟩:=hE.here.2.c4;go_wp2_with fail
      refine(fintegral_v (w:=w3) (w2.below hE.bel) hm).mono ?_;clear k1 k2 k3 k4
      rintro e w4 ⟨rfl,hb⟩
      replace hE:=hE.step hb;clear hb t1
      by_cases hy1:y=1
      ·
       have hg:=hyy hy1;rw[decide_eq_true hy1]
       have hr1:r=true:=by rw[HR.out,hg];rfl
       clear hg hy1 hyy;have HR1:=Lib.hid hr1;clear hr1;go_wp2_with fail
       go_ret
       exact⟨ret_bool HR1.out.symm,hE.bel⟩
      ·
       rw[decide_eq_false hy1];clear hyy hy1;obtain⟨k1,k2,k3,k4⟩:=hE.here.2.c4;go_wp2_with fail
       refine(fdivisor_v (ca:=c) (cb:=d) (w1.below hE.bel) (w2.below hE.bel) (by omega) (by omega)).mono ?_;clear k1 k2 k3 k4
       rintro e w5 ⟨sg,Ag,ng,cg,rfl,hg,hb⟩
       replace hE:=hE.step hb;clear hb
       have hgl:ng<=1024:=by
        rw[hg.len,Int.natAbs_natCast];refine ln_gcd _ _ _ ?_ ?_
        ·rw[<-w1.len];omega
        ·rw[<-w2.len];omega
       go_wp2_with fail
       refine(isOne_v (c:=cg) hg (by omega)).mono ?_
       rintro e w6 ⟨rfl,hb⟩
       have hq:decide (((Nat.gcd x.natAbs y.natAbs:Nat):Int)=1)=r:=by rw[HR.out,Bool.eq_iff_iff,decide_eq_true_iff,beq_iff_eq];omega
       rw[hq];clear hq;go_wp2_with fail
       go_ret
       exact⟨rfl,(hE.step hb).bel⟩
end
section
open Go.RowKit

theorem ftvalid_r (s t:Bool)(A B:Option Addr)(n m c d:Nat)(f g:Nat->Nat)(w:World)(hr:FRd w A n f B m g)(hn:n<=1000000)(hm:m<=1000000)(r:Bool)(h:okF s n f t m g=r):
  Calls Tryz.prog 113 #[.agg (qf4 s A n c t B m d)] w fun e w'=>e= .returned (.bool r)/\Below w.heap.size w w':=by
 subst h;exact ftvalid_any s t A B n m c d f g w hr hn hm
theorem fvalid_r (s t:Bool)(A B:Option Addr)(n m c d:Nat)(f g:Nat->Nat)(w:World)(hr:FRd w A n f B m g)(hn:n<=1000000)(hm:m<=1000000)(r:Bool)(h:okF s n f t m g=r):
  Calls Tryz.prog 71 #[.agg (qf4 s A n c t B m d)] w fun e w'=>e= .returned (.bool r)/\Below w.heap.size w w':=by
 have hbl:Below w.heap.size w (w.alloc (.cells (qf4 s A n c t B m d) 29)):=(Below.refl _ _).alloc (Nat.le_refl _) _;have HC:=Lib.hid (ftvalid_r s t A B n m c d f g _ (hr.below hbl) hn hm r h);clear h hr
 go_enter Tryz.func71,Tryz.ntmps71
 go_wp2_with fail
 refine HC.out.mono ?_
 rintro e w1 ⟨rfl,hb⟩
 clear HC;go_wp2_with fail
 go_ret
 exact⟨rfl,hbl.trans (hb.mono hbl.size)⟩
theorem fvalid1_r (s t:Bool)(A B:Option Addr)(n m c d:Nat)(f g:Nat->Nat)(w:World)(hr:FRd w A n f B m g)(hn:n<=1000000)(hm:m<=1000000)(r:Bool)(h:okF s n f t m g=r):
  Calls Tryz.prog 121 #[.agg (qf4 s A n c t B m d)] w fun e w'=>e= .returned (.bool (!r))/\Below w.heap.size w w':=by
 have hbl:Below w.heap.size w (w.alloc (.cells (qf4 s A n c t B m d) 29)):=(Below.refl _ _).alloc (Nat.le_refl _) _;have HC:=Lib.hid (fvalid_r s t A B n m c d f g _ (hr.below hbl) hn hm r h);clear h hr
 go_enter Tryz.func121,Tryz.ntmps121
 go_wp2_with fail
 refine HC.out.mono ?_
 rintro e w1 ⟨rfl,hb⟩
 clear HC;go_wp2_with fail
 go_ret
 exact⟨rfl,hbl.trans (hb.mono hbl.size)⟩
theorem Blk.c8 {t:TypeId}{g:Nat}{w:World}{a b c d e f x y:Value}(h:Blk t g #[a,b,c,d,e,f,x,y] w):
  (w.cell? ⟨g,0,none⟩=some a/\w.cell? ⟨g,1,none⟩=some b/\w.cell? ⟨g,2,none⟩=some c/\w.cell? ⟨g,3,none⟩=some d)/\w.cell? ⟨g,4,none⟩=some e/\w.cell? ⟨g,5,none⟩=some f/\w.cell? ⟨g,6,none⟩=some x/\w.cell? ⟨g,7,none⟩=some y:=
 ⟨⟨h.cell 0,h.cell 1,h.cell 2,h.cell 3⟩,h.cell 4,h.cell 5,h.cell 6,h.cell 7⟩
def firstBad (r1 r2:Bool):Int:=if r1 then(if r2 then-1 else 1) else 0
theorem findex_two (S:Nat)(s t s2 t2:Bool)(A B A2 B2:Option Addr)(n m c d n2 m2 c2 d2:Nat)(f g f2 g2:Nat->Nat)(w:World)(hS:Blk 29 S #[.bool s,.slice A n c,.bool t,.slice B m d,.bool s2,.slice A2 n2 c2,.bool t2,.slice B2 m2 d2] w)
  (hr:FRd w A n f B m g) (hr2:FRd w A2 n2 f2 B2 m2 g2) (hn:n<=1000000) (hm:m<=1000000) (hn2:n2<=1000000) (hm2:m2<=1000000) (r1 r2:Bool) (h1:okF s n f t m g=r1) (h2:okF s2 n2 f2 t2 m2 g2=r2):
  Calls Tryz.prog 156 #[.slice (some ⟨S,0,none⟩) 2 2,.func (.func 121) #[] #[]] w fun e w'=>e= .returned (.int .i64 (firstBad r1 r2))/\Below w.heap.size w w':=by
 have hE:=(Env.start w).blkI hS;have H1:=Lib.hid h1;have H2:=Lib.hid h2;clear h1 h2
 go_enter Tryz.func156,Tryz.ntmps156
 go_wp2_with fail
 go_loopw [8] (fun i wr=>∃k:Nat,k<=2/\i= .int .i64 (k:Int)/\Hid ((0<k->r1=true)/\(1<k->r2=true))/\Env w (fun V=>True/\Blk 29 S #[.bool s,.slice A n c,.bool t,.slice B m d,.bool s2,.slice A2 n2 c2,.bool t2,.slice B2 m2 d2] V) wr) (fun i _=>2-(intOf i).toNat)
 case atStart=>exact⟨0,by omega,rfl,Lib.hid ⟨fun h=>absurd h (by omega),fun h=>absurd h (by omega)⟩,hE⟩
 case round=>
  obtain⟨k,hk,rfl,HK,hE⟩:=hrel
  rcases(show k=0\/k=1\/k=2 by omega) with rfl|rfl|rfl
  ·
   obtain⟨⟨k1,k2,k3,k4⟩,-⟩:=hE.here.2.c8
   cases r1 with
   |true=>
    go_wp2_with fail
    refine(fvalid1_r s t A B n m c d f g _ (hr.below hE.bel) hn hm _ H1.out).mono ?_
    rintro e w1 ⟨rfl,hb⟩
    clear k1 k2 k3 k4;go_wp2_with fail
    go_roundw
    case rel=>exact⟨1,by omega,rfl,Lib.hid ⟨fun _=>(by first|rfl|trivial),fun h=>absurd h (by omega)⟩,hE.step hb⟩
    case measure=>simp[intOf]
   |false=>
    go_wp2_with fail
    refine(fvalid1_r s t A B n m c d f g _ (hr.below hE.bel) hn hm _ H1.out).mono ?_
    rintro e w1 ⟨rfl,hb⟩
    clear k1 k2 k3 k4;go_wp2_with fail
    go_ret
    exact⟨rfl,(hE.step hb).bel⟩
  ·
   obtain⟨-,k1,k2,k3,k4⟩:=hE.here.2.c8;have hr1:=HK.out.1 (by omega)
   cases r2 with
   |true=>
    go_wp2_with fail
    refine(fvalid1_r s2 t2 A2 B2 n2 m2 c2 d2 f2 g2 _ (hr2.below hE.bel) hn2 hm2 _ H2.out).mono ?_
    rintro e w1 ⟨rfl,hb⟩
    clear k1 k2 k3 k4;go_wp2_with fail
    go_roundw
    case rel=>exact⟨2,by omega,rfl,Lib.hid ⟨fun _=>hr1,fun _=>(by first|rfl|trivial)⟩,hE.step hb⟩
    case measure=>simp[intOf]
   |false=>
    go_wp2_with fail
    refine(fvalid1_r s2 t2 A2 B2 n2 m2 c2 d2 f2 g2 _ (hr2.below hE.bel) hn2 hm2 _ H2.out).mono ?_
    rintro e w1 ⟨rfl,hb⟩
    clear k1 k2 k3 k4;go_wp2_with fail
    go_ret
    exact⟨by rw[hr1];rfl,(hE.step hb).bel⟩
  ·
   have hr1:=HK.out.1 (by omega);have hr2':=HK.out.2 (by omega);have HR:=Lib.hid hr1;have HR2:=Lib.hid hr2';clear hr1 hr2';go_wp2_with fail
   go_ret
   exact⟨by rw[HR.out,HR2.out];rfl,hE.bel⟩
theorem firstBad_ge (r1 r2:Bool):decide ((0:Int)<=firstBad r1 r2)= !(r1&&r2):=by cases r1<;>cases r2<;>rfl
section
variable (S:Nat) (s t s2 t2:Bool) (A B A2 B2:Option Addr) (n m c d n2 m2 c2 d2:Nat) (f g f2 g2:Nat->Nat) (w:World) (hS:Blk 29 S #[.bool s,.slice A n c,.bool t,.slice B m d,.bool s2,.slice A2 n2 c2,.bool t2,.slice B2 m2 d2] w)
  (hr:FRd w A n f B m g) (hr2:FRd w A2 n2 f2 B2 m2 g2) (hn:n<=1000000) (hm:m<=1000000) (hn2:n2<=1000000) (hm2:m2<=1000000) (r1 r2:Bool) (h1:okF s n f t m g=r1) (h2:okF s2 n2 f2 t2 m2 g2=r2)
include hS hr hr2 hn hm hn2 hm2 h1 h2
theorem fcontains_two :
  Calls Tryz.prog 120 #[.slice (some ⟨S,0,none⟩) 2 2,.func (.func 121) #[] #[]] w fun e w'=>e= .returned (.bool (!(r1&&r2)))/\Below w.heap.size w w':=by
 have HC:=Lib.hid (findex_two S s t s2 t2 A B A2 B2 n m c d n2 m2 c2 d2 f g f2 g2 w hS hr hr2 hn hm hn2 hm2 r1 r2 h1 h2);have hf:=firstBad_ge r1 r2
 obtain⟨v,hv⟩:∃v,v=firstBad r1 r2:=⟨_,rfl⟩
 rw[<-hv] at hf HC;have HF:=Lib.hid hf;clear hf hv h1 h2
 go_enter Tryz.func120,Tryz.ntmps120
 go_wp2_with fail
 refine HC.out.mono ?_
 rintro e w1 ⟨rfl,hb⟩
 clear HC;go_wp2_with fail
 go_ret
 exact⟨ret_bool HF.out,hb⟩
theorem fallValid_two :
  Calls Tryz.prog 80 #[.slice (some ⟨S,0,none⟩) 2 2] w fun e w'=>e= .returned (.bool (r1&&r2))/\Below w.heap.size w w':=by
 have HC:=Lib.hid (fcontains_two S s t s2 t2 A B A2 B2 n m c d n2 m2 c2 d2 f g f2 g2 w hS hr hr2 hn hm hn2 hm2 r1 r2 h1 h2);clear h1 h2
 obtain⟨v,hv⟩:∃v,v=(r1&&r2):=⟨_,rfl⟩
 rw[<-hv] at HC;have HV:=Lib.hid hv;clear hv
 go_enter Tryz.func80,Tryz.ntmps80
 go_wp2_with fail
 refine HC.out.mono ?_
 rintro e w1 ⟨rfl,hb⟩
 clear HC;go_wp2_with fail
 go_ret
 exact⟨ret_bool HV.out,hb⟩
end
theorem fallValid_v {p q:Rat}{s t s2 t2:Bool}{A B A2 B2:Option Addr}{n m c d n2 m2 c2 d2:Nat}{W:World}(h1:FV W p s A n t B m)(h2:FV W q s2 A2 n2 t2 B2 m2)(l1:fl p<=256)(l2:fl q<=256):
  Calls Tryz.prog 80 #[.slice (some ⟨W.heap.size,0,none⟩) 2 2] (W.alloc (.cells #[.bool s,.slice A n c,.bool t,.slice B m d,.bool s2,.slice A2 n2 c2,.bool t2,.slice B2 m2 d2] 29)) fun e w'=>e= .returned (.bool true)/\Below W.heap.size W w':=by
 have hb:=(Below.refl W.heap.size W).alloc (Nat.le_refl _) (.cells #[.bool s,.slice A n c,.bool t,.slice B m d,.bool s2,.slice A2 n2 c2,.bool t2,.slice B2 m2 d2] 29);have e1:=h1.ln l1;have e2:=h2.ln l2;have h:=fallValid_two W.heap.size s t s2 t2 A B A2 B2 n m c d n2 m2 c2 d2 _ _ _ _ _ (Blk.new W _ _) (h1.below hb).rd (h2.below hb).rd (by omega) (by omega) (by omega) (by omega) true true (okF_of h1 l1) (okF_of h2 l2)
 exact h.mono fun e w' ⟨he,hb'⟩=>⟨he,hb.trans (hb'.mono hb.size)⟩
end
end Go.Proofs.YtclbiihcbfnjmaaGreat
