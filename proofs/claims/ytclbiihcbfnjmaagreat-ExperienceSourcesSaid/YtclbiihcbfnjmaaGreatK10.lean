/-
  Parts.
-/
import Derived.Test.YtclbiihcbfnjmaaGreatK8
import Derived.Test.YtclbiihcbfnjmaaGreatK9
set_option linter.unusedSimpArgs false
set_option maxRecDepth 100000
set_option maxHeartbeats 4000000
namespace Go.Proofs.YtclbiihcbfnjmaaGreat
section
open Go.RowKit

theorem JO {n d:Int}(hd:0<d):(Rat.divInt n d).num=n.fdiv ((Nat.gcd n.natAbs d.natAbs:Nat):Int)/\(((Rat.divInt n d).den:Nat):Int)=d.fdiv ((Nat.gcd n.natAbs d.natAbs:Nat):Int):=by
 have h:=uQ (n:=n) hd;rw[Int.fdiv_eq_ediv_of_nonneg _ (by omega),Int.fdiv_eq_ediv_of_nonneg _ (by omega)];exact h
theorem wj {n d:Int}(hd:d≠0):((Nat.gcd n.natAbs d.natAbs:Nat):Int)≠0:=by
 have:=Nat.gcd_pos_of_pos_right n.natAbs (show 0<d.natAbs by omega);omega
theorem JP {a b:Int}{s t u:Bool}{A B G:Option Addr}{n m g:Nat}{w:World}(_:WV w a s A n)(hb:WV w b t B m)(hg:WV w ((Nat.gcd a.natAbs b.natAbs:Nat):Int) u G g)(hb0:b≠0){k:Nat}(lb:m<=k):g<=k:=by
 rw[hg.len,bV];refine ay (cN aA (Nat.gcd_le_right _ (show 0<b.natAbs by omega))) ?_;rw[<-hb.len];exact lb
theorem BN {z:Int}{s t:Bool}{A B:Option Addr}{n m k:Nat}{w:World}(h:WV w z s A n)(h2:WV w (-z) t B m)(hk:n<=k):m<=k:=by
 rw[h2.len,kR,<-h.len];exact hk
theorem lf {a b:Int}{sa sb:Bool}{Aa Ab:Option Addr}{na ca nb cb:Nat}{w:World}(ha:WV w a sa Aa na)(hb:WV w b sb Ab nb)(la:na<=1024)(lb:nb<=1024)(hb0:b≠0):
  Calls Tryz.prog 114 #[.agg #[.bool sa,.slice Aa na ca],.agg #[.bool sb,.slice Ab nb cb]] w (FR (Rat.divInt a b) w):=by
 cases sb with
 |true=>
  have hd:b<0:=kO hb.AM.symm;have hE:=((((Env.start w).wv ha).wv hb).blk 27 #[.bool sa,.slice Aa na ca] (g:=w.heap.size) rfl).blk 27 #[.bool true,.slice Ab nb cb] (g:=w.heap.size+1) (by simp);have hE:=hE.blk 138 aW (g:=w.heap.size+1+1) (by simp)
  obtain⟨W0,aC⟩:∃W0,W0=(((w.alloc (.cells #[.bool sa,.slice Aa na ca] 27)).alloc (.cells #[.bool true,.slice Ab nb cb] 27)).alloc (.cells aW 138)):=⟨_,rfl⟩
  rw[<-aC] at hE;have aZ:=af aC;clear aC
  go_enter Tryz.func114,Tryz.ntmps114
  go_upto_region 1 with(fail)
  rw[<-aZ.out];obtain⟨k1,k2⟩:=(hE.g1).c2
  go_upto_region 2 with(fail)
  clear k1 k2
  go_cut [] from 8 to 11 (fun wx=>∃sx Ax nx cx sy Ay ny cy,Env w (fun V=>(((((((True/\WV V a sa Aa na)/\WV V b true Ab nb)/\au 27 (w.heap.size) #[.bool sx,.slice Ax nx cx] V)/\au 27 (w.heap.size+1) #[.bool sy,.slice Ay ny cy] V)/\au 138 (w.heap.size+1+1) aW V)/\WV V (-a) sx Ax nx)/\WV V (-b) sy Ay ny)) wx)
  case first=>
   replace hE:=hE.drew;refine bH (S:=fun w'=>True) (by kernel_rfl) (trivial) (fun hHeld=> ?_);refine cC (rs:=[0,2]) (by kernel_rfl) (by simp) (bq rfl (fun K hK=> ?_) (bq rfl (fun K hK=> ?_) (cD)))
   ·
    obtain⟨k3,k4⟩:=(hE.h2).c2;go_simp;clear k3 k4;refine hK.out _ _ (trivial) (fun hHeld=> ?_);clear hK K;try simp only[PL]
    refine cC (rs:=[1,2]) (by kernel_rfl) (by simp) (bq rfl (fun K hK=> ?_) (bq rfl (fun K hK=> ?_) (cD)))
    ·
     go_simp;have hc:=fN (c:=ca) hE.h4 la;refine hc.mono ?_;clear hc
     rintro e w5 ⟨sx,Ax,nx,cx,rfl,hx,hb⟩
     replace hE:=hE.step hb;clear hb;replace hE:=hE.wv hx;clear hx;go_wp2_with fail
     refine hK.out _ _ (trivial) (fun hHeld=> ?_);clear hK K;try simp only[PL]
     refine r1 2 (fun K hK=> ?_);obtain⟨k6,k7⟩:=(hE.h2).c2;go_simp;clear k6 k7;refine hK.out _ _ (trivial) (fun hHeld=> ?_);clear hK K;try simp only[PL]
     refine r1 3 (fun K hK=> ?_);go_simp;have hc:=fN (c:=cb) hE.h4 lb;refine hc.mono ?_;clear hc
     rintro e w8 ⟨sy,Ay,ny,cy,rfl,hy,hb⟩
     replace hE:=hE.step hb;clear hb;replace hE:=hE.wv hy;clear hy;go_wp2_with fail
     refine hK.out _ _ (trivial) (fun hHeld=> ?_);clear hK K;try simp only[PL]
     refine r1 4 (fun K hK=> ?_)
     have RW:w.heap.size<=w.heap.size:=by omega
     obtain⟨adL,adM⟩:=(hE.h4).c2;obtain⟨adN,adO⟩:=hE.h4.f2;replace hE:=((((((((Env.again (oB hE.ax RW (.bool sx) (.slice Ax nx cx))).wv ((hE.h6).cH hE.h4 rfl _ _ rfl)).wv ((hE.h5).cH hE.h4 rfl _ _ rfl)).ag ((hE.h4).s2 _ _)).ag ((hE.h3).fq (by omega) _ _)).ag ((hE.h2).fq (by omega) _ _)).wv ((hE.g1).cH hE.h4 rfl _ _ rfl)).wv ((hE.g0).cH hE.h4 rfl _ _ rfl));go_simp;clear adL adM adN adO RW;generalize ((w8.setCell ⟨w.heap.size,0,none⟩ (.bool sx)).setCell ⟨w.heap.size,1,none⟩ (.slice Ax nx cx))=W9 at hE⊢;refine hK.out _ _ (trivial) (fun hHeld=> ?_);clear hK K;try simp only[PL]
     refine r1 5 (fun K hK=> ?_)
     have tH:w.heap.size<=w.heap.size+1:=by omega
     obtain⟨CW,CX⟩:=(hE.h3).c2;obtain⟨CY,CZ⟩:=hE.h3.f2;replace hE:=((((((((Env.again (oB hE.ax tH (.bool sy) (.slice Ay ny cy))).wv ((hE.h6).cH hE.h3 rfl _ _ rfl)).wv ((hE.h5).cH hE.h3 rfl _ _ rfl)).ag ((hE.h4).fq (R:=w.heap.size+1) (by omega) _ _)).ag ((hE.h3).s2 _ _)).ag ((hE.h2).fq (R:=w.heap.size+1) (by omega) _ _)).wv ((hE.g1).cH hE.h3 rfl _ _ rfl)).wv ((hE.g0).cH hE.h3 rfl _ _ rfl));go_simp;clear CW CX CY CZ tH;generalize ((W9.setCell ⟨w.heap.size+1,0,none⟩ (.bool sy)).setCell ⟨w.heap.size+1,1,none⟩ (.slice Ay ny cy))=xQ at hE⊢;refine hK.out _ _ (trivial) (fun hHeld=> ?_);clear hK K;try simp only[PL]
     refine aX (by kernel_rfl) ?_ _;go_wp2_with fail
     go_meet
     exact⟨sx,Ax,nx,cx,sy,Ay,ny,cy,hE⟩
    ·
     obtain⟨dX,dY⟩:=(hE.g1).c2;go_simp;clear dX dY;refine hK.out _ _ (trivial) (fun hHeld=> ?_);clear hK K;try simp only[PL]
     refine r1 1 (fun K hK=> ?_);go_simp;have hc:=fN (c:=ca) hE.h4 la;refine hc.mono ?_;clear hc
     rintro e Ud ⟨sx,Ax,nx,cx,rfl,hx,hb⟩
     replace hE:=hE.step hb;clear hb;replace hE:=hE.wv hx;clear hx;go_wp2_with fail
     refine hK.out _ _ (trivial) (fun hHeld=> ?_);clear hK K;try simp only[PL]
     refine r1 3 (fun K hK=> ?_);go_simp;have hc:=fN (c:=cb) hE.h4 lb;refine hc.mono ?_;clear hc
     rintro e FC ⟨sy,Ay,ny,cy,rfl,hy,hb⟩
     replace hE:=hE.step hb;clear hb;replace hE:=hE.wv hy;clear hy;go_wp2_with fail
     refine hK.out _ _ (trivial) (fun hHeld=> ?_);clear hK K;try simp only[PL]
     refine r1 4 (fun K hK=> ?_)
     have tJ:w.heap.size<=w.heap.size:=by omega
     obtain⟨Dm,Dn⟩:=(hE.h4).c2;obtain⟨Dp,Dr⟩:=hE.h4.f2;replace hE:=((((((((Env.again (oB hE.ax tJ (.bool sx) (.slice Ax nx cx))).wv ((hE.h6).cH hE.h4 rfl _ _ rfl)).wv ((hE.h5).cH hE.h4 rfl _ _ rfl)).ag ((hE.h4).s2 _ _)).ag ((hE.h3).fq (by omega) _ _)).ag ((hE.h2).fq (by omega) _ _)).wv ((hE.g1).cH hE.h4 rfl _ _ rfl)).wv ((hE.g0).cH hE.h4 rfl _ _ rfl));go_simp;clear Dm Dn Dp Dr tJ;generalize ((FC.setCell ⟨w.heap.size,0,none⟩ (.bool sx)).setCell ⟨w.heap.size,1,none⟩ (.slice Ax nx cx))=W15 at hE⊢;refine hK.out _ _ (trivial) (fun hHeld=> ?_);clear hK K;try simp only[PL]
     refine r1 5 (fun K hK=> ?_)
     have tP:w.heap.size<=w.heap.size+1:=by omega
     obtain⟨Dt,Du⟩:=(hE.h3).c2;obtain⟨Dw,Dx⟩:=hE.h3.f2;replace hE:=((((((((Env.again (oB hE.ax tP (.bool sy) (.slice Ay ny cy))).wv ((hE.h6).cH hE.h3 rfl _ _ rfl)).wv ((hE.h5).cH hE.h3 rfl _ _ rfl)).ag ((hE.h4).fq (R:=w.heap.size+1) (by omega) _ _)).ag ((hE.h3).s2 _ _)).ag ((hE.h2).fq (R:=w.heap.size+1) (by omega) _ _)).wv ((hE.g1).cH hE.h3 rfl _ _ rfl)).wv ((hE.g0).cH hE.h3 rfl _ _ rfl));go_simp;clear Dt Du Dw Dx tP;generalize ((W15.setCell ⟨w.heap.size+1,0,none⟩ (.bool sy)).setCell ⟨w.heap.size+1,1,none⟩ (.slice Ay ny cy))=Pf at hE⊢;refine hK.out _ _ (trivial) (fun hHeld=> ?_);clear hK K;try simp only[PL]
     refine aX (by kernel_rfl) ?_ _;go_wp2_with fail
     go_meet
     exact⟨sx,Ax,nx,cx,sy,Ay,ny,cy,hE⟩
   ·
    obtain⟨lU,jS⟩:=(hE.g1).c2;go_simp;clear lU jS;refine hK.out _ _ (trivial) (fun hHeld=> ?_);clear hK K;try simp only[PL]
    refine r1 0 (fun K hK=> ?_);obtain⟨kT,kB⟩:=(hE.h2).c2;go_simp;clear kT kB;refine hK.out _ _ (trivial) (fun hHeld=> ?_);clear hK K;try simp only[PL]
    refine r1 1 (fun K hK=> ?_);go_simp;have hc:=fN (c:=ca) hE.h4 la;refine hc.mono ?_;clear hc
    rintro e MH ⟨sx,Ax,nx,cx,rfl,hx,hb⟩
    replace hE:=hE.step hb;clear hb;replace hE:=hE.wv hx;clear hx;go_wp2_with fail
    refine hK.out _ _ (trivial) (fun hHeld=> ?_);clear hK K;try simp only[PL]
    refine r1 3 (fun K hK=> ?_);go_simp;have hc:=fN (c:=cb) hE.h4 lb;refine hc.mono ?_;clear hc
    rintro e w22 ⟨sy,Ay,ny,cy,rfl,hy,hb⟩
    replace hE:=hE.step hb;clear hb;replace hE:=hE.wv hy;clear hy;go_wp2_with fail
    refine hK.out _ _ (trivial) (fun hHeld=> ?_);clear hK K;try simp only[PL]
    refine r1 4 (fun K hK=> ?_)
    have aah:w.heap.size<=w.heap.size:=by omega
    obtain⟨aim,ain⟩:=(hE.h4).c2;obtain⟨aio,aip⟩:=hE.h4.f2;replace hE:=((((((((Env.again (oB hE.ax aah (.bool sx) (.slice Ax nx cx))).wv ((hE.h6).cH hE.h4 rfl _ _ rfl)).wv ((hE.h5).cH hE.h4 rfl _ _ rfl)).ag ((hE.h4).s2 _ _)).ag ((hE.h3).fq (by omega) _ _)).ag ((hE.h2).fq (by omega) _ _)).wv ((hE.g1).cH hE.h4 rfl _ _ rfl)).wv ((hE.g0).cH hE.h4 rfl _ _ rfl));go_simp;clear aim ain aio aip aah;generalize ((w22.setCell ⟨w.heap.size,0,none⟩ (.bool sx)).setCell ⟨w.heap.size,1,none⟩ (.slice Ax nx cx))=Gl at hE⊢;refine hK.out _ _ (trivial) (fun hHeld=> ?_);clear hK K;try simp only[PL]
    refine r1 5 (fun K hK=> ?_)
    have tR:w.heap.size<=w.heap.size+1:=by omega
    obtain⟨RX,RY⟩:=(hE.h3).c2;obtain⟨RZ,Sa⟩:=hE.h3.f2;replace hE:=((((((((Env.again (oB hE.ax tR (.bool sy) (.slice Ay ny cy))).wv ((hE.h6).cH hE.h3 rfl _ _ rfl)).wv ((hE.h5).cH hE.h3 rfl _ _ rfl)).ag ((hE.h4).fq (R:=w.heap.size+1) (by omega) _ _)).ag ((hE.h3).s2 _ _)).ag ((hE.h2).fq (R:=w.heap.size+1) (by omega) _ _)).wv ((hE.g1).cH hE.h3 rfl _ _ rfl)).wv ((hE.g0).cH hE.h3 rfl _ _ rfl));go_simp;clear RX RY RZ Sa tR;generalize ((Gl.setCell ⟨w.heap.size+1,0,none⟩ (.bool sy)).setCell ⟨w.heap.size+1,1,none⟩ (.slice Ay ny cy))=W24 at hE⊢;refine hK.out _ _ (trivial) (fun hHeld=> ?_);clear hK K;try simp only[PL]
    refine aX (by kernel_rfl) ?_ _;go_wp2_with fail
    go_meet
    exact⟨sx,Ax,nx,cx,sy,Ay,ny,cy,hE⟩
  case rest=>
  clear hE;obtain⟨sx,Ax,nx,cx,sy,Ay,ny,cy,hE⟩:=hcut;have la2:=BN hE.h6 hE.g1 la;have WL:=BN hE.h5 hE.g0 lb;clear la lb;have la:=la2;have lb:=WL;clear la2 WL
  go_upto_region 3 with(fail)
  obtain⟨pU,nQ⟩:=(hE.h4).c2;obtain⟨qH,pM⟩:=(hE.h3).c2;go_wp2_with fail
  have hc:=qw (ca:=cx) (cb:=cy) hE.g1 hE.g0 la lb;refine hc.mono ?_;clear hc;clear pU nQ qH pM
  rintro e MD ⟨sg,Ag,ng,cg,rfl,hg,hb⟩
  replace hE:=hE.step hb;clear hb;replace hE:=hE.wv hg;clear hg;have lg:=JP hE.h2 hE.g1 hE.g0 (show((-b))≠0 by omega) lb
  go_upto_region 4 with(fail)
  obtain⟨kr,uA⟩:∃kr,kr=MD.heap.size:=⟨_,rfl⟩
  have aoE:w.heap.size<kr:=by rw[uA];exact(hE.h5).lt
  have aoF:w.heap.size+1<kr:=by rw[uA];exact(hE.h4).lt
  have aoG:w.heap.size+1+1<kr:=by rw[uA];exact(hE.h3).lt
  replace hE:=hE.blk 27 #[.bool sg,.slice Ag ng cg] (g:=kr) uA.symm;generalize MD.alloc (.cells #[.bool sg,.slice Ag ng cg] 27)=W30 at hE⊢;rw[<-uA];clear uA;obtain⟨uG,tC⟩:=(hE.h6).c2;obtain⟨tD,Oo⟩:=(hE.g0).c2;go_wp2_with fail
  have hc:=oX (ca:=cx) (cb:=cg) hE.h3 hE.g1 la lg (wj (show((-b))≠0 by omega));refine hc.mono ?_;clear hc;clear uG tC tD Oo
  rintro e w35 ⟨sp,Ap,np,cp,sr,Ar,nr,cr,rfl,hp,hr,hb⟩
  replace hE:=hE.step hb;clear hb;replace hE:=hE.wv hp;clear hp;replace hE:=hE.wv hr;clear hr
  have tF:w.heap.size<=w.heap.size:=by omega
  obtain⟨CG,CH⟩:=(hE.h8).c2;obtain⟨CI,CJ⟩:=hE.h8.f2;replace hE:=((((((((((((Env.again (oB hE.ax tF (.bool sp) (.slice Ap np cp))).wv ((hE.h10).cH hE.h8 rfl _ _ rfl)).wv ((hE.h9).cH hE.h8 rfl _ _ rfl)).ag ((hE.h8).s2 _ _)).ag ((hE.h7).fq (by omega) _ _)).ag ((hE.h6).fq (by omega) _ _)).wv ((hE.h5).cH hE.h8 rfl _ _ rfl)).wv ((hE.h4).cH hE.h8 rfl _ _ rfl)).wv ((hE.h3).cH hE.h8 rfl _ _ rfl)).ag ((hE.h2).fq (by omega) _ _)).wv ((hE.g1).cH hE.h8 rfl _ _ rfl)).wv ((hE.g0).cH hE.h8 rfl _ _ rfl))
  go_upto_region 5 with(fail)
  clear CG CH CI CJ tF;generalize ((w35.setCell ⟨w.heap.size,0,none⟩ (.bool sp)).setCell ⟨w.heap.size,1,none⟩ (.slice Ap np cp))=W36 at hE⊢;obtain⟨Cp,xj⟩:=(hE.h7).c2;obtain⟨xP,Cq⟩:=(hE.h2).c2;go_wp2_with fail
  have hc:=oX (ca:=cy) (cb:=cg) hE.h4 hE.h3 lb lg (wj (show((-b))≠0 by omega));refine hc.mono ?_;clear hc;clear Cp xj xP Cq
  rintro e w41 ⟨sq,Aq,nq,cq,su,Au,nu,cu,rfl,hq,hu,hb⟩
  replace hE:=hE.step hb;clear hb;replace hE:=hE.wv hq;clear hq;replace hE:=hE.wv hu;clear hu
  have aai:w.heap.size<=w.heap.size+1:=by omega
  obtain⟨aiq,air⟩:=(hE.h9).c2;obtain⟨ais,ait⟩:=hE.h9.f2;replace hE:=((((((((((((((Env.again (oB hE.ax aai (.bool sq) (.slice Aq nq cq))).wv ((hE.h12).cH hE.h9 rfl _ _ rfl)).wv ((hE.h11).cH hE.h9 rfl _ _ rfl)).ag ((hE.h10).fq (R:=w.heap.size+1) (by omega) _ _)).ag ((hE.h9).s2 _ _)).ag ((hE.h8).fq (R:=w.heap.size+1) (by omega) _ _)).wv ((hE.h7).cH hE.h9 rfl _ _ rfl)).wv ((hE.h6).cH hE.h9 rfl _ _ rfl)).wv ((hE.h5).cH hE.h9 rfl _ _ rfl)).ag ((hE.h4).fq (R:=w.heap.size+1) (by omega) _ _)).wv ((hE.h3).cH hE.h9 rfl _ _ rfl)).wv ((hE.h2).cH hE.h9 rfl _ _ rfl)).wv ((hE.g1).cH hE.h9 rfl _ _ rfl)).wv ((hE.g0).cH hE.h9 rfl _ _ rfl))
  go_upto_region 6 with(fail)
  clear aiq air ais ait aai;generalize ((w41.setCell ⟨w.heap.size+1,0,none⟩ (.bool sq)).setCell ⟨w.heap.size+1,1,none⟩ (.slice Aq nq cq))=W42 at hE⊢;obtain⟨e1,e2⟩:=JO (n:=(-a)) (d:=(-b)) (show 0< -b by omega);rw[JM] at e1 e2;have oM:FV W42 (Rat.divInt a b) sp Ap np sq Aq nq:=⟨by rw[e1];exact hE.h3,by rw[e2];exact hE.g1⟩;clear e1 e2;replace hE:=hE.fv oM;clear oM;obtain⟨zl,CC⟩:=(hE.h11).c2;obtain⟨zm,CM⟩:=(hE.h10).c2
  have cS:w.heap.size<=w.heap.size+1+1:=by omega
  obtain⟨WW,bn,hB,hV,aM⟩:=aR hE hE.h9 cS hE.g0 cp cq;obtain⟨x0,x1,x2,x3⟩:=(hE.h9).c4;obtain⟨fL,fM,fV,fW⟩:=hE.h9.f4;have bR:=af bn;clear bn;go_wp2_with fail
  clear zl CC zm CM;rw[<-bR.out];obtain⟨y0,y1,y2,y3⟩:=hB.c4;refine aK (v:= .agg (az sp Ap np cp sq Aq nq cq)) (by simp[results,Tryz.results114,go_sem,y0,y1,y2,y3]) rfl ?_;exact⟨sp,Ap,np,cp,sq,Aq,nq,cq,rfl,hV,aM⟩
 |false=>
  have hd:0<b:=by have:=qf hb.AM.symm;omega
  have hE:=((((Env.start w).wv ha).wv hb).blk 27 #[.bool sa,.slice Aa na ca] (g:=w.heap.size) rfl).blk 27 #[.bool false,.slice Ab nb cb] (g:=w.heap.size+1) (by simp);have hE:=hE.blk 138 aW (g:=w.heap.size+1+1) (by simp)
  obtain⟨W0,aC⟩:∃W0,W0=(((w.alloc (.cells #[.bool sa,.slice Aa na ca] 27)).alloc (.cells #[.bool false,.slice Ab nb cb] 27)).alloc (.cells aW 138)):=⟨_,rfl⟩
  rw[<-aC] at hE;have aZ:=af aC;clear aC
  go_enter Tryz.func114,Tryz.ntmps114
  go_upto_region 1 with(fail)
  rw[<-aZ.out];obtain⟨k1,k2⟩:=(hE.g1).c2
  go_upto_region 3 with(fail)
  clear k1 k2;obtain⟨k3,k4⟩:=(hE.h2).c2;obtain⟨k5,k6⟩:=(hE.g1).c2;go_wp2_with fail
  have hc:=qw (ca:=ca) (cb:=cb) hE.h4 hE.h3 la lb;refine hc.mono ?_;clear hc;clear k3 k4 k5 k6
  rintro e w7 ⟨sg,Ag,ng,cg,rfl,hg,hb⟩
  replace hE:=hE.step hb;clear hb;replace hE:=hE.wv hg;clear hg;have lg:=JP hE.h5 hE.h4 hE.g0 (show(b)≠0 by omega) lb
  go_upto_region 4 with(fail)
  obtain⟨g8,nV⟩:∃g8,g8=w7.heap.size:=⟨_,rfl⟩
  have aqW:w.heap.size<g8:=by rw[nV];exact(hE.h3).lt
  have ahw:w.heap.size+1<g8:=by rw[nV];exact(hE.h2).lt
  have aqX:w.heap.size+1+1<g8:=by rw[nV];exact(hE.g1).lt
  replace hE:=hE.blk 27 #[.bool sg,.slice Ag ng cg] (g:=g8) nV.symm;generalize w7.alloc (.cells #[.bool sg,.slice Ag ng cg] 27)=W8 at hE⊢;rw[<-nV];clear nV;obtain⟨k9,fU⟩:=(hE.h4).c2;obtain⟨dX,dY⟩:=(hE.g0).c2;go_wp2_with fail
  have hc:=oX (ca:=ca) (cb:=cg) hE.h6 hE.g1 la lg (wj (show(b)≠0 by omega));refine hc.mono ?_;clear hc;clear k9 fU dX dY
  rintro e Ud ⟨sp,Ap,np,cp,sr,Ar,nr,cr,rfl,hp,hr,hb⟩
  replace hE:=hE.step hb;clear hb;replace hE:=hE.wv hp;clear hp;replace hE:=hE.wv hr;clear hr
  have Dl:w.heap.size<=w.heap.size:=by omega
  obtain⟨OT,OU⟩:=(hE.h6).c2;obtain⟨OV,OW⟩:=hE.h6.f2;replace hE:=((((((((((Env.again (oB hE.ax Dl (.bool sp) (.slice Ap np cp))).wv ((hE.h8).cH hE.h6 rfl _ _ rfl)).wv ((hE.h7).cH hE.h6 rfl _ _ rfl)).ag ((hE.h6).s2 _ _)).ag ((hE.h5).fq (by omega) _ _)).ag ((hE.h4).fq (by omega) _ _)).wv ((hE.h3).cH hE.h6 rfl _ _ rfl)).ag ((hE.h2).fq (by omega) _ _)).wv ((hE.g1).cH hE.h6 rfl _ _ rfl)).wv ((hE.g0).cH hE.h6 rfl _ _ rfl))
  go_upto_region 5 with(fail)
  clear OT OU OV OW Dl;generalize ((Ud.setCell ⟨w.heap.size,0,none⟩ (.bool sp)).setCell ⟨w.heap.size,1,none⟩ (.slice Ap np cp))=W14 at hE⊢;obtain⟨iA,kz⟩:=(hE.h5).c2;obtain⟨lU,jS⟩:=(hE.h2).c2;go_wp2_with fail
  have hc:=oX (ca:=cb) (cb:=cg) hE.h7 hE.h3 lb lg (wj (show(b)≠0 by omega));refine hc.mono ?_;clear hc;clear iA kz lU jS
  rintro e w19 ⟨sq,Aq,nq,cq,su,Au,nu,cu,rfl,hq,hu,hb⟩
  replace hE:=hE.step hb;clear hb;replace hE:=hE.wv hq;clear hq;replace hE:=hE.wv hu;clear hu
  have oq:w.heap.size<=w.heap.size+1:=by omega
  obtain⟨vC,vD⟩:=(hE.h7).c2;obtain⟨vE,vF⟩:=hE.h7.f2;replace hE:=((((((((((((Env.again (oB hE.ax oq (.bool sq) (.slice Aq nq cq))).wv ((hE.h10).cH hE.h7 rfl _ _ rfl)).wv ((hE.h9).cH hE.h7 rfl _ _ rfl)).ag ((hE.h8).fq (R:=w.heap.size+1) (by omega) _ _)).ag ((hE.h7).s2 _ _)).ag ((hE.h6).fq (R:=w.heap.size+1) (by omega) _ _)).wv ((hE.h5).cH hE.h7 rfl _ _ rfl)).ag ((hE.h4).fq (R:=w.heap.size+1) (by omega) _ _)).wv ((hE.h3).cH hE.h7 rfl _ _ rfl)).wv ((hE.h2).cH hE.h7 rfl _ _ rfl)).wv ((hE.g1).cH hE.h7 rfl _ _ rfl)).wv ((hE.g0).cH hE.h7 rfl _ _ rfl))
  go_upto_region 6 with(fail)
  clear vC vD vE vF oq;generalize ((w19.setCell ⟨w.heap.size+1,0,none⟩ (.bool sq)).setCell ⟨w.heap.size+1,1,none⟩ (.slice Aq nq cq))=W20 at hE⊢;obtain⟨e1,e2⟩:=JO (n:=a) (d:=b) hd;have oM:FV W20 (Rat.divInt a b) sp Ap np sq Aq nq:=⟨by rw[e1];exact hE.h3,by rw[e2];exact hE.g1⟩;clear e1 e2;replace hE:=hE.fv oM;clear oM;obtain⟨lV,lW⟩:=(hE.h9).c2;obtain⟨nC,rP⟩:=(hE.h8).c2
  have cS:w.heap.size<=w.heap.size+1+1:=by omega
  obtain⟨WW,bn,hB,hV,aM⟩:=aR hE hE.h7 cS hE.g0 cp cq;obtain⟨x0,x1,x2,x3⟩:=(hE.h7).c4;obtain⟨fL,fM,fV,fW⟩:=hE.h7.f4;have bR:=af bn;clear bn;go_wp2_with fail
  clear lV lW nC rP;rw[<-bR.out];obtain⟨y0,y1,y2,y3⟩:=hB.c4;refine aK (v:= .agg (az sp Ap np cp sq Aq nq cq)) (by simp[results,Tryz.results114,go_sem,y0,y1,y2,y3]) rfl ?_;exact⟨sp,Ap,np,cp,sq,Aq,nq,cq,rfl,hV,aM⟩
end
section
open Go.RowKit

def okF (s:Bool)(n:Nat)(f:Nat->Nat)(t:Bool)(m:Nat)(g:Nat->Nat):Bool:=
 !(decide (256<n)||decide (256<m))&&(okW s n f&&(okW t m g&&(!t&&(!decide (m=0)&&(Nat.gcd (vs ai f n) (vs ai g m)==1)))))
def kA (w:World)(A:Option Addr)(n:Nat)(f:Nat->Nat)(B:Option Addr)(m:Nat)(g:Nat->Nat):Prop:=
 Rd w.heap.size .u16 w A n f/\Rd w.heap.size .u16 w B m g/\(∀j,j<n->f j<65536)/\(∀j,j<m->g j<65536)
theorem kA.below {w w':World}{A B:Option Addr}{n m:Nat}{f g:Nat->Nat}(h:kA w A n f B m g)(hb:Below w.heap.size w w'):kA w' A n f B m g:=
 ⟨(h.1.below hb).more hb.size,(h.2.1.below hb).more hb.size,h.2.2.1,h.2.2.2⟩
theorem FV.rd {w:World}{q:Rat}{s t:Bool}{A B:Option Addr}{n m:Nat}(h:FV w q s A n t B m):kA w A n (aB ai q.num.natAbs) B m (aB ai q.den):=by
 obtain⟨⟨-,h1,h2⟩,⟨-,h3,h4⟩⟩:=h;unfold aJ at h2 h4;rw[<-h1] at h2;rw[<-h3] at h4;rw[bV] at h4;exact⟨h2,h4,fun j _=>bu _ j,fun j _=>bu _ j⟩
theorem pZ {w:World}{q:Rat}{s t:Bool}{A B:Option Addr}{n m:Nat}(h:FV w q s A n t B m)(hq:fl q<=256):okF s n (aB ai q.num.natAbs) t m (aB ai q.den)=true:=by
 obtain⟨l1,l2⟩:=dA.1 hq;obtain⟨⟨h0,h1,h2⟩,⟨h5,h3,h4⟩⟩:=h;rw[bV] at h3;have e1:=uR (z:=q.num) (by omega);have e2:=uR (z:=((q.den:Nat):Int)) (by rw[bV];omega);rw[bV] at e2;have hd:=den_pos q
 have hm:0<m:=by rw[h3];exact(dM aA).2 hd
 unfold okF;rw[aH (show¬256<n by omega),aH (show¬256<m by omega),aH (show¬m=0 by omega),h0,h5,h1,h3,e1,e2,dB aA,dB aA,beq_iff_eq.2 (show Nat.gcd q.num.natAbs q.den=1 from q.reduced)];rw[aH (show¬((q.den:Nat):Int)<0 by omega)];rfl
theorem ot {w:World}{s:Bool}{A:Option Addr}{n:Nat}{f:Nat->Nat}(hr:Rd w.heap.size .u16 w A n f)(hf:∀j,j<n->f j<65536)(h:okW s n f=true):WV w (jt s (vs ai f n)) s A n:=by
 have Cr:ln ai (vs ai f n)=n:=by
  unfold okW at h
  by_cases h0:n=0
  ·subst h0;rw[kI,cY]
  ·
   rw[if_neg h0,iP] at h;exact Rx aA hf (.inr (by simpa using h.2))
 refine⟨?_,by rw[cE,Cr], ?_⟩
 ·
  rw[ju];unfold okW at h
  by_cases h0:n=0
  ·
   subst h0;rw[if_pos rfl] at h;rw[kI]
   revert h;cases s<;>simp
  ·
   have:0<vs ai f n:=(dM aA).1 (by omega);rw[aL this,Bool.and_true]
 ·
  rw[cE];exact aJ.ry hr hf
theorem adx {w:World}{s t:Bool}{A B:Option Addr}{n m:Nat}{f g:Nat->Nat}(hr:kA w A n f B m g)(h:okF s n f t m g=true):∃q:Rat,FV w q s A n t B m/\n<=256/\m<=256/\fl q<=256:=by
 unfold okF at h;simp only[Bool.and_eq_true,Bool.not_eq_true',Bool.or_eq_false_iff,decide_eq_false_iff_not,beq_iff_eq] at h;obtain⟨⟨h1,h2⟩,h3,h4,h5,h6,h7⟩:=h;subst h5;have w1:=ot hr.1 hr.2.2.1 h3;have w2:=ot hr.2.1 hr.2.2.2 h4
 have hd:0<vs ai g m:=by
  have:=w2.len;rw[cE] at this;exact(dM aA).1 (by omega)
 have hm:=RQ (n:=jt s (vs ai f n)) (d:=vs ai g m) hd (by rw[cE];exact h7);refine⟨Rat.divInt (jt s (vs ai f n)) (vs ai g m),⟨by rw[hm.1];exact w1,by rw[hm.2];exact w2⟩,by omega,by omega, ?_⟩;rw[dA,hm.1,hm.2];have l1:=w1.len;have l2:=w2.len;rw[cE] at l1 l2;rw[cE];omega

theorem LJ (s t:Bool)(A B:Option Addr)(n m c d:Nat)(w:World):
  Calls Tryz.prog 147 #[.agg (az s A n c t B m d)] w fun e w'=>e= .returned (.bool (decide (256<n)||decide (256<m)))/\Below w.heap.size w w':=by
 have iZ:Below w.heap.size w (w.alloc (.cells (az s A n c t B m d) 138)):=(aU _ _).alloc (aq _) _
 by_cases h1:256<n
 ·
  have HE:=af (aL h1);have t1:decide ((256:Int)<(n:Int))=true:=aL (by omega);clear h1
  go_enter Tryz.func147,Tryz.ntmps147
  go_wp2_with fail
  go_ret
  exact⟨aT (by rw[HE.out];rfl),iZ⟩
 ·
  have HE:=af (aH h1);have t1:decide ((256:Int)<(n:Int))=false:=aH (by omega);clear h1
  by_cases h2:256<m
  ·
   have Gj:=af (aL h2);have t2:decide ((256:Int)<(m:Int))=true:=aL (by omega);clear h2
   go_enter Tryz.func147,Tryz.ntmps147
   go_wp2_with fail
   go_ret
   exact⟨aT (by rw[HE.out,Gj.out];rfl),iZ⟩
  ·
   have Gj:=af (aH h2);have t2:decide ((256:Int)<(m:Int))=false:=aH (by omega);clear h2
   go_enter Tryz.func147,Tryz.ntmps147
   go_wp2_with fail
   go_ret
   exact⟨aT (by rw[HE.out,Gj.out];rfl),iZ⟩
theorem Ex {s t:Bool}{A B:Option Addr}{n m c d:Nat}{z:Int}{w:World}(hB:WV w z t B m)(hm:m<=1000000):
  Calls Tryz.prog 149 #[.agg (az s A n c t B m d)] w fun e w'=>e= .returned (.bool (decide (z=1)))/\Below w.heap.size w w':=by
 have iZ:Below w.heap.size w (w.alloc (.cells (az s A n c t B m d) 138)):=(aU _ _).alloc (aq _) _;have HC:=af (JQ (c:=d) (hB.below iZ) hm);clear hB
 go_enter Tryz.func149,Tryz.ntmps149
 go_wp2_with fail
 refine HC.out.mono ?_
 rintro e w1 ⟨rfl,hb⟩
 obtain⟨y,hy⟩:∃y,y=decide (z=1):=⟨_,rfl⟩
 rw[<-hy];have HY:=af hy;clear hy HC;go_wp2_with fail
 go_ret
 exact⟨aT HY.out,iZ.trans (hb.mono iZ.size)⟩
theorem cZ (s:Bool)(A:Option Addr)(n c:Nat)(f:Nat->Nat)(w:World)(h:Rd w.heap.size .u16 w A n f)(hf:∀i,i<n->f i<65536)(hn:n<=1000000)(r:Bool)(hr:okW s n f=r):
  Calls Tryz.prog 148 #[.agg #[.bool s,.slice A n c]] w fun e w'=>e= .returned (.bool r)/\Below w.heap.size w w':=by
 subst hr;exact yG s A n c f w h hf hn
theorem kG (s t:Bool)(A B:Option Addr)(n m c d:Nat)(w:World)(r:Bool)(hr:(decide (256<n)||decide (256<m))=r):
  Calls Tryz.prog 147 #[.agg (az s A n c t B m d)] w fun e w'=>e= .returned (.bool r)/\Below w.heap.size w w':=by
 subst hr;exact LJ s t A B n m c d w
theorem WM (s t:Bool)(x y:Nat):Nat.gcd (jt s x).natAbs (jt t y).natAbs=Nat.gcd x y:=by rw[cE,cE]
theorem Ey (s t:Bool)(A B:Option Addr)(n m c d:Nat)(f g:Nat->Nat)(w:World)(hr:kA w A n f B m g)(hn:n<=1000000)(hm:m<=1000000):
  Calls Tryz.prog 113 #[.agg (az s A n c t B m d)] w fun e w'=>e= .returned (.bool (okF s n f t m g))/\Below w.heap.size w w':=by
 have hE:=(Env.start w).blk 138 (az s A n c t B m d) (g:=w.heap.size) rfl
 obtain⟨W0,aC⟩:∃W0,W0=w.alloc (.cells (az s A n c t B m d) 138):=⟨_,rfl⟩
 rw[<-aC] at hE;have aZ:=af aC;clear aC
 obtain⟨r,hres⟩:∃r,r=okF s n f t m g:=⟨_,rfl⟩
 rw[<-hres];unfold okF at hres
 obtain⟨L,hL⟩:∃L,(decide (256<n)||decide (256<m))=L:=⟨_,rfl⟩
 obtain⟨v1,Lm⟩:∃v1,okW s n f=v1:=⟨_,rfl⟩
 obtain⟨v2,nO⟩:∃v2,okW t m g=v2:=⟨_,rfl⟩
 rw[hL,Lm,nO] at hres;have HL:=af hL;have JF:=af Lm;have Gq:=af nO;clear hL Lm nO
 cases L with
 |true=>
  obtain rfl:r=false:=by rw[hres];rfl
  clear hres
  go_enter Tryz.func113,Tryz.ntmps113
  go_upto_region 1 with(fail)
  rw[<-aZ.out];obtain⟨k1,k2,k3,k4⟩:=hE.g0.c4;go_wp2_with fail
  refine(kG s t A B n m c d _ _ HL.out).mono ?_
  rintro e w1 ⟨rfl,hb⟩
  clear k1 k2 k3 k4;go_wp2_with fail
  go_ret
  exact⟨rfl,(hE.step hb).ax⟩
 |false=>
  have hlen:n<=256/\m<=256:=by have:=HL.out;simp only[Bool.or_eq_false_iff,decide_eq_false_iff_not] at this;omega
  cases v1 with
  |false=>
   obtain rfl:r=false:=by rw[hres];rfl
   clear hres
   go_enter Tryz.func113,Tryz.ntmps113
   go_upto_region 1 with(fail)
   rw[<-aZ.out];obtain⟨k1,k2,k3,k4⟩:=hE.g0.c4;go_wp2_with fail
   refine(kG s t A B n m c d _ _ HL.out).mono ?_
   rintro e w1 ⟨rfl,hb⟩
   clear k1 k2 k3 k4;replace hE:=hE.step hb;clear hb;obtain⟨k1,k2,k3,k4⟩:=hE.g0.c4;go_wp2_with fail
   refine(cZ s A n c f _ (hr.below hE.ax).1 hr.2.2.1 hn _ JF.out).mono ?_
   rintro e w2 ⟨rfl,hb⟩
   clear k1 k2 k3 k4;go_wp2_with fail
   go_ret
   exact⟨rfl,(hE.step hb).ax⟩
  |true=>
   cases v2 with
   |false=>
    obtain rfl:r=false:=by rw[hres];rfl
    clear hres
    go_enter Tryz.func113,Tryz.ntmps113
    go_upto_region 1 with(fail)
    rw[<-aZ.out];obtain⟨k1,k2,k3,k4⟩:=hE.g0.c4;go_wp2_with fail
    refine(kG s t A B n m c d _ _ HL.out).mono ?_
    rintro e w1 ⟨rfl,hb⟩
    clear k1 k2 k3 k4;replace hE:=hE.step hb;clear hb;obtain⟨k1,k2,k3,k4⟩:=hE.g0.c4;go_wp2_with fail
    refine(cZ s A n c f _ (hr.below hE.ax).1 hr.2.2.1 hn _ JF.out).mono ?_
    rintro e w2 ⟨rfl,hb⟩
    clear k1 k2 k3 k4;replace hE:=hE.step hb;clear hb;obtain⟨k1,k2,k3,k4⟩:=hE.g0.c4;go_wp2_with fail
    refine(cZ t B m d g _ (hr.below hE.ax).2.1 hr.2.2.2 hm _ Gq.out).mono ?_
    rintro e w3 ⟨rfl,hb⟩
    clear k1 k2 k3 k4;go_wp2_with fail
    go_ret
    exact⟨rfl,(hE.step hb).ax⟩
   |true=>
    have w1:=ot hr.1 hr.2.2.1 JF.out;have w2:=ot hr.2.1 hr.2.2.2 Gq.out
    obtain⟨x,hx⟩:∃x,jt s (vs ai f n)=x:=⟨_,rfl⟩
    obtain⟨y,hy⟩:∃y,jt t (vs ai g m)=y:=⟨_,rfl⟩
    have WN:=WM s t (vs ai f n) (vs ai g m);rw[hx,hy] at WN;rw[hx] at w1;rw[hy] at w2;rw[<-WN] at hres
    have hyy:y=1->Nat.gcd x.natAbs y.natAbs=1:=fun e=>by rw[e];exact Nat.gcd_one_right _
    clear hx hy WN
    cases t with
    |true=>
     obtain rfl:r=false:=by rw[hres];rfl
     clear hres
     go_enter Tryz.func113,Tryz.ntmps113
     go_upto_region 1 with(fail)
     rw[<-aZ.out];obtain⟨k1,k2,k3,k4⟩:=hE.g0.c4;go_wp2_with fail
     refine(kG s _ A B n _ c d _ _ HL.out).mono ?_
     rintro e w1' ⟨rfl,hb⟩
     clear k1 k2 k3 k4;replace hE:=hE.step hb;clear hb;obtain⟨k1,k2,k3,k4⟩:=hE.g0.c4;go_wp2_with fail
     refine(cZ s A n c f _ (hr.below hE.ax).1 hr.2.2.1 hn _ JF.out).mono ?_
     rintro e w2' ⟨rfl,hb⟩
     clear k1 k2 k3 k4;replace hE:=hE.step hb;clear hb;obtain⟨k1,k2,k3,k4⟩:=hE.g0.c4;go_wp2_with fail
     refine(cZ _ B _ d g _ (hr.below hE.ax).2.1 hr.2.2.2 hm _ Gq.out).mono ?_
     rintro e w3 ⟨rfl,hb⟩
     clear k1 k2 k3 k4;replace hE:=hE.step hb;clear hb;obtain⟨k1,k2,k3,k4⟩:=hE.g0.c4;go_wp2_with fail
     go_ret
     exact⟨rfl,hE.ax⟩
    |false=>
     by_cases hm0:m=0
     ·
      obtain rfl:r=false:=by rw[hres,aL hm0];rfl
      subst hm0;clear hres
      go_enter Tryz.func113,Tryz.ntmps113
      go_upto_region 1 with(fail)
      rw[<-aZ.out];obtain⟨k1,k2,k3,k4⟩:=hE.g0.c4;go_wp2_with fail
      refine(kG s _ A B n _ c d _ _ HL.out).mono ?_
      rintro e w1' ⟨rfl,hb⟩
      clear k1 k2 k3 k4;replace hE:=hE.step hb;clear hb;obtain⟨k1,k2,k3,k4⟩:=hE.g0.c4;go_wp2_with fail
      refine(cZ s A n c f _ (hr.below hE.ax).1 hr.2.2.1 hn _ JF.out).mono ?_
      rintro e w2' ⟨rfl,hb⟩
      clear k1 k2 k3 k4;replace hE:=hE.step hb;clear hb;obtain⟨k1,k2,k3,k4⟩:=hE.g0.c4;go_wp2_with fail
      refine(cZ _ B _ d g _ (hr.below hE.ax).2.1 hr.2.2.2 hm _ Gq.out).mono ?_
      rintro e w3 ⟨rfl,hb⟩
      clear k1 k2 k3 k4;replace hE:=hE.step hb;clear hb;obtain⟨k1,k2,k3,k4⟩:=hE.g0.c4;go_wp2_with fail
      go_ret
      exact⟨rfl,hE.ax⟩
     ·
      have t1:((m:Int)==0)=false:=gh.2 (by omega)
      have hres2:r=(Nat.gcd x.natAbs y.natAbs==1):=by rw[hres,aH hm0];rfl
      clear hres;have HR:=af hres2;clear hres2
      go_enter Tryz.func113,Tryz.ntmps113
      go_upto_region 1 with(fail)
      rw[<-aZ.out];obtain⟨k1,k2,k3,k4⟩:=hE.g0.c4;go_wp2_with fail
      refine(kG s _ A B n _ c d _ _ HL.out).mono ?_
      rintro e w1' ⟨rfl,hb⟩
      clear k1 k2 k3 k4;replace hE:=hE.step hb;clear hb;obtain⟨k1,k2,k3,k4⟩:=hE.g0.c4;go_wp2_with fail
      refine(cZ s A n c f _ (hr.below hE.ax).1 hr.2.2.1 hn _ JF.out).mono ?_
      rintro e w2' ⟨rfl,hb⟩
      clear k1 k2 k3 k4;replace hE:=hE.step hb;clear hb;obtain⟨k1,k2,k3,k4⟩:=hE.g0.c4;go_wp2_with fail
      refine(cZ _ B _ d g _ (hr.below hE.ax).2.1 hr.2.2.2 hm _ Gq.out).mono ?_
      rintro e w3 ⟨rfl,hb⟩
      clear k1 k2 k3 k4;replace hE:=hE.step hb;clear hb;obtain⟨k1,k2,k3,k4⟩:=hE.g0.c4;go_wp2_with fail
      refine(Ex (w:=w3) (w2.below hE.ax) hm).mono ?_;clear k1 k2 k3 k4
      rintro e w4 ⟨rfl,hb⟩
      replace hE:=hE.step hb;clear hb t1
      by_cases hy1:y=1
      ·
       have hg:=hyy hy1;rw[aL hy1]
       have FB:r=true:=by rw[HR.out,hg];rfl
       clear hg hy1 hyy;have HR1:=af FB;clear FB;go_wp2_with fail
       go_ret
       exact⟨aT HR1.out.symm,hE.ax⟩
      ·
       rw[aH hy1];clear hyy hy1;obtain⟨k1,k2,k3,k4⟩:=hE.g0.c4;go_wp2_with fail
       refine(qw (ca:=c) (cb:=d) (w1.below hE.ax) (w2.below hE.ax) (by omega) (by omega)).mono ?_;clear k1 k2 k3 k4
       rintro e w5 ⟨sg,Ag,ng,cg,rfl,hg,hb⟩
       replace hE:=hE.step hb;clear hb
       have MG:ng<=1024:=by
        rw[hg.len,bV];refine GU _ _ _ ?_ ?_
        ·rw[<-w1.len];omega
        ·rw[<-w2.len];omega
       go_wp2_with fail
       refine(JQ (c:=cg) hg (by omega)).mono ?_
       rintro e w6 ⟨rfl,hb⟩
       have hq:decide (((Nat.gcd x.natAbs y.natAbs:Nat):Int)=1)=r:=by rw[HR.out,Bool.eq_iff_iff,oN,beq_iff_eq];omega
       rw[hq];clear hq;go_wp2_with fail
       go_ret
       exact⟨rfl,(hE.step hb).ax⟩
end
section
open Go.RowKit

theorem LK (s t:Bool)(A B:Option Addr)(n m c d:Nat)(f g:Nat->Nat)(w:World)(hr:kA w A n f B m g)(hn:n<=1000000)(hm:m<=1000000)(r:Bool)(h:okF s n f t m g=r):
  Calls Tryz.prog 113 #[.agg (az s A n c t B m d)] w fun e w'=>e= .returned (.bool r)/\Below w.heap.size w w':=by
 subst h;exact Ey s t A B n m c d f g w hr hn hm
theorem cV (s t:Bool)(A B:Option Addr)(n m c d:Nat)(f g:Nat->Nat)(w:World)(hr:kA w A n f B m g)(hn:n<=1000000)(hm:m<=1000000)(r:Bool)(h:okF s n f t m g=r):
  Calls Tryz.prog 71 #[.agg (az s A n c t B m d)] w fun e w'=>e= .returned (.bool r)/\Below w.heap.size w w':=by
 have iZ:Below w.heap.size w (w.alloc (.cells (az s A n c t B m d) 29)):=(aU _ _).alloc (aq _) _;have HC:=af (LK s t A B n m c d f g _ (hr.below iZ) hn hm r h);clear h hr
 go_enter Tryz.func71,Tryz.ntmps71
 go_wp2_with fail
 refine HC.out.mono ?_
 rintro e w1 ⟨rfl,hb⟩
 clear HC;go_wp2_with fail
 go_ret
 exact⟨rfl,iZ.trans (hb.mono iZ.size)⟩
theorem oY (s t:Bool)(A B:Option Addr)(n m c d:Nat)(f g:Nat->Nat)(w:World)(hr:kA w A n f B m g)(hn:n<=1000000)(hm:m<=1000000)(r:Bool)(h:okF s n f t m g=r):
  Calls Tryz.prog 121 #[.agg (az s A n c t B m d)] w fun e w'=>e= .returned (.bool (!r))/\Below w.heap.size w w':=by
 have iZ:Below w.heap.size w (w.alloc (.cells (az s A n c t B m d) 29)):=(aU _ _).alloc (aq _) _;have HC:=af (cV s t A B n m c d f g _ (hr.below iZ) hn hm r h);clear h hr
 go_enter Tryz.func121,Tryz.ntmps121
 go_wp2_with fail
 refine HC.out.mono ?_
 rintro e w1 ⟨rfl,hb⟩
 clear HC;go_wp2_with fail
 go_ret
 exact⟨rfl,iZ.trans (hb.mono iZ.size)⟩
theorem au.c8 {t:TypeId}{g:Nat}{w:World}{a b c d e f x y:Value}(h:au t g #[a,b,c,d,e,f,x,y] w):
  (w.cell? ⟨g,0,none⟩=some a/\w.cell? ⟨g,1,none⟩=some b/\w.cell? ⟨g,2,none⟩=some c/\w.cell? ⟨g,3,none⟩=some d)/\w.cell? ⟨g,4,none⟩=some e/\w.cell? ⟨g,5,none⟩=some f/\w.cell? ⟨g,6,none⟩=some x/\w.cell? ⟨g,7,none⟩=some y:=
 ⟨⟨h.cell 0,h.cell 1,h.cell 2,h.cell 3⟩,h.cell 4,h.cell 5,h.cell 6,h.cell 7⟩
def wk (r1 r2:Bool):Int:=if r1 then(if r2 then-1 else 1) else 0
theorem GV (S:Nat)(s t s2 t2:Bool)(A B A2 B2:Option Addr)(n m c d n2 m2 c2 d2:Nat)(f g f2 g2:Nat->Nat)(w:World)(hS:au 29 S #[.bool s,.slice A n c,.bool t,.slice B m d,.bool s2,.slice A2 n2 c2,.bool t2,.slice B2 m2 d2] w)
  (hr:kA w A n f B m g) (LL:kA w A2 n2 f2 B2 m2 g2) (hn:n<=1000000) (hm:m<=1000000) (hn2:n2<=1000000) (hm2:m2<=1000000) (r1 r2:Bool) (h1:okF s n f t m g=r1) (h2:okF s2 n2 f2 t2 m2 g2=r2):
  Calls Tryz.prog 156 #[.slice (some ⟨S,0,none⟩) 2 2,.func (.func 121) #[] #[]] w fun e w'=>e= .returned (.int .i64 (wk r1 r2))/\Below w.heap.size w w':=by
 have hE:=(Env.start w).ag hS;have H1:=af h1;have H2:=af h2;clear h1 h2
 go_enter Tryz.func156,Tryz.ntmps156
 go_wp2_with fail
 go_loopw [8] (fun i wr=>∃k:Nat,k<=2/\i= .int .i64 (k:Int)/\Hid ((0<k->r1=true)/\(1<k->r2=true))/\Env w (fun V=>True/\au 29 S #[.bool s,.slice A n c,.bool t,.slice B m d,.bool s2,.slice A2 n2 c2,.bool t2,.slice B2 m2 d2] V) wr) (fun i _=>2-(intOf i).toNat)
 case atStart=>exact⟨0,by omega,rfl,af ⟨fun h=>absurd h (by omega),fun h=>absurd h (by omega)⟩,hE⟩
 case round=>
  obtain⟨k,hk,rfl,HK,hE⟩:=hrel
  rcases(show k=0\/k=1\/k=2 by omega) with rfl|rfl|rfl
  ·
   obtain⟨⟨k1,k2,k3,k4⟩,-⟩:=hE.g0.c8
   cases r1 with
   |true=>
    go_wp2_with fail
    refine(oY s t A B n m c d f g _ (hr.below hE.ax) hn hm _ H1.out).mono ?_
    rintro e w1 ⟨rfl,hb⟩
    clear k1 k2 k3 k4;go_wp2_with fail
    go_roundw
    case rel=>exact⟨1,by omega,rfl,af ⟨fun _=>(by first|rfl|trivial),fun h=>absurd h (by omega)⟩,hE.step hb⟩
    case measure=>simp[intOf]
   |false=>
    go_wp2_with fail
    refine(oY s t A B n m c d f g _ (hr.below hE.ax) hn hm _ H1.out).mono ?_
    rintro e w1 ⟨rfl,hb⟩
    clear k1 k2 k3 k4;go_wp2_with fail
    go_ret
    exact⟨rfl,(hE.step hb).ax⟩
  ·
   obtain⟨-,k1,k2,k3,k4⟩:=hE.g0.c8;have FB:=HK.out.1 (by omega)
   cases r2 with
   |true=>
    go_wp2_with fail
    refine(oY s2 t2 A2 B2 n2 m2 c2 d2 f2 g2 _ (LL.below hE.ax) hn2 hm2 _ H2.out).mono ?_
    rintro e w1 ⟨rfl,hb⟩
    clear k1 k2 k3 k4;go_wp2_with fail
    go_roundw
    case rel=>exact⟨2,by omega,rfl,af ⟨fun _=>FB,fun _=>(by first|rfl|trivial)⟩,hE.step hb⟩
    case measure=>simp[intOf]
   |false=>
    go_wp2_with fail
    refine(oY s2 t2 A2 B2 n2 m2 c2 d2 f2 g2 _ (LL.below hE.ax) hn2 hm2 _ H2.out).mono ?_
    rintro e w1 ⟨rfl,hb⟩
    clear k1 k2 k3 k4;go_wp2_with fail
    go_ret
    exact⟨by rw[FB];rfl,(hE.step hb).ax⟩
  ·
   have FB:=HK.out.1 (by omega);have aiu:=HK.out.2 (by omega);have HR:=af FB;have HR2:=af aiu;clear FB aiu;go_wp2_with fail
   go_ret
   exact⟨by rw[HR.out,HR2.out];rfl,hE.ax⟩
theorem Ez (r1 r2:Bool):decide ((0:Int)<=wk r1 r2)= !(r1&&r2):=by cases r1<;>cases r2<;>rfl
section
variable (S:Nat) (s t s2 t2:Bool) (A B A2 B2:Option Addr) (n m c d n2 m2 c2 d2:Nat) (f g f2 g2:Nat->Nat) (w:World) (hS:au 29 S #[.bool s,.slice A n c,.bool t,.slice B m d,.bool s2,.slice A2 n2 c2,.bool t2,.slice B2 m2 d2] w)
  (hr:kA w A n f B m g) (LL:kA w A2 n2 f2 B2 m2 g2) (hn:n<=1000000) (hm:m<=1000000) (hn2:n2<=1000000) (hm2:m2<=1000000) (r1 r2:Bool) (h1:okF s n f t m g=r1) (h2:okF s2 n2 f2 t2 m2 g2=r2)
include hS hr LL hn hm hn2 hm2 h1 h2
theorem xD :
  Calls Tryz.prog 120 #[.slice (some ⟨S,0,none⟩) 2 2,.func (.func 121) #[] #[]] w fun e w'=>e= .returned (.bool (!(r1&&r2)))/\Below w.heap.size w w':=by
 have HC:=af (GV S s t s2 t2 A B A2 B2 n m c d n2 m2 c2 d2 f g f2 g2 w hS hr LL hn hm hn2 hm2 r1 r2 h1 h2);have hf:=Ez r1 r2
 obtain⟨v,hv⟩:∃v,v=wk r1 r2:=⟨_,rfl⟩
 rw[<-hv] at hf HC;have HF:=af hf;clear hf hv h1 h2
 go_enter Tryz.func120,Tryz.ntmps120
 go_wp2_with fail
 refine HC.out.mono ?_
 rintro e w1 ⟨rfl,hb⟩
 clear HC;go_wp2_with fail
 go_ret
 exact⟨aT HF.out,hb⟩
theorem xE :
  Calls Tryz.prog 80 #[.slice (some ⟨S,0,none⟩) 2 2] w fun e w'=>e= .returned (.bool (r1&&r2))/\Below w.heap.size w w':=by
 have HC:=af (xD S s t s2 t2 A B A2 B2 n m c d n2 m2 c2 d2 f g f2 g2 w hS hr LL hn hm hn2 hm2 r1 r2 h1 h2);clear h1 h2
 obtain⟨v,hv⟩:∃v,v=(r1&&r2):=⟨_,rfl⟩
 rw[<-hv] at HC;have HV:=af hv;clear hv
 go_enter Tryz.func80,Tryz.ntmps80
 go_wp2_with fail
 refine HC.out.mono ?_
 rintro e w1 ⟨rfl,hb⟩
 clear HC;go_wp2_with fail
 go_ret
 exact⟨aT HV.out,hb⟩
end
theorem iq {p q:Rat}{s t s2 t2:Bool}{A B A2 B2:Option Addr}{n m c d n2 m2 c2 d2:Nat}{W:World}(h1:FV W p s A n t B m)(h2:FV W q s2 A2 n2 t2 B2 m2)(l1:fl p<=256)(l2:fl q<=256):
  Calls Tryz.prog 80 #[.slice (some ⟨W.heap.size,0,none⟩) 2 2] (W.alloc (.cells #[.bool s,.slice A n c,.bool t,.slice B m d,.bool s2,.slice A2 n2 c2,.bool t2,.slice B2 m2 d2] 29)) fun e w'=>e= .returned (.bool true)/\Below W.heap.size W w':=by
 have hb:=(aU W.heap.size W).alloc (aq _) (.cells #[.bool s,.slice A n c,.bool t,.slice B m d,.bool s2,.slice A2 n2 c2,.bool t2,.slice B2 m2 d2] 29);have e1:=h1.ln l1;have e2:=h2.ln l2;have h:=xE W.heap.size s t s2 t2 A B A2 B2 n m c d n2 m2 c2 d2 _ _ _ _ _ (au.new W _ _) (h1.below hb).rd (h2.below hb).rd (by omega) (by omega) (by omega) (by omega) true true (pZ h1 l1) (pZ h2 l2)
 exact h.mono fun e w' ⟨he,hb'⟩=>⟨he,hb.trans (hb'.mono hb.size)⟩
end
end Go.Proofs.YtclbiihcbfnjmaaGreat
