/-
  Parts.
-/
import Derived.Test.YtclbiihcbfnjmaaGreatES2
set_option linter.unusedSimpArgs false
set_option maxRecDepth 100000
set_option maxHeartbeats 8000000
namespace Go.Proofs.YtclbiihcbfnjmaaGreat
open Go.RowKit

theorem adv {N D:Int}{k:Nat}(h:0<D)(h1:ln ai N.natAbs<=k)(h2:ln ai D.natAbs<=k):fl (Rat.divInt N D)<=k:=by
 obtain⟨e1,e2⟩:=uQ (n:=N) h;rw[dA];refine⟨?_, ?_⟩
 ·rw[e1];exact ay (cN aA (Int.natAbs_ediv_le_natAbs _ _)) h1
 ·
  have e3:(Rat.divInt N D).den=(D/((Nat.gcd N.natAbs D.natAbs:Nat):Int)).natAbs:=by omega
  rw[e3];exact ay (cN aA (Int.natAbs_ediv_le_natAbs _ _)) h2
theorem aie {a:Rat}{i:Nat}(ha:fl a<=i):ln ai a.num.natAbs<=i/\ln ai ((a.den:Int)).natAbs<=i:=by
 rw[bV];exact dA.1 ha
theorem Eb (a:Rat):0<(a.den:Int):=by have:=a.den_pos;omega
theorem Wn {a b:Rat}{i j:Nat}(ha:fl a<=i)(hb:fl b<=j):fl (a+b)<=i+j+1:=by
 obtain⟨a1,a2⟩:=aie ha;obtain⟨b1,b2⟩:=aie hb;rw[<-uP];refine adv (Int.mul_pos (Eb a) (Eb b)) (gL (m:=i+j) (bE a1 b2) (ay (bE b1 a2) (by omega))) (ay (bE a2 b2) (by omega))
theorem vN {sa ta:Bool}{Aa Ba:Option Addr}{na ca ma da:Nat}{w:World}:
  Calls Tryz.prog 94 #[.agg (az sa Aa na ca ta Ba ma da)] w (fun e w'=>e= .returned (.bool (decide (na<=256)&&decide (ma<=256)))/\Below w.heap.size w w'):=by
 have hE:=(Env.start w).blk 29 (az sa Aa na ca ta Ba ma da) (g:=w.heap.size) rfl
 obtain⟨W0,aC⟩:∃W0,W0=(w.alloc (.cells (az sa Aa na ca ta Ba ma da) 29)):=⟨_,rfl⟩
 rw[<-aC] at hE;have aZ:=af aC;clear aC
 go_enter Tryz.func94,Tryz.ntmps94
 go_upto_region 1 with(fail)
 rw[<-aZ.out]
 by_cases h1:na<=256
 ·
  have una:decide ((na:Int)<=256)=true:=aL (by omega);have xna:decide (na<=256)=true:=aL (by omega)
  by_cases h2:ma<=256
  ·
   have uma:decide ((ma:Int)<=256)=true:=aL (by omega);have xma:decide (ma<=256)=true:=aL (by omega);obtain⟨k1,k2,k3,k4⟩:=(hE.g0).c4;go_wp2_with fail
   go_ret
   exact⟨by rw[xna,xma];rfl,hE.ax⟩
  ·
   have uma:decide ((ma:Int)<=256)=false:=aH (by omega);have xma:decide (ma<=256)=false:=aH (by omega);obtain⟨k5,k6,k7,k8⟩:=(hE.g0).c4;go_wp2_with fail
   go_ret
   exact⟨by rw[xna,xma];rfl,hE.ax⟩
 ·
  have una:decide ((na:Int)<=256)=false:=aH (by omega);have xna:decide (na<=256)=false:=aH (by omega);obtain⟨k9,fU,dX,dY⟩:=(hE.g0).c4;go_wp2_with fail
  go_ret
  exact⟨by rw[xna];rfl,hE.ax⟩
theorem Rh {f g:Nat->Nat}{n m:Nat}(hg:∀j,j<m->g j<65536)(hm:0<vs ai g m):ln ai (Nat.gcd (vs ai f n) (vs ai g m))<=m:=by
 rw[bJ aA];exact eH (Nat.le_of_dvd hm (mR _ _)) (kf hg)
theorem adw {b:Nat}(hb:2<=b)(f:Nat->Nat){n:Nat}(hn:n≠0)(h:f (n-1)≠0):vs b f n≠0:=by
 obtain⟨k,rfl⟩:∃k,n=k+1:=⟨n-1,by omega⟩
 rw[bz];have h1:f k≠0:=h;have h2:0<b^k:=bM (by omega);have h3:=dP (Nat.pos_of_ne_zero h1) h2;rw[bC] at h3;omega
theorem tS {sa ta:Bool}{Aa Ba:Option Addr}{na ca ma da:Nat}{fa ga:Nat->Nat}{w:World}(ra:kA w Aa na fa Ba ma ga)(hn:na<=900000)(hm:ma<=900000):
  Calls Tryz.prog 92 #[.agg (az sa Aa na ca ta Ba ma da)] w (fun e w'=>e= .returned (.bool (okF sa na fa ta ma ga))/\Below w.heap.size w w'):=by
 obtain⟨r,hres⟩:∃r,r=okF sa na fa ta ma ga:=⟨_,rfl⟩
 rw[<-hres];unfold okF at hres;have HR:=af hres;clear hres;obtain⟨rd1,rd2,rd3,rd4⟩:=ra;have R1:=af rd1;have R2:=af rd2;have R3:=af rd3;have R4:=af rd4;clear rd1 rd2 rd3 rd4;have hE:=(Env.start w).blk 29 (az sa Aa na ca ta Ba ma da) (g:=w.heap.size) rfl
 obtain⟨W0,aC⟩:∃W0,W0=(w.alloc (.cells (az sa Aa na ca ta Ba ma da) 29)):=⟨_,rfl⟩
 rw[<-aC] at hE;have aZ:=af aC;clear aC
 go_enter Tryz.func92,Tryz.ntmps92
 go_upto_region 1 with(fail)
 rw[<-aZ.out]
 obtain⟨v1,Lm⟩:∃v1,okW sa na fa=v1:=⟨_,rfl⟩
 obtain⟨v2,nO⟩:∃v2,okW ta ma ga=v2:=⟨_,rfl⟩
 have JF:=af Lm;have Gq:=af nO;clear Lm nO;obtain⟨k1,k2,k3,k4⟩:=(hE.g0).c4;go_wp2_with fail
 have hc:=vO sa Aa na ca fa _ ((R1.out.below hE.ax).more hE.ax.size) R3.out (by omega);rw[JF.out] at hc;refine hc.mono ?_;clear hc;clear k1 k2 k3 k4
 rintro e v01 ⟨rfl,hb⟩
 replace hE:=hE.step hb;clear hb
 cases v1
 ·
  go_wp2_with fail
  go_ret
  refine⟨aT ?_,hE.ax⟩;rw[HR.out]
  rw[JF.out];cases decide (256<na)<;>cases decide (256<ma)<;>rfl
 ·
  obtain⟨k5,k6,k7,k8⟩:=(hE.g0).c4;go_wp2_with fail
  have hc:=vO ta Ba ma da ga _ ((R2.out.below hE.ax).more hE.ax.size) R4.out (by omega);rw[Gq.out] at hc;refine hc.mono ?_;clear hc;clear k5 k6 k7 k8
  rintro e v02 ⟨rfl,hb⟩
  replace hE:=hE.step hb;clear hb
  cases v2
  ·
   go_wp2_with fail
   go_ret
   refine⟨aT ?_,hE.ax⟩;rw[HR.out]
   rw[JF.out,Gq.out];cases decide (256<na)<;>cases decide (256<ma)<;>rfl
  ·
   obtain⟨v3,hv3⟩:∃v3,(decide (na<=256)&&decide (ma<=256))=v3:=⟨_,rfl⟩
   have HV3:=af hv3;clear hv3;obtain⟨k9,fU,dX,dY⟩:=(hE.g0).c4;go_wp2_with fail
   have hc:=vN (sa:=sa) (ta:=ta) (Aa:=Aa) (Ba:=Ba) (na:=na) (ca:=ca) (ma:=ma) (da:=da) (w:=v02);rw[HV3.out] at hc;refine hc.mono ?_;clear hc;clear k9 fU dX dY
   rintro e v03 ⟨rfl,hb⟩
   replace hE:=hE.step hb;clear hb
   have hfit:(decide (256<na)||decide (256<ma))= !v3:=by
    rw[<-HV3.out,Bool.not_and,<-decide_not,<-decide_not];simp only[Nat.not_le]
   have HF:=af hfit;clear hfit
   cases v3
   ·
    go_wp2_with fail
    go_ret
    refine⟨aT ?_,hE.ax⟩;rw[HR.out];rw[HF.out];rfl
   ·
    cases ta
    rotate_left
    ·
     obtain⟨eu,eF,iA,kz⟩:=(hE.g0).c4;go_wp2_with fail
     go_ret
     refine⟨aT ?_,hE.ax⟩;rw[HR.out];rw[HF.out,JF.out,Gq.out];rfl
    by_cases h0:ma=0
    ·
     subst h0;obtain⟨lU,jS,kT,kB⟩:=(hE.g0).c4;go_wp2_with fail
     go_ret
     refine⟨aT ?_,hE.ax⟩;rw[HR.out];rw[HF.out,JF.out,Gq.out];rfl
    ·
     have t1:((ma:Int)==0)=false:=gh.2 (by omega);have t2:(ma==0)=false:=gh.2 h0;have T0:=af h0;clear h0;have x1:=ot ((R1.out.below hE.ax).more hE.ax.size) R3.out JF.out;have x2:=ot ((R2.out.below hE.ax).more hE.ax.size) R4.out Gq.out;have hE:=(hE.wv x1).wv x2;clear x1 x2
     obtain⟨gg,hgg⟩:∃x,x=Nat.gcd (vs ai fa na) (vs ai ga ma):=⟨_,rfl⟩
     have HG:=af hgg;clear hgg;obtain⟨lV,lW,nC,rP⟩:=(hE.h2).c4;go_wp2_with fail
     have hc:=sE (c:=ca) (d:=da) (hE.g1) (hE.g0) (by omega) (by omega);rw[cE,cE,<-HG.out] at hc;refine hc.mono ?_;clear hc;clear lV lW nC rP
     rintro e v04 ⟨Ag,ng,cg,rfl,hg,hb⟩
     replace hE:=hE.step hb;clear hb;replace hE:=hE.wv hg
     have Ln:ng<=1000000:=by
      rw[hg.len,HG.out,bV];refine ay (Rh (f:=fa) (g:=ga) R4.out ?_) (by omega);have hx:=Gq.out;unfold okW at hx;rw[if_neg T0.out] at hx;have hy:=(Bool.and_eq_true_iff.1 hx).2;exact Nat.pos_of_ne_zero (fun h=>by have:=adw aA ga T0.out (fun h9=>by rw[h9] at hy;exact absurd hy (by decide));omega)
     clear hg;go_wp2_with fail
     have hc:=Gs (c:=cg) (hE.g0) Ln;refine hc.mono ?_;clear hc
     rintro e v05 ⟨rfl,hb⟩
     replace hE:=hE.step hb;clear hb
     obtain⟨v5,hv5⟩:∃v,v=decide (((gg:Nat):Int)=1):=⟨_,rfl⟩
     rw[<-hv5];have HV5:=af hv5;clear hv5;go_wp2_with fail
     go_ret
     refine⟨aT ?_,hE.ax⟩;rw[HR.out,HF.out,JF.out,Gq.out,HV5.out,HG.out,aH T0.out];generalize Nat.gcd (vs ai fa na) (vs ai ga ma)=x
     have h9:decide ((x:Int)=1)=(x==1):=by rw[Bool.eq_iff_iff,oN,beq_iff_eq];omega
     rw[h9];rfl
theorem Wo {w:World}{q:Rat}{s t:Bool}{A B:Option Addr}{n m:Nat}(h:FV w q s A n t B m)(r:Bool)(hq:decide (fl q<=256)=r):(decide (n<=256)&&decide (m<=256))=r:=by
 have h1:=h.1.len;have h2:=h.2.len;rw[bV] at h2;rw[<-hq]
 by_cases h3:fl q<=256
 ·
  obtain⟨e1,e2⟩:=dA.1 h3;rw[aL h3,aL (by omega),aL (by omega)];rfl
 ·
  rw[aH h3];rw[dA] at h3
  by_cases h4:n<=256
  ·rw[aH (show¬m<=256 by omega),Bool.and_false]
  ·rw[aH h4];rfl
theorem ou {q:Rat}{s t:Bool}{A B:Option Addr}{n m c d:Nat}{w:World}(h:FV w q s A n t B m)(r:Bool)(hq:decide (fl q<=256)=r):
  Calls Tryz.prog 94 #[.agg (az s A n c t B m d)] w fun e w'=>e= .returned (.bool r)/\Below w.heap.size w w':=by
 have hc:=vN (sa:=s) (ta:=t) (Aa:=A) (Ba:=B) (na:=n) (ca:=c) (ma:=m) (da:=d) (w:=w)
 rwa [Wo h r hq] at hc
theorem fS {q:Rat}{s t:Bool}{A B:Option Addr}{n m c d:Nat}{w:World}(h:FV w q s A n t B m)(l:fl q<=256):
  Calls Tryz.prog 92 #[.agg (az s A n c t B m d)] w fun e w'=>e= .returned (.bool true)/\Below w.heap.size w w':=by
 have e1:=h.ln l;have hc:=tS (sa:=s) (ta:=t) (Aa:=A) (Ba:=B) (na:=n) (ca:=c) (ma:=m) (da:=d) (w:=w) h.rd (by omega) (by omega)
 rwa [pZ h l] at hc
theorem jT (s t:Bool)(A B:Option Addr)(n m c d:Nat)(f g:Nat->Nat)(w:World)(hr:kA w A n f B m g)(hn:n<=900000)(hm:m<=900000)(r:Bool)(h:okF s n f t m g=r):
  Calls Tryz.prog 92 #[.agg (az s A n c t B m d)] w fun e w'=>e= .returned (.bool r)/\Below w.heap.size w w':=by
 have hc:=tS (sa:=s) (ta:=t) (Aa:=A) (Ba:=B) (na:=n) (ca:=c) (ma:=m) (da:=d) (w:=w) hr hn hm
 rwa [h] at hc
theorem lB (a b:Rat):fl (a+b)<=fl a+fl b+1:=Wn (aq _) (aq _)
theorem AU {h:Nat->FH}{w:World}(hr7:kA w (h 7).A (h 7).n (h 7).f (h 7).B (h 7).m (h 7).g)(hn7:(h 7).n<=900000)(hm7:(h 7).m<=900000)(hr8:kA w (h 8).A (h 8).n (h 8).f (h 8).B (h 8).m (h 8).g)(ZP:(h 8).n<=900000)(hm8:(h 8).m<=900000)(hr9:kA w (h 9).A (h 9).n (h 9).f (h 9).B (h 9).m (h 9).g)(hn9:(h 9).n<=900000)(hm9:(h 9).m<=900000)(Qn:(okF (h 7).s (h 7).n (h 7).f (h 7).t (h 7).m (h 7).g&&okF (h 8).s (h 8).n (h 8).f (h 8).t (h 8).m (h 8).g&&okF (h 9).s (h 9).n (h 9).f (h 9).t (h 9).m (h 9).g)=false):
  Calls Tryz.prog 38 #[.agg #[.bool (h 0).s,.slice (h 0).A (h 0).n (h 0).c,.bool (h 0).t,.slice (h 0).B (h 0).m (h 0).d,.bool (h 1).s,.slice (h 1).A (h 1).n (h 1).c,.bool (h 1).t,.slice (h 1).B (h 1).m (h 1).d,.bool (h 2).s,.slice (h 2).A (h 2).n (h 2).c,.bool (h 2).t,.slice (h 2).B (h 2).m (h 2).d,.bool (h 3).s,.slice (h 3).A (h 3).n (h 3).c,.bool (h 3).t,.slice (h 3).B (h 3).m (h 3).d,.bool (h 4).s,.slice (h 4).A (h 4).n (h 4).c,.bool (h 4).t,.slice (h 4).B (h 4).m (h 4).d,.bool (h 5).s,.slice (h 5).A (h 5).n (h 5).c,.bool (h 5).t,.slice (h 5).B (h 5).m (h 5).d,.bool (h 6).s,.slice (h 6).A (h 6).n (h 6).c,.bool (h 6).t,.slice (h 6).B (h 6).m (h 6).d,.bool (h 7).s,.slice (h 7).A (h 7).n (h 7).c,.bool (h 7).t,.slice (h 7).B (h 7).m (h 7).d,.bool (h 8).s,.slice (h 8).A (h 8).n (h 8).c,.bool (h 8).t,.slice (h 8).B (h 8).m (h 8).d,.bool (h 9).s,.slice (h 9).A (h 9).n (h 9).c,.bool (h 9).t,.slice (h 9).B (h 9).m (h 9).d,.bool (h 10).s,.slice (h 10).A (h 10).n (h 10).c,.bool (h 10).t,.slice (h 10).B (h 10).m (h 10).d]] w (vL 2 w):=by
 have Hr7:=af hr7;have Hn7:=af hn7;have Hm7:=af hm7;have Hr8:=af hr8;have Hn8:=af ZP;have Hm8:=af hm8;have Hr9:=af hr9;have Hn9:=af hn9;have Hm9:=af hm9;clear hr7 hn7 hm7 hr8 ZP hm8 hr9 hn9 hm9
 have hc:okF (h 7).s (h 7).n (h 7).f (h 7).t (h 7).m (h 7).g=false\/(okF (h 7).s (h 7).n (h 7).f (h 7).t (h 7).m (h 7).g=true/\okF (h 8).s (h 8).n (h 8).f (h 8).t (h 8).m (h 8).g=false)\/(okF (h 7).s (h 7).n (h 7).f (h 7).t (h 7).m (h 7).g=true/\okF (h 8).s (h 8).n (h 8).f (h 8).t (h 8).m (h 8).g=true/\okF (h 9).s (h 9).n (h 9).f (h 9).t (h 9).m (h 9).g=false):=by
  revert Qn
  cases okF (h 7).s (h 7).n (h 7).f (h 7).t (h 7).m (h 7).g<;>cases okF (h 8).s (h 8).n (h 8).f (h 8).t (h 8).m (h 8).g<;>cases okF (h 9).s (h 9).n (h 9).f (h 9).t (h 9).m (h 9).g<;>simp
 clear Qn
 rcases hc with q7|⟨q7,q8⟩|⟨q7,q8,q9⟩
 ·
  have Qo:=af q7;clear q7;have hE:=((Env.start w).blk 63 #[.bool (h 0).s,.slice (h 0).A (h 0).n (h 0).c,.bool (h 0).t,.slice (h 0).B (h 0).m (h 0).d,.bool (h 1).s,.slice (h 1).A (h 1).n (h 1).c,.bool (h 1).t,.slice (h 1).B (h 1).m (h 1).d,.bool (h 2).s,.slice (h 2).A (h 2).n (h 2).c,.bool (h 2).t,.slice (h 2).B (h 2).m (h 2).d,.bool (h 3).s,.slice (h 3).A (h 3).n (h 3).c,.bool (h 3).t,.slice (h 3).B (h 3).m (h 3).d,.bool (h 4).s,.slice (h 4).A (h 4).n (h 4).c,.bool (h 4).t,.slice (h 4).B (h 4).m (h 4).d,.bool (h 5).s,.slice (h 5).A (h 5).n (h 5).c,.bool (h 5).t,.slice (h 5).B (h 5).m (h 5).d,.bool (h 6).s,.slice (h 6).A (h 6).n (h 6).c,.bool (h 6).t,.slice (h 6).B (h 6).m (h 6).d,.bool (h 7).s,.slice (h 7).A (h 7).n (h 7).c,.bool (h 7).t,.slice (h 7).B (h 7).m (h 7).d,.bool (h 8).s,.slice (h 8).A (h 8).n (h 8).c,.bool (h 8).t,.slice (h 8).B (h 8).m (h 8).d,.bool (h 9).s,.slice (h 9).A (h 9).n (h 9).c,.bool (h 9).t,.slice (h 9).B (h 9).m (h 9).d,.bool (h 10).s,.slice (h 10).A (h 10).n (h 10).c,.bool (h 10).t,.slice (h 10).B (h 10).m (h 10).d] (g:=w.heap.size) rfl).blk 29 aW (g:=w.heap.size+1) (by simp)
  obtain⟨W0,aC⟩:∃W0,W0=(w.alloc (.cells #[.bool (h 0).s,.slice (h 0).A (h 0).n (h 0).c,.bool (h 0).t,.slice (h 0).B (h 0).m (h 0).d,.bool (h 1).s,.slice (h 1).A (h 1).n (h 1).c,.bool (h 1).t,.slice (h 1).B (h 1).m (h 1).d,.bool (h 2).s,.slice (h 2).A (h 2).n (h 2).c,.bool (h 2).t,.slice (h 2).B (h 2).m (h 2).d,.bool (h 3).s,.slice (h 3).A (h 3).n (h 3).c,.bool (h 3).t,.slice (h 3).B (h 3).m (h 3).d,.bool (h 4).s,.slice (h 4).A (h 4).n (h 4).c,.bool (h 4).t,.slice (h 4).B (h 4).m (h 4).d,.bool (h 5).s,.slice (h 5).A (h 5).n (h 5).c,.bool (h 5).t,.slice (h 5).B (h 5).m (h 5).d,.bool (h 6).s,.slice (h 6).A (h 6).n (h 6).c,.bool (h 6).t,.slice (h 6).B (h 6).m (h 6).d,.bool (h 7).s,.slice (h 7).A (h 7).n (h 7).c,.bool (h 7).t,.slice (h 7).B (h 7).m (h 7).d,.bool (h 8).s,.slice (h 8).A (h 8).n (h 8).c,.bool (h 8).t,.slice (h 8).B (h 8).m (h 8).d,.bool (h 9).s,.slice (h 9).A (h 9).n (h 9).c,.bool (h 9).t,.slice (h 9).B (h 9).m (h 9).d,.bool (h 10).s,.slice (h 10).A (h 10).n (h 10).c,.bool (h 10).t,.slice (h 10).B (h 10).m (h 10).d] 63)).alloc (.cells aW 29):=⟨_,rfl⟩
  rw[<-aC] at hE;have aZ:=af aC;clear aC
  go_enter Tryz.func38,Tryz.ntmps38
  go_upto_region 1 with(fail)
  rw[<-aZ.out];have k1:=(hE.g1).cell 28;have k2:=(hE.g1).cell 29;have k3:=(hE.g1).cell 30;have k4:=(hE.g1).cell 31;go_wp2_with fail
  refine hE.br (jT (h 7).s (h 7).t (h 7).A (h 7).B (h 7).n (h 7).m (h 7).c (h 7).d (h 7).f (h 7).g _ (Hr7.out.below hE.ax) Hn7.out Hm7.out false Qo.out) ?_;clear hE k1 k2 k3 k4;intro w5 hE
  go_upto_region 2 with(fail)
  have cS:w.heap.size<=w.heap.size+1:=by omega
  have hB:=(hE.g0).s4 (.bool false) (.slice none 0 0) (.bool false) (.slice none 0 0);have aM:=bW hE.ax cS (.bool false) (.slice none 0 0) (.bool false) (.slice none 0 0)
  obtain⟨WW,bn⟩:∃x,x=((((w5.setCell ⟨w.heap.size+1,0,none⟩ (.bool false)).setCell ⟨w.heap.size+1,1,none⟩ (.slice none 0 0)).setCell ⟨w.heap.size+1,2,none⟩ (.bool false)).setCell ⟨w.heap.size+1,3,none⟩ (.slice none 0 0)):=⟨_,rfl⟩
  rw[<-bn] at hB aM;obtain⟨x0,x1,x2,x3⟩:=(hE.g0).c4;obtain⟨fL,fM,fV,fW⟩:=(hE.g0).f4;have bR:=af bn;clear bn;go_wp2_with fail
  clear x0 x1 x2 x3;rw[<-bR.out];obtain⟨y0,y1,y2,y3⟩:=hB.c4;refine aK (v:= .tuple #[.agg aW,.int .i64 2]) (by simp[results,Tryz.results38,go_sem,y0,y1,y2,y3]) rfl ?_;exact⟨rfl,aM⟩
 ·
  have Qo:=af q7;have Hq8:=af q8;clear q7 q8;have hE:=((Env.start w).blk 63 #[.bool (h 0).s,.slice (h 0).A (h 0).n (h 0).c,.bool (h 0).t,.slice (h 0).B (h 0).m (h 0).d,.bool (h 1).s,.slice (h 1).A (h 1).n (h 1).c,.bool (h 1).t,.slice (h 1).B (h 1).m (h 1).d,.bool (h 2).s,.slice (h 2).A (h 2).n (h 2).c,.bool (h 2).t,.slice (h 2).B (h 2).m (h 2).d,.bool (h 3).s,.slice (h 3).A (h 3).n (h 3).c,.bool (h 3).t,.slice (h 3).B (h 3).m (h 3).d,.bool (h 4).s,.slice (h 4).A (h 4).n (h 4).c,.bool (h 4).t,.slice (h 4).B (h 4).m (h 4).d,.bool (h 5).s,.slice (h 5).A (h 5).n (h 5).c,.bool (h 5).t,.slice (h 5).B (h 5).m (h 5).d,.bool (h 6).s,.slice (h 6).A (h 6).n (h 6).c,.bool (h 6).t,.slice (h 6).B (h 6).m (h 6).d,.bool (h 7).s,.slice (h 7).A (h 7).n (h 7).c,.bool (h 7).t,.slice (h 7).B (h 7).m (h 7).d,.bool (h 8).s,.slice (h 8).A (h 8).n (h 8).c,.bool (h 8).t,.slice (h 8).B (h 8).m (h 8).d,.bool (h 9).s,.slice (h 9).A (h 9).n (h 9).c,.bool (h 9).t,.slice (h 9).B (h 9).m (h 9).d,.bool (h 10).s,.slice (h 10).A (h 10).n (h 10).c,.bool (h 10).t,.slice (h 10).B (h 10).m (h 10).d] (g:=w.heap.size) rfl).blk 29 aW (g:=w.heap.size+1) (by simp)
  obtain⟨W0,aC⟩:∃W0,W0=(w.alloc (.cells #[.bool (h 0).s,.slice (h 0).A (h 0).n (h 0).c,.bool (h 0).t,.slice (h 0).B (h 0).m (h 0).d,.bool (h 1).s,.slice (h 1).A (h 1).n (h 1).c,.bool (h 1).t,.slice (h 1).B (h 1).m (h 1).d,.bool (h 2).s,.slice (h 2).A (h 2).n (h 2).c,.bool (h 2).t,.slice (h 2).B (h 2).m (h 2).d,.bool (h 3).s,.slice (h 3).A (h 3).n (h 3).c,.bool (h 3).t,.slice (h 3).B (h 3).m (h 3).d,.bool (h 4).s,.slice (h 4).A (h 4).n (h 4).c,.bool (h 4).t,.slice (h 4).B (h 4).m (h 4).d,.bool (h 5).s,.slice (h 5).A (h 5).n (h 5).c,.bool (h 5).t,.slice (h 5).B (h 5).m (h 5).d,.bool (h 6).s,.slice (h 6).A (h 6).n (h 6).c,.bool (h 6).t,.slice (h 6).B (h 6).m (h 6).d,.bool (h 7).s,.slice (h 7).A (h 7).n (h 7).c,.bool (h 7).t,.slice (h 7).B (h 7).m (h 7).d,.bool (h 8).s,.slice (h 8).A (h 8).n (h 8).c,.bool (h 8).t,.slice (h 8).B (h 8).m (h 8).d,.bool (h 9).s,.slice (h 9).A (h 9).n (h 9).c,.bool (h 9).t,.slice (h 9).B (h 9).m (h 9).d,.bool (h 10).s,.slice (h 10).A (h 10).n (h 10).c,.bool (h 10).t,.slice (h 10).B (h 10).m (h 10).d] 63)).alloc (.cells aW 29):=⟨_,rfl⟩
  rw[<-aC] at hE;have aZ:=af aC;clear aC
  go_enter Tryz.func38,Tryz.ntmps38
  go_upto_region 1 with(fail)
  rw[<-aZ.out];have k1:=(hE.g1).cell 28;have k2:=(hE.g1).cell 29;have k3:=(hE.g1).cell 30;have k4:=(hE.g1).cell 31;go_wp2_with fail
  refine hE.br (jT (h 7).s (h 7).t (h 7).A (h 7).B (h 7).n (h 7).m (h 7).c (h 7).d (h 7).f (h 7).g _ (Hr7.out.below hE.ax) Hn7.out Hm7.out true Qo.out) ?_;clear hE k1 k2 k3 k4;intro w5 hE;have k6:=(hE.g1).cell 32;have k7:=(hE.g1).cell 33;have k8:=(hE.g1).cell 34;have k9:=(hE.g1).cell 35;go_wp2_with fail
  refine hE.br (jT (h 8).s (h 8).t (h 8).A (h 8).B (h 8).n (h 8).m (h 8).c (h 8).d (h 8).f (h 8).g _ (Hr8.out.below hE.ax) Hn8.out Hm8.out false Hq8.out) ?_;clear hE k6 k7 k8 k9;intro rU hE
  go_upto_region 2 with(fail)
  have cS:w.heap.size<=w.heap.size+1:=by omega
  have hB:=(hE.g0).s4 (.bool false) (.slice none 0 0) (.bool false) (.slice none 0 0);have aM:=bW hE.ax cS (.bool false) (.slice none 0 0) (.bool false) (.slice none 0 0)
  obtain⟨WW,bn⟩:∃x,x=((((rU.setCell ⟨w.heap.size+1,0,none⟩ (.bool false)).setCell ⟨w.heap.size+1,1,none⟩ (.slice none 0 0)).setCell ⟨w.heap.size+1,2,none⟩ (.bool false)).setCell ⟨w.heap.size+1,3,none⟩ (.slice none 0 0)):=⟨_,rfl⟩
  rw[<-bn] at hB aM;obtain⟨x0,x1,x2,x3⟩:=(hE.g0).c4;obtain⟨fL,fM,fV,fW⟩:=(hE.g0).f4;have bR:=af bn;clear bn;go_wp2_with fail
  clear x0 x1 x2 x3;rw[<-bR.out];obtain⟨y0,y1,y2,y3⟩:=hB.c4;refine aK (v:= .tuple #[.agg aW,.int .i64 2]) (by simp[results,Tryz.results38,go_sem,y0,y1,y2,y3]) rfl ?_;exact⟨rfl,aM⟩
 ·
  have Qo:=af q7;have Hq8:=af q8;have Hq9:=af q9;clear q7 q8 q9;have hE:=((Env.start w).blk 63 #[.bool (h 0).s,.slice (h 0).A (h 0).n (h 0).c,.bool (h 0).t,.slice (h 0).B (h 0).m (h 0).d,.bool (h 1).s,.slice (h 1).A (h 1).n (h 1).c,.bool (h 1).t,.slice (h 1).B (h 1).m (h 1).d,.bool (h 2).s,.slice (h 2).A (h 2).n (h 2).c,.bool (h 2).t,.slice (h 2).B (h 2).m (h 2).d,.bool (h 3).s,.slice (h 3).A (h 3).n (h 3).c,.bool (h 3).t,.slice (h 3).B (h 3).m (h 3).d,.bool (h 4).s,.slice (h 4).A (h 4).n (h 4).c,.bool (h 4).t,.slice (h 4).B (h 4).m (h 4).d,.bool (h 5).s,.slice (h 5).A (h 5).n (h 5).c,.bool (h 5).t,.slice (h 5).B (h 5).m (h 5).d,.bool (h 6).s,.slice (h 6).A (h 6).n (h 6).c,.bool (h 6).t,.slice (h 6).B (h 6).m (h 6).d,.bool (h 7).s,.slice (h 7).A (h 7).n (h 7).c,.bool (h 7).t,.slice (h 7).B (h 7).m (h 7).d,.bool (h 8).s,.slice (h 8).A (h 8).n (h 8).c,.bool (h 8).t,.slice (h 8).B (h 8).m (h 8).d,.bool (h 9).s,.slice (h 9).A (h 9).n (h 9).c,.bool (h 9).t,.slice (h 9).B (h 9).m (h 9).d,.bool (h 10).s,.slice (h 10).A (h 10).n (h 10).c,.bool (h 10).t,.slice (h 10).B (h 10).m (h 10).d] (g:=w.heap.size) rfl).blk 29 aW (g:=w.heap.size+1) (by simp)
  obtain⟨W0,aC⟩:∃W0,W0=(w.alloc (.cells #[.bool (h 0).s,.slice (h 0).A (h 0).n (h 0).c,.bool (h 0).t,.slice (h 0).B (h 0).m (h 0).d,.bool (h 1).s,.slice (h 1).A (h 1).n (h 1).c,.bool (h 1).t,.slice (h 1).B (h 1).m (h 1).d,.bool (h 2).s,.slice (h 2).A (h 2).n (h 2).c,.bool (h 2).t,.slice (h 2).B (h 2).m (h 2).d,.bool (h 3).s,.slice (h 3).A (h 3).n (h 3).c,.bool (h 3).t,.slice (h 3).B (h 3).m (h 3).d,.bool (h 4).s,.slice (h 4).A (h 4).n (h 4).c,.bool (h 4).t,.slice (h 4).B (h 4).m (h 4).d,.bool (h 5).s,.slice (h 5).A (h 5).n (h 5).c,.bool (h 5).t,.slice (h 5).B (h 5).m (h 5).d,.bool (h 6).s,.slice (h 6).A (h 6).n (h 6).c,.bool (h 6).t,.slice (h 6).B (h 6).m (h 6).d,.bool (h 7).s,.slice (h 7).A (h 7).n (h 7).c,.bool (h 7).t,.slice (h 7).B (h 7).m (h 7).d,.bool (h 8).s,.slice (h 8).A (h 8).n (h 8).c,.bool (h 8).t,.slice (h 8).B (h 8).m (h 8).d,.bool (h 9).s,.slice (h 9).A (h 9).n (h 9).c,.bool (h 9).t,.slice (h 9).B (h 9).m (h 9).d,.bool (h 10).s,.slice (h 10).A (h 10).n (h 10).c,.bool (h 10).t,.slice (h 10).B (h 10).m (h 10).d] 63)).alloc (.cells aW 29):=⟨_,rfl⟩
  rw[<-aC] at hE;have aZ:=af aC;clear aC
  go_enter Tryz.func38,Tryz.ntmps38
  go_upto_region 1 with(fail)
  rw[<-aZ.out];have k1:=(hE.g1).cell 28;have k2:=(hE.g1).cell 29;have k3:=(hE.g1).cell 30;have k4:=(hE.g1).cell 31;go_wp2_with fail
  refine hE.br (jT (h 7).s (h 7).t (h 7).A (h 7).B (h 7).n (h 7).m (h 7).c (h 7).d (h 7).f (h 7).g _ (Hr7.out.below hE.ax) Hn7.out Hm7.out true Qo.out) ?_;clear hE k1 k2 k3 k4;intro w5 hE;have k6:=(hE.g1).cell 32;have k7:=(hE.g1).cell 33;have k8:=(hE.g1).cell 34;have k9:=(hE.g1).cell 35;go_wp2_with fail
  refine hE.br (jT (h 8).s (h 8).t (h 8).A (h 8).B (h 8).n (h 8).m (h 8).c (h 8).d (h 8).f (h 8).g _ (Hr8.out.below hE.ax) Hn8.out Hm8.out true Hq8.out) ?_;clear hE k6 k7 k8 k9;intro rU hE;have dX:=(hE.g1).cell 36;have dY:=(hE.g1).cell 37;have eu:=(hE.g1).cell 38;have eF:=(hE.g1).cell 39;go_wp2_with fail
  refine hE.br (jT (h 9).s (h 9).t (h 9).A (h 9).B (h 9).n (h 9).m (h 9).c (h 9).d (h 9).f (h 9).g _ (Hr9.out.below hE.ax) Hn9.out Hm9.out false Hq9.out) ?_;clear hE dX dY eu eF;intro wX hE
  go_upto_region 2 with(fail)
  have cS:w.heap.size<=w.heap.size+1:=by omega
  have hB:=(hE.g0).s4 (.bool false) (.slice none 0 0) (.bool false) (.slice none 0 0);have aM:=bW hE.ax cS (.bool false) (.slice none 0 0) (.bool false) (.slice none 0 0)
  obtain⟨WW,bn⟩:∃x,x=((((wX.setCell ⟨w.heap.size+1,0,none⟩ (.bool false)).setCell ⟨w.heap.size+1,1,none⟩ (.slice none 0 0)).setCell ⟨w.heap.size+1,2,none⟩ (.bool false)).setCell ⟨w.heap.size+1,3,none⟩ (.slice none 0 0)):=⟨_,rfl⟩
  rw[<-bn] at hB aM;obtain⟨x0,x1,x2,x3⟩:=(hE.g0).c4;obtain⟨fL,fM,fV,fW⟩:=(hE.g0).f4;have bR:=af bn;clear bn;go_wp2_with fail
  clear x0 x1 x2 x3;rw[<-bR.out];obtain⟨y0,y1,y2,y3⟩:=hB.c4;refine aK (v:= .tuple #[.agg aW,.int .i64 2]) (by simp[results,Tryz.results38,go_sem,y0,y1,y2,y3]) rfl ?_;exact⟨rfl,aM⟩
theorem Gt {h:Nat->FH}{a b c:Rat}{w:World}(ha:FV w a (h 7).s (h 7).A (h 7).n (h 7).t (h 7).B (h 7).m)(hb:FV w b (h 8).s (h 8).A (h 8).n (h 8).t (h 8).B (h 8).m)(hc:FV w c (h 9).s (h 9).A (h 9).n (h 9).t (h 9).B (h 9).m)(la:fl a<=256)(lb:fl b<=256)(lc:fl c<=256)(l1:fl (a+b)<=256)(l2:fl (a+b+c)<=256):
  Calls Tryz.prog 38 #[.agg #[.bool (h 0).s,.slice (h 0).A (h 0).n (h 0).c,.bool (h 0).t,.slice (h 0).B (h 0).m (h 0).d,.bool (h 1).s,.slice (h 1).A (h 1).n (h 1).c,.bool (h 1).t,.slice (h 1).B (h 1).m (h 1).d,.bool (h 2).s,.slice (h 2).A (h 2).n (h 2).c,.bool (h 2).t,.slice (h 2).B (h 2).m (h 2).d,.bool (h 3).s,.slice (h 3).A (h 3).n (h 3).c,.bool (h 3).t,.slice (h 3).B (h 3).m (h 3).d,.bool (h 4).s,.slice (h 4).A (h 4).n (h 4).c,.bool (h 4).t,.slice (h 4).B (h 4).m (h 4).d,.bool (h 5).s,.slice (h 5).A (h 5).n (h 5).c,.bool (h 5).t,.slice (h 5).B (h 5).m (h 5).d,.bool (h 6).s,.slice (h 6).A (h 6).n (h 6).c,.bool (h 6).t,.slice (h 6).B (h 6).m (h 6).d,.bool (h 7).s,.slice (h 7).A (h 7).n (h 7).c,.bool (h 7).t,.slice (h 7).B (h 7).m (h 7).d,.bool (h 8).s,.slice (h 8).A (h 8).n (h 8).c,.bool (h 8).t,.slice (h 8).B (h 8).m (h 8).d,.bool (h 9).s,.slice (h 9).A (h 9).n (h 9).c,.bool (h 9).t,.slice (h 9).B (h 9).m (h 9).d,.bool (h 10).s,.slice (h 10).A (h 10).n (h 10).c,.bool (h 10).t,.slice (h 10).B (h 10).m (h 10).d]] w (IB (a+b+c) w):=by
 have hE:=(((((Env.start w).fv ha).fv hb).fv hc).blk 63 #[.bool (h 0).s,.slice (h 0).A (h 0).n (h 0).c,.bool (h 0).t,.slice (h 0).B (h 0).m (h 0).d,.bool (h 1).s,.slice (h 1).A (h 1).n (h 1).c,.bool (h 1).t,.slice (h 1).B (h 1).m (h 1).d,.bool (h 2).s,.slice (h 2).A (h 2).n (h 2).c,.bool (h 2).t,.slice (h 2).B (h 2).m (h 2).d,.bool (h 3).s,.slice (h 3).A (h 3).n (h 3).c,.bool (h 3).t,.slice (h 3).B (h 3).m (h 3).d,.bool (h 4).s,.slice (h 4).A (h 4).n (h 4).c,.bool (h 4).t,.slice (h 4).B (h 4).m (h 4).d,.bool (h 5).s,.slice (h 5).A (h 5).n (h 5).c,.bool (h 5).t,.slice (h 5).B (h 5).m (h 5).d,.bool (h 6).s,.slice (h 6).A (h 6).n (h 6).c,.bool (h 6).t,.slice (h 6).B (h 6).m (h 6).d,.bool (h 7).s,.slice (h 7).A (h 7).n (h 7).c,.bool (h 7).t,.slice (h 7).B (h 7).m (h 7).d,.bool (h 8).s,.slice (h 8).A (h 8).n (h 8).c,.bool (h 8).t,.slice (h 8).B (h 8).m (h 8).d,.bool (h 9).s,.slice (h 9).A (h 9).n (h 9).c,.bool (h 9).t,.slice (h 9).B (h 9).m (h 9).d,.bool (h 10).s,.slice (h 10).A (h 10).n (h 10).c,.bool (h 10).t,.slice (h 10).B (h 10).m (h 10).d] (g:=w.heap.size) rfl).blk 29 aW (g:=w.heap.size+1) (by simp)
 obtain⟨W0,aC⟩:∃W0,W0=(w.alloc (.cells #[.bool (h 0).s,.slice (h 0).A (h 0).n (h 0).c,.bool (h 0).t,.slice (h 0).B (h 0).m (h 0).d,.bool (h 1).s,.slice (h 1).A (h 1).n (h 1).c,.bool (h 1).t,.slice (h 1).B (h 1).m (h 1).d,.bool (h 2).s,.slice (h 2).A (h 2).n (h 2).c,.bool (h 2).t,.slice (h 2).B (h 2).m (h 2).d,.bool (h 3).s,.slice (h 3).A (h 3).n (h 3).c,.bool (h 3).t,.slice (h 3).B (h 3).m (h 3).d,.bool (h 4).s,.slice (h 4).A (h 4).n (h 4).c,.bool (h 4).t,.slice (h 4).B (h 4).m (h 4).d,.bool (h 5).s,.slice (h 5).A (h 5).n (h 5).c,.bool (h 5).t,.slice (h 5).B (h 5).m (h 5).d,.bool (h 6).s,.slice (h 6).A (h 6).n (h 6).c,.bool (h 6).t,.slice (h 6).B (h 6).m (h 6).d,.bool (h 7).s,.slice (h 7).A (h 7).n (h 7).c,.bool (h 7).t,.slice (h 7).B (h 7).m (h 7).d,.bool (h 8).s,.slice (h 8).A (h 8).n (h 8).c,.bool (h 8).t,.slice (h 8).B (h 8).m (h 8).d,.bool (h 9).s,.slice (h 9).A (h 9).n (h 9).c,.bool (h 9).t,.slice (h 9).B (h 9).m (h 9).d,.bool (h 10).s,.slice (h 10).A (h 10).n (h 10).c,.bool (h 10).t,.slice (h 10).B (h 10).m (h 10).d] 63)).alloc (.cells aW 29):=⟨_,rfl⟩
 rw[<-aC] at hE;have aZ:=af aC;clear aC
 go_enter Tryz.func38,Tryz.ntmps38
 go_upto_region 1 with(fail)
 rw[<-aZ.out];have k1:=(hE.g1).cell 28;have k2:=(hE.g1).cell 29;have k3:=(hE.g1).cell 30;have k4:=(hE.g1).cell 31;go_wp2_with fail
 refine hE.br (fS (c:=(h 7).c) (d:=(h 7).d) (hE.h4) la) ?_;clear hE k1 k2 k3 k4;intro w5 hE;have k6:=(hE.g1).cell 32;have k7:=(hE.g1).cell 33;have k8:=(hE.g1).cell 34;have k9:=(hE.g1).cell 35;go_wp2_with fail
 refine hE.br (fS (c:=(h 8).c) (d:=(h 8).d) (hE.h3) lb) ?_;clear hE k6 k7 k8 k9;intro rU hE;have dX:=(hE.g1).cell 36;have dY:=(hE.g1).cell 37;have eu:=(hE.g1).cell 38;have eF:=(hE.g1).cell 39;go_wp2_with fail
 refine hE.br (fS (c:=(h 9).c) (d:=(h 9).d) (hE.h2) lc) ?_;clear hE dX dY eu eF;intro wX hE
 go_upto_region 3 with(fail)
 have m1:fl (a+b)<=1000:=by have:=lB a b;omega
 have m2:fl (a+b+c)<=2000:=by have:=lB (a+b) c;omega
 have kz:=(hE.g1).cell 28;have lU:=(hE.g1).cell 29;have jS:=(hE.g1).cell 30;have kT:=(hE.g1).cell 31;have kB:=(hE.g1).cell 32;have lV:=(hE.g1).cell 33;have lW:=(hE.g1).cell 34;have nC:=(hE.g1).cell 35;go_wp2_with fail
 refine hE.fr (oO (ca:=(h 7).c) (da:=(h 7).d) (cb:=(h 8).c) (db:=(h 8).d) hE.h4 hE.h3 (by omega) (by omega)) ?_;clear hE kz lU jS kT kB lV lW nC;intro sx Ax nx cx tx Bx mx dx OA hE
 go_upto_region 4 with(fail)
 obtain⟨iC,jC⟩:∃iC,iC=OA.heap.size:=⟨_,rfl⟩
 have FK:w.heap.size<iC:=by rw[jC];exact(hE.h2).lt
 have Ri:w.heap.size+1<iC:=by rw[jC];exact(hE.g1).lt
 replace hE:=hE.blk 29 (az sx Ax nx cx tx Bx mx dx) (g:=iC) jC.symm;generalize OA.alloc (.cells (az sx Ax nx cx tx Bx mx dx) 29)=W25 at hE⊢;rw[<-jC];clear jC;have nQ:=(hE.h3).cell 36;have qH:=(hE.h3).cell 37;have pM:=(hE.h3).cell 38;have Fy:=(hE.h3).cell 39;obtain⟨wW,uG,tC,tD⟩:=(hE.g0).c4;go_wp2_with fail
 refine hE.fr (oO (ca:=cx) (da:=dx) (cb:=(h 9).c) (db:=(h 9).d) hE.g1 hE.h4 (by omega) (by omega)) ?_;clear hE wW uG tC tD;intro sy Ay ny cy ty By my dy CA hE
 go_upto_region 5 with(fail)
 obtain⟨jr,iD⟩:∃jr,jr=CA.heap.size:=⟨_,rfl⟩
 have FM:w.heap.size<jr:=by rw[iD];exact(hE.h4).lt
 have Rj:w.heap.size+1<jr:=by rw[iD];exact(hE.h3).lt
 have FN:iC<jr:=by rw[iD];exact(hE.g1).lt
 replace hE:=hE.blk 29 (az sy Ay ny cy ty By my dy) (g:=jr) iD.symm;generalize CA.alloc (.cells (az sy Ay ny cy ty By my dy) 29)=Ug at hE⊢;rw[<-iD];clear iD;obtain⟨KN,Cp,xj,xP⟩:=(hE.h2).c4;go_wp2_with fail
 refine hE.br (ou (c:=cx) (d:=dx) hE.h3 true (aL l1)) ?_;clear hE KN Cp xj xP;intro w40 hE;obtain⟨Fz,Iw,zl,CC⟩:=(hE.g0).c4;go_wp2_with fail
 refine hE.br (ou (c:=cy) (d:=dy) hE.g1 true (aL l2)) ?_;clear hE Fz Iw zl CC;intro w45 hE
 go_upto_region 7 with(fail)
 obtain⟨CM,Ky,MX,MB⟩:=(hE.g0).c4
 have cS:w.heap.size<=w.heap.size+1:=by omega
 obtain⟨WW,bn,hB,hV,aM⟩:=aR hE hE.h4 cS hE.g1 cy dy;obtain⟨x0,x1,x2,x3⟩:=(hE.h4).c4;obtain⟨fL,fM,fV,fW⟩:=hE.h4.f4;have bR:=af bn;clear bn;go_wp2_with fail
 clear CM Ky MX MB;rw[<-bR.out];obtain⟨y0,y1,y2,y3⟩:=hB.c4;refine aK (v:= .tuple #[.agg (az sy Ay ny cy ty By my dy),.int .i64 0]) (by simp[results,Tryz.results38,go_sem,y0,y1,y2,y3]) rfl ?_;exact⟨sy,Ay,ny,cy,ty,By,my,dy,rfl,hV,aM⟩
theorem Gu {h:Nat->FH}{a b c:Rat}{w:World}(ha:FV w a (h 7).s (h 7).A (h 7).n (h 7).t (h 7).B (h 7).m)(hb:FV w b (h 8).s (h 8).A (h 8).n (h 8).t (h 8).B (h 8).m)(hc:FV w c (h 9).s (h 9).A (h 9).n (h 9).t (h 9).B (h 9).m)(la:fl a<=256)(lb:fl b<=256)(lc:fl c<=256)(l1:256<fl (a+b)):
  Calls Tryz.prog 38 #[.agg #[.bool (h 0).s,.slice (h 0).A (h 0).n (h 0).c,.bool (h 0).t,.slice (h 0).B (h 0).m (h 0).d,.bool (h 1).s,.slice (h 1).A (h 1).n (h 1).c,.bool (h 1).t,.slice (h 1).B (h 1).m (h 1).d,.bool (h 2).s,.slice (h 2).A (h 2).n (h 2).c,.bool (h 2).t,.slice (h 2).B (h 2).m (h 2).d,.bool (h 3).s,.slice (h 3).A (h 3).n (h 3).c,.bool (h 3).t,.slice (h 3).B (h 3).m (h 3).d,.bool (h 4).s,.slice (h 4).A (h 4).n (h 4).c,.bool (h 4).t,.slice (h 4).B (h 4).m (h 4).d,.bool (h 5).s,.slice (h 5).A (h 5).n (h 5).c,.bool (h 5).t,.slice (h 5).B (h 5).m (h 5).d,.bool (h 6).s,.slice (h 6).A (h 6).n (h 6).c,.bool (h 6).t,.slice (h 6).B (h 6).m (h 6).d,.bool (h 7).s,.slice (h 7).A (h 7).n (h 7).c,.bool (h 7).t,.slice (h 7).B (h 7).m (h 7).d,.bool (h 8).s,.slice (h 8).A (h 8).n (h 8).c,.bool (h 8).t,.slice (h 8).B (h 8).m (h 8).d,.bool (h 9).s,.slice (h 9).A (h 9).n (h 9).c,.bool (h 9).t,.slice (h 9).B (h 9).m (h 9).d,.bool (h 10).s,.slice (h 10).A (h 10).n (h 10).c,.bool (h 10).t,.slice (h 10).B (h 10).m (h 10).d]] w (vL 3 w):=by
 have hE:=(((((Env.start w).fv ha).fv hb).fv hc).blk 63 #[.bool (h 0).s,.slice (h 0).A (h 0).n (h 0).c,.bool (h 0).t,.slice (h 0).B (h 0).m (h 0).d,.bool (h 1).s,.slice (h 1).A (h 1).n (h 1).c,.bool (h 1).t,.slice (h 1).B (h 1).m (h 1).d,.bool (h 2).s,.slice (h 2).A (h 2).n (h 2).c,.bool (h 2).t,.slice (h 2).B (h 2).m (h 2).d,.bool (h 3).s,.slice (h 3).A (h 3).n (h 3).c,.bool (h 3).t,.slice (h 3).B (h 3).m (h 3).d,.bool (h 4).s,.slice (h 4).A (h 4).n (h 4).c,.bool (h 4).t,.slice (h 4).B (h 4).m (h 4).d,.bool (h 5).s,.slice (h 5).A (h 5).n (h 5).c,.bool (h 5).t,.slice (h 5).B (h 5).m (h 5).d,.bool (h 6).s,.slice (h 6).A (h 6).n (h 6).c,.bool (h 6).t,.slice (h 6).B (h 6).m (h 6).d,.bool (h 7).s,.slice (h 7).A (h 7).n (h 7).c,.bool (h 7).t,.slice (h 7).B (h 7).m (h 7).d,.bool (h 8).s,.slice (h 8).A (h 8).n (h 8).c,.bool (h 8).t,.slice (h 8).B (h 8).m (h 8).d,.bool (h 9).s,.slice (h 9).A (h 9).n (h 9).c,.bool (h 9).t,.slice (h 9).B (h 9).m (h 9).d,.bool (h 10).s,.slice (h 10).A (h 10).n (h 10).c,.bool (h 10).t,.slice (h 10).B (h 10).m (h 10).d] (g:=w.heap.size) rfl).blk 29 aW (g:=w.heap.size+1) (by simp)
 obtain⟨W0,aC⟩:∃W0,W0=(w.alloc (.cells #[.bool (h 0).s,.slice (h 0).A (h 0).n (h 0).c,.bool (h 0).t,.slice (h 0).B (h 0).m (h 0).d,.bool (h 1).s,.slice (h 1).A (h 1).n (h 1).c,.bool (h 1).t,.slice (h 1).B (h 1).m (h 1).d,.bool (h 2).s,.slice (h 2).A (h 2).n (h 2).c,.bool (h 2).t,.slice (h 2).B (h 2).m (h 2).d,.bool (h 3).s,.slice (h 3).A (h 3).n (h 3).c,.bool (h 3).t,.slice (h 3).B (h 3).m (h 3).d,.bool (h 4).s,.slice (h 4).A (h 4).n (h 4).c,.bool (h 4).t,.slice (h 4).B (h 4).m (h 4).d,.bool (h 5).s,.slice (h 5).A (h 5).n (h 5).c,.bool (h 5).t,.slice (h 5).B (h 5).m (h 5).d,.bool (h 6).s,.slice (h 6).A (h 6).n (h 6).c,.bool (h 6).t,.slice (h 6).B (h 6).m (h 6).d,.bool (h 7).s,.slice (h 7).A (h 7).n (h 7).c,.bool (h 7).t,.slice (h 7).B (h 7).m (h 7).d,.bool (h 8).s,.slice (h 8).A (h 8).n (h 8).c,.bool (h 8).t,.slice (h 8).B (h 8).m (h 8).d,.bool (h 9).s,.slice (h 9).A (h 9).n (h 9).c,.bool (h 9).t,.slice (h 9).B (h 9).m (h 9).d,.bool (h 10).s,.slice (h 10).A (h 10).n (h 10).c,.bool (h 10).t,.slice (h 10).B (h 10).m (h 10).d] 63)).alloc (.cells aW 29):=⟨_,rfl⟩
 rw[<-aC] at hE;have aZ:=af aC;clear aC
 go_enter Tryz.func38,Tryz.ntmps38
 go_upto_region 1 with(fail)
 rw[<-aZ.out];have k1:=(hE.g1).cell 28;have k2:=(hE.g1).cell 29;have k3:=(hE.g1).cell 30;have k4:=(hE.g1).cell 31;go_wp2_with fail
 refine hE.br (fS (c:=(h 7).c) (d:=(h 7).d) (hE.h4) la) ?_;clear hE k1 k2 k3 k4;intro w5 hE;have k6:=(hE.g1).cell 32;have k7:=(hE.g1).cell 33;have k8:=(hE.g1).cell 34;have k9:=(hE.g1).cell 35;go_wp2_with fail
 refine hE.br (fS (c:=(h 8).c) (d:=(h 8).d) (hE.h3) lb) ?_;clear hE k6 k7 k8 k9;intro rU hE;have dX:=(hE.g1).cell 36;have dY:=(hE.g1).cell 37;have eu:=(hE.g1).cell 38;have eF:=(hE.g1).cell 39;go_wp2_with fail
 refine hE.br (fS (c:=(h 9).c) (d:=(h 9).d) (hE.h2) lc) ?_;clear hE dX dY eu eF;intro wX hE
 go_upto_region 3 with(fail)
 have m1:fl (a+b)<=1000:=by have:=lB a b;omega
 have m2:fl (a+b+c)<=2000:=by have:=lB (a+b) c;omega
 have kz:=(hE.g1).cell 28;have lU:=(hE.g1).cell 29;have jS:=(hE.g1).cell 30;have kT:=(hE.g1).cell 31;have kB:=(hE.g1).cell 32;have lV:=(hE.g1).cell 33;have lW:=(hE.g1).cell 34;have nC:=(hE.g1).cell 35;go_wp2_with fail
 refine hE.fr (oO (ca:=(h 7).c) (da:=(h 7).d) (cb:=(h 8).c) (db:=(h 8).d) hE.h4 hE.h3 (by omega) (by omega)) ?_;clear hE kz lU jS kT kB lV lW nC;intro sx Ax nx cx tx Bx mx dx OA hE
 go_upto_region 4 with(fail)
 obtain⟨iC,jC⟩:∃iC,iC=OA.heap.size:=⟨_,rfl⟩
 have FK:w.heap.size<iC:=by rw[jC];exact(hE.h2).lt
 have Ri:w.heap.size+1<iC:=by rw[jC];exact(hE.g1).lt
 replace hE:=hE.blk 29 (az sx Ax nx cx tx Bx mx dx) (g:=iC) jC.symm;generalize OA.alloc (.cells (az sx Ax nx cx tx Bx mx dx) 29)=W25 at hE⊢;rw[<-jC];clear jC;have nQ:=(hE.h3).cell 36;have qH:=(hE.h3).cell 37;have pM:=(hE.h3).cell 38;have Fy:=(hE.h3).cell 39;obtain⟨wW,uG,tC,tD⟩:=(hE.g0).c4;go_wp2_with fail
 refine hE.fr (oO (ca:=cx) (da:=dx) (cb:=(h 9).c) (db:=(h 9).d) hE.g1 hE.h4 (by omega) (by omega)) ?_;clear hE wW uG tC tD;intro sy Ay ny cy ty By my dy CA hE
 go_upto_region 5 with(fail)
 obtain⟨jr,iD⟩:∃jr,jr=CA.heap.size:=⟨_,rfl⟩
 have FM:w.heap.size<jr:=by rw[iD];exact(hE.h4).lt
 have Rj:w.heap.size+1<jr:=by rw[iD];exact(hE.h3).lt
 have FN:iC<jr:=by rw[iD];exact(hE.g1).lt
 replace hE:=hE.blk 29 (az sy Ay ny cy ty By my dy) (g:=jr) iD.symm;generalize CA.alloc (.cells (az sy Ay ny cy ty By my dy) 29)=Ug at hE⊢;rw[<-iD];clear iD;obtain⟨KN,Cp,xj,xP⟩:=(hE.h2).c4;go_wp2_with fail
 refine hE.br (ou (c:=cx) (d:=dx) hE.h3 false (aH (by omega))) ?_;clear hE KN Cp xj xP;intro w40 hE
 go_upto_region 6 with(fail)
 have cS:w.heap.size<=w.heap.size+1:=by omega
 have hB:=(hE.h4).s4 (.bool false) (.slice none 0 0) (.bool false) (.slice none 0 0);have aM:=bW hE.ax cS (.bool false) (.slice none 0 0) (.bool false) (.slice none 0 0)
 obtain⟨WW,bn⟩:∃x,x=((((w40.setCell ⟨w.heap.size+1,0,none⟩ (.bool false)).setCell ⟨w.heap.size+1,1,none⟩ (.slice none 0 0)).setCell ⟨w.heap.size+1,2,none⟩ (.bool false)).setCell ⟨w.heap.size+1,3,none⟩ (.slice none 0 0)):=⟨_,rfl⟩
 rw[<-bn] at hB aM;obtain⟨x0,x1,x2,x3⟩:=(hE.h4).c4;obtain⟨fL,fM,fV,fW⟩:=(hE.h4).f4;have bR:=af bn;clear bn;go_wp2_with fail
 clear x0 x1 x2 x3;rw[<-bR.out];obtain⟨y0,y1,y2,y3⟩:=hB.c4;refine aK (v:= .tuple #[.agg aW,.int .i64 3]) (by simp[results,Tryz.results38,go_sem,y0,y1,y2,y3]) rfl ?_;exact⟨rfl,aM⟩
theorem Gv {h:Nat->FH}{a b c:Rat}{w:World}(ha:FV w a (h 7).s (h 7).A (h 7).n (h 7).t (h 7).B (h 7).m)(hb:FV w b (h 8).s (h 8).A (h 8).n (h 8).t (h 8).B (h 8).m)(hc:FV w c (h 9).s (h 9).A (h 9).n (h 9).t (h 9).B (h 9).m)(la:fl a<=256)(lb:fl b<=256)(lc:fl c<=256)(l1:fl (a+b)<=256)(l2:256<fl (a+b+c)):
  Calls Tryz.prog 38 #[.agg #[.bool (h 0).s,.slice (h 0).A (h 0).n (h 0).c,.bool (h 0).t,.slice (h 0).B (h 0).m (h 0).d,.bool (h 1).s,.slice (h 1).A (h 1).n (h 1).c,.bool (h 1).t,.slice (h 1).B (h 1).m (h 1).d,.bool (h 2).s,.slice (h 2).A (h 2).n (h 2).c,.bool (h 2).t,.slice (h 2).B (h 2).m (h 2).d,.bool (h 3).s,.slice (h 3).A (h 3).n (h 3).c,.bool (h 3).t,.slice (h 3).B (h 3).m (h 3).d,.bool (h 4).s,.slice (h 4).A (h 4).n (h 4).c,.bool (h 4).t,.slice (h 4).B (h 4).m (h 4).d,.bool (h 5).s,.slice (h 5).A (h 5).n (h 5).c,.bool (h 5).t,.slice (h 5).B (h 5).m (h 5).d,.bool (h 6).s,.slice (h 6).A (h 6).n (h 6).c,.bool (h 6).t,.slice (h 6).B (h 6).m (h 6).d,.bool (h 7).s,.slice (h 7).A (h 7).n (h 7).c,.bool (h 7).t,.slice (h 7).B (h 7).m (h 7).d,.bool (h 8).s,.slice (h 8).A (h 8).n (h 8).c,.bool (h 8).t,.slice (h 8).B (h 8).m (h 8).d,.bool (h 9).s,.slice (h 9).A (h 9).n (h 9).c,.bool (h 9).t,.slice (h 9).B (h 9).m (h 9).d,.bool (h 10).s,.slice (h 10).A (h 10).n (h 10).c,.bool (h 10).t,.slice (h 10).B (h 10).m (h 10).d]] w (vL 3 w):=by
 have hE:=(((((Env.start w).fv ha).fv hb).fv hc).blk 63 #[.bool (h 0).s,.slice (h 0).A (h 0).n (h 0).c,.bool (h 0).t,.slice (h 0).B (h 0).m (h 0).d,.bool (h 1).s,.slice (h 1).A (h 1).n (h 1).c,.bool (h 1).t,.slice (h 1).B (h 1).m (h 1).d,.bool (h 2).s,.slice (h 2).A (h 2).n (h 2).c,.bool (h 2).t,.slice (h 2).B (h 2).m (h 2).d,.bool (h 3).s,.slice (h 3).A (h 3).n (h 3).c,.bool (h 3).t,.slice (h 3).B (h 3).m (h 3).d,.bool (h 4).s,.slice (h 4).A (h 4).n (h 4).c,.bool (h 4).t,.slice (h 4).B (h 4).m (h 4).d,.bool (h 5).s,.slice (h 5).A (h 5).n (h 5).c,.bool (h 5).t,.slice (h 5).B (h 5).m (h 5).d,.bool (h 6).s,.slice (h 6).A (h 6).n (h 6).c,.bool (h 6).t,.slice (h 6).B (h 6).m (h 6).d,.bool (h 7).s,.slice (h 7).A (h 7).n (h 7).c,.bool (h 7).t,.slice (h 7).B (h 7).m (h 7).d,.bool (h 8).s,.slice (h 8).A (h 8).n (h 8).c,.bool (h 8).t,.slice (h 8).B (h 8).m (h 8).d,.bool (h 9).s,.slice (h 9).A (h 9).n (h 9).c,.bool (h 9).t,.slice (h 9).B (h 9).m (h 9).d,.bool (h 10).s,.slice (h 10).A (h 10).n (h 10).c,.bool (h 10).t,.slice (h 10).B (h 10).m (h 10).d] (g:=w.heap.size) rfl).blk 29 aW (g:=w.heap.size+1) (by simp)
 obtain⟨W0,aC⟩:∃W0,W0=(w.alloc (.cells #[.bool (h 0).s,.slice (h 0).A (h 0).n (h 0).c,.bool (h 0).t,.slice (h 0).B (h 0).m (h 0).d,.bool (h 1).s,.slice (h 1).A (h 1).n (h 1).c,.bool (h 1).t,.slice (h 1).B (h 1).m (h 1).d,.bool (h 2).s,.slice (h 2).A (h 2).n (h 2).c,.bool (h 2).t,.slice (h 2).B (h 2).m (h 2).d,.bool (h 3).s,.slice (h 3).A (h 3).n (h 3).c,.bool (h 3).t,.slice (h 3).B (h 3).m (h 3).d,.bool (h 4).s,.slice (h 4).A (h 4).n (h 4).c,.bool (h 4).t,.slice (h 4).B (h 4).m (h 4).d,.bool (h 5).s,.slice (h 5).A (h 5).n (h 5).c,.bool (h 5).t,.slice (h 5).B (h 5).m (h 5).d,.bool (h 6).s,.slice (h 6).A (h 6).n (h 6).c,.bool (h 6).t,.slice (h 6).B (h 6).m (h 6).d,.bool (h 7).s,.slice (h 7).A (h 7).n (h 7).c,.bool (h 7).t,.slice (h 7).B (h 7).m (h 7).d,.bool (h 8).s,.slice (h 8).A (h 8).n (h 8).c,.bool (h 8).t,.slice (h 8).B (h 8).m (h 8).d,.bool (h 9).s,.slice (h 9).A (h 9).n (h 9).c,.bool (h 9).t,.slice (h 9).B (h 9).m (h 9).d,.bool (h 10).s,.slice (h 10).A (h 10).n (h 10).c,.bool (h 10).t,.slice (h 10).B (h 10).m (h 10).d] 63)).alloc (.cells aW 29):=⟨_,rfl⟩
 rw[<-aC] at hE;have aZ:=af aC;clear aC
 go_enter Tryz.func38,Tryz.ntmps38
 go_upto_region 1 with(fail)
 rw[<-aZ.out];have k1:=(hE.g1).cell 28;have k2:=(hE.g1).cell 29;have k3:=(hE.g1).cell 30;have k4:=(hE.g1).cell 31;go_wp2_with fail
 refine hE.br (fS (c:=(h 7).c) (d:=(h 7).d) (hE.h4) la) ?_;clear hE k1 k2 k3 k4;intro w5 hE;have k6:=(hE.g1).cell 32;have k7:=(hE.g1).cell 33;have k8:=(hE.g1).cell 34;have k9:=(hE.g1).cell 35;go_wp2_with fail
 refine hE.br (fS (c:=(h 8).c) (d:=(h 8).d) (hE.h3) lb) ?_;clear hE k6 k7 k8 k9;intro rU hE;have dX:=(hE.g1).cell 36;have dY:=(hE.g1).cell 37;have eu:=(hE.g1).cell 38;have eF:=(hE.g1).cell 39;go_wp2_with fail
 refine hE.br (fS (c:=(h 9).c) (d:=(h 9).d) (hE.h2) lc) ?_;clear hE dX dY eu eF;intro wX hE
 go_upto_region 3 with(fail)
 have m1:fl (a+b)<=1000:=by have:=lB a b;omega
 have m2:fl (a+b+c)<=2000:=by have:=lB (a+b) c;omega
 have kz:=(hE.g1).cell 28;have lU:=(hE.g1).cell 29;have jS:=(hE.g1).cell 30;have kT:=(hE.g1).cell 31;have kB:=(hE.g1).cell 32;have lV:=(hE.g1).cell 33;have lW:=(hE.g1).cell 34;have nC:=(hE.g1).cell 35;go_wp2_with fail
 refine hE.fr (oO (ca:=(h 7).c) (da:=(h 7).d) (cb:=(h 8).c) (db:=(h 8).d) hE.h4 hE.h3 (by omega) (by omega)) ?_;clear hE kz lU jS kT kB lV lW nC;intro sx Ax nx cx tx Bx mx dx OA hE
 go_upto_region 4 with(fail)
 obtain⟨iC,jC⟩:∃iC,iC=OA.heap.size:=⟨_,rfl⟩
 have FK:w.heap.size<iC:=by rw[jC];exact(hE.h2).lt
 have Ri:w.heap.size+1<iC:=by rw[jC];exact(hE.g1).lt
 replace hE:=hE.blk 29 (az sx Ax nx cx tx Bx mx dx) (g:=iC) jC.symm;generalize OA.alloc (.cells (az sx Ax nx cx tx Bx mx dx) 29)=W25 at hE⊢;rw[<-jC];clear jC;have nQ:=(hE.h3).cell 36;have qH:=(hE.h3).cell 37;have pM:=(hE.h3).cell 38;have Fy:=(hE.h3).cell 39;obtain⟨wW,uG,tC,tD⟩:=(hE.g0).c4;go_wp2_with fail
 refine hE.fr (oO (ca:=cx) (da:=dx) (cb:=(h 9).c) (db:=(h 9).d) hE.g1 hE.h4 (by omega) (by omega)) ?_;clear hE wW uG tC tD;intro sy Ay ny cy ty By my dy CA hE
 go_upto_region 5 with(fail)
 obtain⟨jr,iD⟩:∃jr,jr=CA.heap.size:=⟨_,rfl⟩
 have FM:w.heap.size<jr:=by rw[iD];exact(hE.h4).lt
 have Rj:w.heap.size+1<jr:=by rw[iD];exact(hE.h3).lt
 have FN:iC<jr:=by rw[iD];exact(hE.g1).lt
 replace hE:=hE.blk 29 (az sy Ay ny cy ty By my dy) (g:=jr) iD.symm;generalize CA.alloc (.cells (az sy Ay ny cy ty By my dy) 29)=Ug at hE⊢;rw[<-iD];clear iD;obtain⟨KN,Cp,xj,xP⟩:=(hE.h2).c4;go_wp2_with fail
 refine hE.br (ou (c:=cx) (d:=dx) hE.h3 true (aL l1)) ?_;clear hE KN Cp xj xP;intro w40 hE;obtain⟨Fz,Iw,zl,CC⟩:=(hE.g0).c4;go_wp2_with fail
 refine hE.br (ou (c:=cy) (d:=dy) hE.g1 false (aH (by omega))) ?_;clear hE Fz Iw zl CC;intro w45 hE
 go_upto_region 6 with(fail)
 have cS:w.heap.size<=w.heap.size+1:=by omega
 have hB:=(hE.h4).s4 (.bool false) (.slice none 0 0) (.bool false) (.slice none 0 0);have aM:=bW hE.ax cS (.bool false) (.slice none 0 0) (.bool false) (.slice none 0 0)
 obtain⟨WW,bn⟩:∃x,x=((((w45.setCell ⟨w.heap.size+1,0,none⟩ (.bool false)).setCell ⟨w.heap.size+1,1,none⟩ (.slice none 0 0)).setCell ⟨w.heap.size+1,2,none⟩ (.bool false)).setCell ⟨w.heap.size+1,3,none⟩ (.slice none 0 0)):=⟨_,rfl⟩
 rw[<-bn] at hB aM;obtain⟨x0,x1,x2,x3⟩:=(hE.h4).c4;obtain⟨fL,fM,fV,fW⟩:=(hE.h4).f4;have bR:=af bn;clear bn;go_wp2_with fail
 clear x0 x1 x2 x3;rw[<-bR.out];obtain⟨y0,y1,y2,y3⟩:=hB.c4;refine aK (v:= .tuple #[.agg aW,.int .i64 3]) (by simp[results,Tryz.results38,go_sem,y0,y1,y2,y3]) rfl ?_;exact⟨rfl,aM⟩
end Go.Proofs.YtclbiihcbfnjmaaGreat
