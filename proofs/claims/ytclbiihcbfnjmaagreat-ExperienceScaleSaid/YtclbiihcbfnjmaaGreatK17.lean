/-
  Parts.
-/
import Derived.Test.YtclbiihcbfnjmaaGreatK16
set_option linter.unusedSimpArgs false
set_option maxRecDepth 100000
set_option maxHeartbeats 4000000
namespace Go.Proofs.YtclbiihcbfnjmaaGreat
section
open Go.RowKit

theorem uI {F S E Y:Int}{A:Option Addr}{n c:Nat}{r:Nat->RH}{w:World}(hT:dA w A n r)(hB:kL n r)(h:cB F S n r E Y):
  Calls Tryz.prog 74 #[.agg #[.int .i64 F,.int .i64 S,.slice A n c],.agg #[.int .i64 E,.int .i64 Y]] w fun e w'=>e= .returned (.bool true)/\Below w.heap.size w w':=
 (oH F S E Y A n c r w hT hB).mono fun _ _ ⟨v,he,hv,hb⟩=>by obtain rfl:v=true:=hv.2 h;exact⟨he,hb⟩
theorem Pq {F S E Y:Int}{A:Option Addr}{n c:Nat}{r:Nat->RH}{w:World}(hT:dA w A n r)(hB:kL n r)(h:¬cB F S n r E Y):
  Calls Tryz.prog 74 #[.agg #[.int .i64 F,.int .i64 S,.slice A n c],.agg #[.int .i64 E,.int .i64 Y]] w fun e w'=>e= .returned (.bool false)/\Below w.heap.size w w':=
 (oH F S E Y A n c r w hT hB).mono fun _ _ ⟨v,he,hv,hb⟩=>by
  cases v with
  |true=>exact absurd (hv.1 rfl) h
  |false=>exact⟨he,hb⟩
def fr (F S:Int)(n:Nat)(r:Nat->RH)(E Y:Int):Nat->Rat:=fun i=>rt F S n r E Y (i:Int)
theorem Mq {F S E Y:Int}{A:Option Addr}{n c:Nat}{r:Nat->RH}{w:World}(hT:dA w A n r)(hB:kL n r)(hR:cB F S n r E Y)(k:Nat)(hk:k<=9223372036854775807):
  Calls Tryz.prog 142 #[.agg #[.int .i64 F,.int .i64 S,.slice A n c],.agg #[.int .i64 E,.int .i64 Y],.int .i64 (k:Int)] w (Kt (pr (fr F S n r E Y) k) w):=by
 have t1:decide ((k:Int)<0)=false:=decide_eq_false (by omega)
 have t2:¬(k:Int)<0:=by omega
 have hE:=(((Env.start w).sK hT).blk 24 #[.int .i64 F,.int .i64 S,.slice A n c] (g:=w.heap.size) rfl).blk 33 #[.int .i64 E,.int .i64 Y] (g:=w.heap.size+1) (by simp);have hE:=hE.blk 29 aY (g:=w.heap.size+1+1) (by simp)
 obtain⟨W0,aC⟩:∃W0,W0=(((w.alloc (.cells #[.int .i64 F,.int .i64 S,.slice A n c] 24)).alloc (.cells #[.int .i64 E,.int .i64 Y] 33)).alloc (.cells aY 29)):=⟨_,rfl⟩
 rw[<-aC] at hE;have aU:=Lib.hid aC;clear aC
 go_enter Tryz.func142,Tryz.ntmps142
 go_upto_region 1 with(fail)
 rw[<-aU.out];obtain⟨k1,k2,k3⟩:=(hE.h2).c3;obtain⟨k4,k5⟩:=(hE.here.1.2).c2;go_wp2_with fail
 refine hE.br (uI (c:=c) hE.h3 hB hR) ?_;clear hE k1 k2 k3 k4 k5;intro w6 hE;obtain⟨k7,k8,k9⟩:=(hE.h2).c3;obtain⟨eG,cS⟩:=(hE.here.1.2).c2;go_wp2_with fail
 have hc:=Po (c:=c) hE.h3 hR k hk;change Calls _ _ _ _ (FR (pr (fr F S n r E Y) k) _) at hc;refine hE.fr hc ?_;clear hE hc k7 k8 k9 eG cS;intro sr Ar nr cr tr Br mr dr IV hE
 have cA:w.heap.size<=w.heap.size+1+1:=by omega
 obtain⟨WW,bn,hB,hV,aQ⟩:=aO hE hE.here.1.2 cA hE.here.2 cr dr;obtain⟨x0,x1,x2,x3⟩:=(hE.here.1.2).c4;obtain⟨fQ,fR,gJ,gK⟩:=hE.here.1.2.f4;have bJ:=Lib.hid bn;clear bn;go_wp2_with fail
 clear x0 x1 x2 x3;rw[<-bJ.out];obtain⟨y0,y1,y2,y3⟩:=hB.c4;refine bodyPost_ret (v:= .tuple #[.agg (az sr Ar nr cr tr Br mr dr),.int .i64 0]) (by simp[results,Tryz.results142,go_sem,y0,y1,y2,y3]) rfl ?_;exact⟨sr,Ar,nr,cr,tr,Br,mr,dr,rfl,hV,aQ⟩
theorem oW {F S E Y:Int}{A:Option Addr}{n c:Nat}{r:Nat->RH}{w:World}(hT:dA w A n r)(hB:kL n r)(hR:cB F S n r E Y):
  Calls Tryz.prog 25 #[.agg #[.int .i64 F,.int .i64 S,.slice A n c],.agg #[.int .i64 E,.int .i64 Y]] w (Kt (fr F S n r E Y 0) w):=by
 obtain⟨Q,hQ⟩:∃Q,Q=fr F S n r E Y 0:=⟨_,rfl⟩
 have kJ:fl Q<=2:=by rw[hQ];exact xp (fU hT hR 200) (show 0<200 by decide)
 rw[<-hQ];have HQ:=Lib.hid hQ;clear hQ;have HL2:=Lib.hid kJ;clear kJ;have hE:=(((Env.start w).sK hT).blk 24 #[.int .i64 F,.int .i64 S,.slice A n c] (g:=w.heap.size) rfl).blk 33 #[.int .i64 E,.int .i64 Y] (g:=w.heap.size+1) (by simp);have hE:=hE.blk 29 aY (g:=w.heap.size+1+1) (by simp)
 obtain⟨W0,aC⟩:∃W0,W0=(((w.alloc (.cells #[.int .i64 F,.int .i64 S,.slice A n c] 24)).alloc (.cells #[.int .i64 E,.int .i64 Y] 33)).alloc (.cells aY 29)):=⟨_,rfl⟩
 rw[<-aC] at hE;have aU:=Lib.hid aC;clear aC
 go_enter Tryz.func25,Tryz.ntmps25
 go_upto_region 1 with(fail)
 rw[<-aU.out];obtain⟨k1,k2,k3⟩:=(hE.h2).c3;obtain⟨k4,k5⟩:=(hE.here.1.2).c2;go_wp2_with fail
 refine hE.br (uI (c:=c) hE.h3 hB hR) ?_;clear hE k1 k2 k3 k4 k5;intro w6 hE;obtain⟨k7,k8,k9⟩:=(hE.h2).c3;obtain⟨eG,cS⟩:=(hE.here.1.2).c2;go_wp2_with fail
 have hc:=H8 (k:=0) (c:=c) hE.h3 hR (by decide) (by decide);rw[show rt F S n r E Y 0=Q from HQ.out.symm] at hc;refine hE.fr hc ?_;clear hE hc k7 k8 k9 eG cS;intro sr Ar nr cr tr Br mr dr w9 hE
 go_upto_region 4 with(fail)
 obtain⟨g12,sA⟩:∃g12,g12=w9.heap.size:=⟨_,rfl⟩
 have anM:w.heap.size<g12:=by rw[sA];exact(hE.h3).lt
 have anN:w.heap.size+1<g12:=by rw[sA];exact(hE.h2).lt
 have anO:w.heap.size+1+1<g12:=by rw[sA];exact(hE.here.1.2).lt
 replace hE:=hE.blk 29 (az sr Ar nr cr tr Br mr dr) (g:=g12) sA.symm;generalize w9.alloc (.cells (az sr Ar nr cr tr Br mr dr) 29)=W12 at hE⊢;rw[<-sA];clear sA;obtain⟨ox,hn2⟩:=(hE.here.1.2).ln HL2.out;obtain⟨dG,dN,fP,lC⟩:=(hE.here.2).c4;go_wp2_with fail
 refine(sX (hE.here.1.2).1 (by omega)).mono ?_;clear dG dN fP lC;clear ox hn2
 rintro e Ky ⟨A1,c1,rfl,hA,hb⟩
 replace hE:=hE.step hb;clear hb;have hF:FV Ky Q sr A1 nr tr Br mr:=⟨⟨(hE.here.1.2).1.1,(hE.here.1.2).1.2.1,hA⟩,(hE.here.1.2).2⟩;replace hE:=hE.fv hF;clear hA hF
 have QL:w.heap.size<=g12:=by omega
 have hF:=(hE.here.2).sep (i:=1) (hE.here.1.2) rfl (.slice A1 nr c1)
 have iC:ak 29 g12 (az sr A1 nr c1 tr Br mr dr) (Ky.setCell ⟨g12,1,none⟩ (.slice A1 nr c1)):=by simpa using(hE.here.1.2).bW 1 (.slice A1 nr c1)
 have bG:=(((Env.again (hE.av.setCell (p:=⟨g12,1,none⟩) QL (.slice A1 nr c1))).af ((hE.h3).far (p:=⟨g12,1,none⟩) (by simp;omega) (.slice A1 nr c1))).af iC).fv hF;obtain⟨y0,y1,y2,y3⟩:=(hE.here.1.2).c4;have z0:=(hE.here.1.2).frozen 1;clear hF iC hE
 go_upto_region 5 with(fail)
 clear y0 y1 y2 y3 z0 QL;have hE:=bG;clear bG;generalize Ky.setCell ⟨g12,1,none⟩ (.slice A1 nr c1)=v1 at hE⊢;obtain⟨ox,hn2⟩:=(hE.here.2).ln HL2.out;obtain⟨nL,jx,lO,kI⟩:=(hE.here.1.2).c4;go_wp2_with fail
 refine(sX (hE.here.2).2 (by omega)).mono ?_;clear nL jx lO kI;clear ox hn2
 rintro e Zh ⟨B1,d1,rfl,hA,hb⟩
 replace hE:=hE.step hb;clear hb;have hF:FV Zh Q sr A1 nr tr B1 mr:=⟨(hE.here.2).1,⟨(hE.here.2).2.1,(hE.here.2).2.2.1,hA⟩⟩;replace hE:=hE.fv hF;clear hA hF
 have QL:w.heap.size<=g12:=by omega
 have hF:=(hE.here.2).sep (i:=3) (hE.h2) rfl (.slice B1 mr d1)
 have iC:ak 29 g12 (az sr A1 nr c1 tr B1 mr d1) (Zh.setCell ⟨g12,3,none⟩ (.slice B1 mr d1)):=by simpa using(hE.h2).bW 3 (.slice B1 mr d1)
 have bG:=(((Env.again (hE.av.setCell (p:=⟨g12,3,none⟩) QL (.slice B1 mr d1))).af ((hE.h3).far (p:=⟨g12,3,none⟩) (by simp;omega) (.slice B1 mr d1))).af iC).fv hF;obtain⟨y0,y1,y2,y3⟩:=(hE.h2).c4;have z0:=(hE.h2).frozen 3;clear hF iC hE
 go_upto_region 6 with(fail)
 clear y0 y1 y2 y3 z0 QL;have hE:=bG;clear bG;generalize Zh.setCell ⟨g12,3,none⟩ (.slice B1 mr d1)=v3 at hE⊢;obtain⟨og,mQ,oh,oU⟩:=(hE.here.1.2).c4
 have cA:w.heap.size<=w.heap.size+1+1:=by omega
 obtain⟨WW,bn,hB,hV,aQ⟩:=aO hE hE.h2 cA hE.here.2 c1 d1;obtain⟨x0,x1,x2,x3⟩:=(hE.h2).c4;obtain⟨fQ,fR,gJ,gK⟩:=hE.h2.f4;have bJ:=Lib.hid bn;clear bn;go_wp2_with fail
 clear x0 x1 x2 x3;rw[<-bJ.out];obtain⟨y0,y1,y2,y3⟩:=hB.c4;refine bodyPost_ret (v:= .tuple #[.agg (az sr A1 nr c1 tr B1 mr d1),.int .i64 0]) (by simp[results,Tryz.results25,go_sem,y0,y1,y2,y3]) rfl ?_;exact⟨sr,A1,nr,c1,tr,B1,mr,d1,rfl,hV,aQ⟩
end
section
open Go.RowKit Go.Shelf
attribute [local go_sem] Oper.semAt_some

end
section
open Go.RowKit

theorem Cl.small {F S:Int}{n:Nat}{r:Nat->RH}(h:Cl F S n r)(hn:n<=3)(hS:S=1):kL n r:=
 ⟨by omega,fun i hi=>by
  obtain⟨h1,h2⟩:=h.2.2.1 i hi;refine⟨by subst hS;rw[h1];decide,fun k hk=> ?_⟩;have h3:=h2 k hk;unfold FH.ju uC at h3;simp only[Bool.and_eq_true,decide_eq_true_eq] at h3
  omega⟩
section
variable {r:Nat->RH} (h:((r 0).h 0).q=Rat.divInt 1 10/\((r 0).h 1).q=Rat.divInt 1 5/\((r 1).h 0).q=Rat.divInt 1 8/\((r 1).h 1).q=Rat.divInt 1 2/\((r 2).h 0).q=Rat.divInt 1 4/\((r 2).h 1).q=Rat.divInt 1 1)
include h
end

end
section
open Go.RowKit

def aa3 (n:Nat)(r:Nat->RH)(N Wd L:Int)(w:World)(e:Ending)(w':World):Prop:=∃v,e= .returned (.bool v)/\(v=false↔zk n r N Wd L)/\Below w.heap.size w w'
theorem iZ {P:Prop}(h:¬P):(true=false↔P):=⟨(fun e=>by cases e),fun p=>absurd p h⟩
theorem nH (F S N Wd L:Int)(A:Option Addr)(n c:Nat)(r:Nat->RH)(w:World)(hT:dA w A n r)(h1:0<=N)(h2:N<=1000000)(h3:0<=Wd)(h4:Wd<=1000000):
  Calls Tryz.prog 145 #[.agg #[.int .i64 F,.int .i64 S,.slice A n c],.int .i64 N,.int .i64 Wd,.int .i64 L] w (aa3 n r N Wd L w):=by
 have hE:=((Env.start w).and (dA.stable A n r) hT).blk 24 #[.int .i64 F,.int .i64 S,.slice A n c] (g:=w.heap.size) rfl
 obtain⟨W0,aC⟩:∃W0,W0=w.alloc (.cells #[.int .i64 F,.int .i64 S,.slice A n c] 24):=⟨_,rfl⟩
 rw[<-aC] at hE;have aU:=Lib.hid aC;clear aC
 go_enter Tryz.func145,Tryz.ntmps145
 go_upto_region 1 with(fail)
 rw[<-aU.out];obtain⟨k1,k2,k3⟩:=hE.here.2.c3
 by_cases hn:N<(n:Int)
 ·
  have t1:decide (N<(n:Int))=true:=decide_eq_true hn
  have hno:¬zk n r N Wd L:=fun h=>by have:=h.1;omega
  have HN:=Lib.hid hno;clear hn hno;go_wp2_with fail
  go_ret
  exact⟨true,rfl,iZ HN.out,hE.av⟩
 ·
  have t1:decide (N<(n:Int))=false:=decide_eq_false hn;have Hn:=Lib.hid hn;clear hn;go_wp2_with fail
  clear k1 k2 k3 t1
  go_loopw [9] (fun x wr=>∃i:Nat,i<=n/\x= .int .i64 (i:Int)/\Hid (∀j,j<i->agn (r j) Wd L)/\Env w (fun V=>(True/\dA V A n r)/\ak 24 w.heap.size #[.int .i64 F,.int .i64 S,.slice A n c] V) wr) (fun x _=>n-(intOf x).toNat)
  case atStart=>exact⟨0,Nat.zero_le _,rfl,Lib.hid (fun j hj=>absurd hj (by omega)),hE⟩
  case round=>
   clear hE;obtain⟨i,hi,rfl,HI,hE⟩:=hrel;obtain⟨k1,k2,k3⟩:=hE.here.2.c3;have hn':=Hn.out
   by_cases hlt:i<n
   ·
    obtain⟨b,o,rfl,age,hc⟩:=hE.here.1.2 (by omega);obtain⟨c0,hrow⟩:=hc i hlt
    obtain⟨R,hR⟩:∃R,R=r i:=⟨_,rfl⟩
    rw[<-hR] at c0 hrow;obtain⟨Ai,ni,ci,hh⟩:=R
    dsimp only at c0
    have HR:=Lib.hid hR;clear hR hc hrow;have t1:decide ((i:Int)<(n:Int))=true:=decide_eq_true (by omega)
    have t2:(i:Int)<(n:Int):=by omega
    go_wp2_with fail
    clear k1 k2 k3 c0 t1 t2
    go_loopw [10] (fun x wr=>∃k:Nat,k<=ni/\x= .int .i64 (k:Int)/\Hid ((k:Int)<=Wd/\∀j,j<k->((hh j).n:Int)<=L/\((hh j).m:Int)<=L)/\Env w (fun V=>(True/\dA V (some ⟨b,o,none⟩) n r)/\ak 24 w.heap.size #[.int .i64 F,.int .i64 S,.slice (some ⟨b,o,none⟩) n c] V) wr) (fun x _=>ni-(intOf x).toNat)
    case atStart=>exact⟨0,Nat.zero_le _,rfl,Lib.hid ⟨by omega,fun j hj=>absurd hj (by omega)⟩,hE⟩
    case round=>
     clear hE;obtain⟨k,hk,rfl,HK,hE⟩:=hrel;obtain⟨k1,k2,k3⟩:=hE.here.2.c3;obtain⟨b',o',e',age,hc⟩:=hE.here.1.2 (by omega)
     injection e' with e'
     injection e' with e1 e2 e3
     subst e1 e2;obtain⟨c0,hrow⟩:=hc i hlt;rw[<-HR.out] at c0 hrow
     dsimp only at c0
     have t2:(i:Int)<(n:Int):=by omega
     clear hc e3
     by_cases QZ:k<ni
     ·
      have u1:decide ((k:Int)<(ni:Int))=true:=decide_eq_true (by omega)
      have u2:(k:Int)<(ni:Int):=by omega
      by_cases hw:Wd<=(k:Int)
      ·
       have u3:decide (Wd<=(k:Int))=true:=decide_eq_true hw
       have hno:¬zk n r N Wd L:=fun h=>by
        have h1:=(h.2 i hlt).1;rw[<-HR.out] at h1
        dsimp only at h1
        omega
       have HN:=Lib.hid hno;clear hw hrow hno;go_wp2_with fail
       go_ret
       exact⟨true,rfl,iZ HN.out,hE.av⟩
      ·
       have u3:decide (Wd<=(k:Int))=false:=decide_eq_false hw;obtain⟨b2,o2,e2,dL,lQ⟩:=hrow (show 0<ni by omega)
       dsimp only at e2
       subst e2;obtain⟨pY,-⟩:=lQ k QZ
       dsimp only at pY
       obtain⟨H,hH⟩:∃H,H=hh k:=⟨_,rfl⟩
       rw[<-hH] at pY;have HH:=Lib.hid hH;clear hH lQ;have HW:=Lib.hid hw;clear hw hrow;obtain⟨hs,hA,hn,hc,hf,ht,hD,hm,hd,hg⟩:=H;obtain⟨d0,d1,d2,d3⟩:=pY
       dsimp only at d0 d1 d2 d3
       by_cases lH:L<(hn:Int)
       ·
        have u4:decide (L<(hn:Int))=true:=decide_eq_true lH
        have hno:¬zk n r N Wd L:=fun h=>by
         have h1:=(h.2 i hlt).2;rw[<-HR.out] at h1;have h2:=(h1 k QZ).1
         dsimp only at h2
         rw[<-HH.out] at h2
         dsimp only at h2
         omega
        have HN:=Lib.hid hno;clear lH hno;go_wp2_with fail
        go_ret
        exact⟨true,rfl,iZ HN.out,hE.av⟩
       ·
        have u4:decide (L<(hn:Int))=false:=decide_eq_false lH;have HL1:=Lib.hid lH;clear lH
        by_cases kJ:L<(hm:Int)
        ·
         have u5:decide (L<(hm:Int))=true:=decide_eq_true kJ
         have hno:¬zk n r N Wd L:=fun h=>by
          have h1:=(h.2 i hlt).2;rw[<-HR.out] at h1;have h2:=(h1 k QZ).2
          dsimp only at h2
          rw[<-HH.out] at h2
          dsimp only at h2
          omega
         have HN:=Lib.hid hno;clear kJ hno;go_wp2_with fail
         go_ret
         exact⟨true,rfl,iZ HN.out,hE.av⟩
        ·
         have u5:decide (L<(hm:Int))=false:=decide_eq_false kJ;have HL2:=Lib.hid kJ;clear kJ
         have hk9:k<1000000:=by have:=HW.out;omega
         go_wp2_with fail
         go_roundw
         case rel=>
          refine⟨k+1,by omega,by go_num,Lib.hid ⟨by have:=HW.out;omega,fun j hj=> ?_⟩,hE⟩
          rcases Nat.lt_or_ge j k with h|h
          ·exact HK.out.2 j h
          ·
           obtain rfl:j=k:=by omega
           rw[<-HH.out];have a1:=HL1.out;have a2:=HL2.out
           dsimp only
           omega
         case measure=>simp[intOf];omega
     ·
      obtain rfl:k=ni:=by omega
      have u1:decide ((k:Int)<(k:Int))=false:=decide_eq_false (by omega);clear hrow;go_wp2_with fail
      go_roundw
      case rel=>
       refine⟨i+1,by omega,by go_num,Lib.hid (fun j hj=> ?_),hE⟩
       rcases Nat.lt_or_ge j i with h|h
       ·exact HI.out j h
       ·
        obtain rfl:j=i:=by omega
        rw[<-HR.out];exact HK.out
      case measure=>simp[intOf];omega
   ·
    obtain rfl:i=n:=by omega
    have t1:decide ((i:Int)<(i:Int))=false:=decide_eq_false (by omega);go_wp2_with fail
    go_ret
    exact⟨false,rfl,⟨fun _=>⟨by omega,HI.out⟩,fun _=>rfl⟩,hE.av⟩


end
end Go.Proofs.YtclbiihcbfnjmaaGreat
