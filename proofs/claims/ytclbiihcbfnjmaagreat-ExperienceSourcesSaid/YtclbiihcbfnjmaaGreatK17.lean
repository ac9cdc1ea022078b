/-
  Parts.
-/
import Derived.Test.YtclbiihcbfnjmaaGreatK16
set_option linter.unusedSimpArgs false
set_option maxRecDepth 100000
set_option maxHeartbeats 4000000
namespace Go.Proofs.YtclbiihcbfnjmaaGreat
section
open Go.RowKit

theorem wF {F S E Y:Int}{A:Option Addr}{n c:Nat}{r:Nat->RH}{w:World}(hT:eZ w A n r)(hB:nJ n r)(h:dH F S n r E Y):
  Calls Tryz.prog 74 #[.agg #[.int .i64 F,.int .i64 S,.slice A n c],.agg #[.int .i64 E,.int .i64 Y]] w fun e w'=>e= .returned (.bool true)/\Below w.heap.size w w':=
 (qx F S E Y A n c r w hT hB).mono fun _ _ ⟨v,he,hv,hb⟩=>by obtain rfl:v=true:=hv.2 h;exact⟨he,hb⟩
theorem St {F S E Y:Int}{A:Option Addr}{n c:Nat}{r:Nat->RH}{w:World}(hT:eZ w A n r)(hB:nJ n r)(h:¬dH F S n r E Y):
  Calls Tryz.prog 74 #[.agg #[.int .i64 F,.int .i64 S,.slice A n c],.agg #[.int .i64 E,.int .i64 Y]] w fun e w'=>e= .returned (.bool false)/\Below w.heap.size w w':=
 (qx F S E Y A n c r w hT hB).mono fun _ _ ⟨v,he,hv,hb⟩=>by
  cases v with
  |true=>exact absurd (hv.1 rfl) h
  |false=>exact⟨he,hb⟩
def fr (F S:Int)(n:Nat)(r:Nat->RH)(E Y:Int):Nat->Rat:=fun i=>rt F S n r E Y (i:Int)
theorem Ow {F S E Y:Int}{A:Option Addr}{n c:Nat}{r:Nat->RH}{w:World}(hT:eZ w A n r)(hB:nJ n r)(hR:dH F S n r E Y)(k:Nat)(hk:k<=9223372036854775807):
  Calls Tryz.prog 142 #[.agg #[.int .i64 F,.int .i64 S,.slice A n c],.agg #[.int .i64 E,.int .i64 Y],.int .i64 (k:Int)] w (IB (pr (fr F S n r E Y) k) w):=by
 have t1:decide ((k:Int)<0)=false:=aH (by omega)
 have t2:¬(k:Int)<0:=by omega
 have hE:=(((Env.start w).GY hT).blk 24 #[.int .i64 F,.int .i64 S,.slice A n c] (g:=w.heap.size) rfl).blk 33 #[.int .i64 E,.int .i64 Y] (g:=w.heap.size+1) (by simp);have hE:=hE.blk 29 aW (g:=w.heap.size+1+1) (by simp)
 obtain⟨W0,aC⟩:∃W0,W0=(((w.alloc (.cells #[.int .i64 F,.int .i64 S,.slice A n c] 24)).alloc (.cells #[.int .i64 E,.int .i64 Y] 33)).alloc (.cells aW 29)):=⟨_,rfl⟩
 rw[<-aC] at hE;have aZ:=af aC;clear aC
 go_enter Tryz.func142,Tryz.ntmps142
 go_upto_region 1 with(fail)
 rw[<-aZ.out];obtain⟨k1,k2,k3⟩:=(hE.h2).c3;obtain⟨k4,k5⟩:=(hE.g1).c2;go_wp2_with fail
 refine hE.br (wF (c:=c) hE.h3 hB hR) ?_;clear hE k1 k2 k3 k4 k5;intro w6 hE;obtain⟨k7,k8,k9⟩:=(hE.h2).c3;obtain⟨fU,dX⟩:=(hE.g1).c2;go_wp2_with fail
 have hc:=Ss (c:=c) hE.h3 hR k hk;change Calls _ _ _ _ (FR (pr (fr F S n r E Y) k) _) at hc;refine hE.fr hc ?_;clear hE hc k7 k8 k9 fU dX;intro sr Ar nr cr tr Br mr dr On hE
 have cS:w.heap.size<=w.heap.size+1+1:=by omega
 obtain⟨WW,bn,hB,hV,aM⟩:=aR hE hE.g1 cS hE.g0 cr dr;obtain⟨x0,x1,x2,x3⟩:=(hE.g1).c4;obtain⟨fL,fM,fV,fW⟩:=hE.g1.f4;have bR:=af bn;clear bn;go_wp2_with fail
 clear x0 x1 x2 x3;rw[<-bR.out];obtain⟨y0,y1,y2,y3⟩:=hB.c4;refine aK (v:= .tuple #[.agg (az sr Ar nr cr tr Br mr dr),.int .i64 0]) (by simp[results,Tryz.results142,go_sem,y0,y1,y2,y3]) rfl ?_;exact⟨sr,Ar,nr,cr,tr,Br,mr,dr,rfl,hV,aM⟩
theorem uH {F S E Y:Int}{A:Option Addr}{n c:Nat}{r:Nat->RH}{w:World}(hT:eZ w A n r)(hB:nJ n r)(hR:dH F S n r E Y):
  Calls Tryz.prog 25 #[.agg #[.int .i64 F,.int .i64 S,.slice A n c],.agg #[.int .i64 E,.int .i64 Y]] w (IB (fr F S n r E Y 0) w):=by
 obtain⟨Q,hQ⟩:∃Q,Q=fr F S n r E Y 0:=⟨_,rfl⟩
 have rQ:fl Q<=2:=by rw[hQ];exact zj (iB hT hR 200) (show 0<200 by decide)
 rw[<-hQ];have HQ:=af hQ;clear hQ;have HL2:=af rQ;clear rQ;have hE:=(((Env.start w).GY hT).blk 24 #[.int .i64 F,.int .i64 S,.slice A n c] (g:=w.heap.size) rfl).blk 33 #[.int .i64 E,.int .i64 Y] (g:=w.heap.size+1) (by simp);have hE:=hE.blk 29 aW (g:=w.heap.size+1+1) (by simp)
 obtain⟨W0,aC⟩:∃W0,W0=(((w.alloc (.cells #[.int .i64 F,.int .i64 S,.slice A n c] 24)).alloc (.cells #[.int .i64 E,.int .i64 Y] 33)).alloc (.cells aW 29)):=⟨_,rfl⟩
 rw[<-aC] at hE;have aZ:=af aC;clear aC
 go_enter Tryz.func25,Tryz.ntmps25
 go_upto_region 1 with(fail)
 rw[<-aZ.out];obtain⟨k1,k2,k3⟩:=(hE.h2).c3;obtain⟨k4,k5⟩:=(hE.g1).c2;go_wp2_with fail
 refine hE.br (wF (c:=c) hE.h3 hB hR) ?_;clear hE k1 k2 k3 k4 k5;intro w6 hE;obtain⟨k7,k8,k9⟩:=(hE.h2).c3;obtain⟨fU,dX⟩:=(hE.g1).c2;go_wp2_with fail
 have hc:=JT (k:=0) (c:=c) hE.h3 hR (by decide) (by decide);rw[show rt F S n r E Y 0=Q from HQ.out.symm] at hc;refine hE.fr hc ?_;clear hE hc k7 k8 k9 fU dX;intro sr Ar nr cr tr Br mr dr w9 hE
 go_upto_region 4 with(fail)
 obtain⟨g12,uq⟩:∃g12,g12=w9.heap.size:=⟨_,rfl⟩
 have apI:w.heap.size<g12:=by rw[uq];exact(hE.h3).lt
 have apJ:w.heap.size+1<g12:=by rw[uq];exact(hE.h2).lt
 have apK:w.heap.size+1+1<g12:=by rw[uq];exact(hE.g1).lt
 replace hE:=hE.blk 29 (az sr Ar nr cr tr Br mr dr) (g:=g12) uq.symm;generalize w9.alloc (.cells (az sr Ar nr cr tr Br mr dr) 29)=W12 at hE⊢;rw[<-uq];clear uq;obtain⟨vu,hn2⟩:=(hE.g1).ln HL2.out;obtain⟨eu,eF,iA,kz⟩:=(hE.g0).c4;go_wp2_with fail
 refine(uU (hE.g1).1 (by omega)).mono ?_;clear eu eF iA kz;clear vu hn2
 rintro e MH ⟨A1,c1,rfl,hA,hb⟩
 replace hE:=hE.step hb;clear hb;have hF:FV MH Q sr A1 nr tr Br mr:=⟨⟨(hE.g1).1.1,(hE.g1).1.2.1,hA⟩,(hE.g1).2⟩;replace hE:=hE.fv hF;clear hA hF
 have MG:w.heap.size<=g12:=by omega
 have hF:=(hE.g0).sep (i:=1) (hE.g1) rfl (.slice A1 nr c1)
 have vk:au 29 g12 (az sr A1 nr c1 tr Br mr dr) (MH.setCell ⟨g12,1,none⟩ (.slice A1 nr c1)):=by simpa using(hE.g1).dZ 1 (.slice A1 nr c1)
 have dD:=(((Env.again (hE.ax.setCell (p:=⟨g12,1,none⟩) MG (.slice A1 nr c1))).ag ((hE.h3).far (p:=⟨g12,1,none⟩) (by simp;omega) (.slice A1 nr c1))).ag vk).fv hF;obtain⟨y0,y1,y2,y3⟩:=(hE.g1).c4;have z0:=(hE.g1).frozen 1;clear hF vk hE
 go_upto_region 5 with(fail)
 clear y0 y1 y2 y3 z0 MG;have hE:=dD;clear dD;generalize MH.setCell ⟨g12,1,none⟩ (.slice A1 nr c1)=v1 at hE⊢;obtain⟨vu,hn2⟩:=(hE.g0).ln HL2.out;obtain⟨lU,jS,kT,kB⟩:=(hE.g1).c4;go_wp2_with fail
 refine(uU (hE.g0).2 (by omega)).mono ?_;clear lU jS kT kB;clear vu hn2
 rintro e w23 ⟨B1,d1,rfl,hA,hb⟩
 replace hE:=hE.step hb;clear hb;have hF:FV w23 Q sr A1 nr tr B1 mr:=⟨(hE.g0).1,⟨(hE.g0).2.1,(hE.g0).2.2.1,hA⟩⟩;replace hE:=hE.fv hF;clear hA hF
 have MG:w.heap.size<=g12:=by omega
 have hF:=(hE.g0).sep (i:=3) (hE.h2) rfl (.slice B1 mr d1)
 have vk:au 29 g12 (az sr A1 nr c1 tr B1 mr d1) (w23.setCell ⟨g12,3,none⟩ (.slice B1 mr d1)):=by simpa using(hE.h2).dZ 3 (.slice B1 mr d1)
 have dD:=(((Env.again (hE.ax.setCell (p:=⟨g12,3,none⟩) MG (.slice B1 mr d1))).ag ((hE.h3).far (p:=⟨g12,3,none⟩) (by simp;omega) (.slice B1 mr d1))).ag vk).fv hF;obtain⟨y0,y1,y2,y3⟩:=(hE.h2).c4;have z0:=(hE.h2).frozen 3;clear hF vk hE
 go_upto_region 6 with(fail)
 clear y0 y1 y2 y3 z0 MG;have hE:=dD;clear dD;generalize w23.setCell ⟨g12,3,none⟩ (.slice B1 mr d1)=v3 at hE⊢;obtain⟨lV,lW,nC,rP⟩:=(hE.g1).c4
 have cS:w.heap.size<=w.heap.size+1+1:=by omega
 obtain⟨WW,bn,hB,hV,aM⟩:=aR hE hE.h2 cS hE.g0 c1 d1;obtain⟨x0,x1,x2,x3⟩:=(hE.h2).c4;obtain⟨fL,fM,fV,fW⟩:=hE.h2.f4;have bR:=af bn;clear bn;go_wp2_with fail
 clear x0 x1 x2 x3;rw[<-bR.out];obtain⟨y0,y1,y2,y3⟩:=hB.c4;refine aK (v:= .tuple #[.agg (az sr A1 nr c1 tr B1 mr d1),.int .i64 0]) (by simp[results,Tryz.results25,go_sem,y0,y1,y2,y3]) rfl ?_;exact⟨sr,A1,nr,c1,tr,B1,mr,d1,rfl,hV,aM⟩
end
section
open Go.RowKit Go.Shelf
attribute [local go_sem] Oper.semAt_some

end
section
open Go.RowKit

theorem DR.small {F S:Int}{n:Nat}{r:Nat->RH}(h:DR F S n r)(hn:n<=3)(hS:S=1):nJ n r:=
 ⟨by omega,fun i hi=>by
  obtain⟨h1,h2⟩:=h.2.2.1 i hi;refine⟨by subst hS;rw[h1];decide,fun k hk=> ?_⟩;have h3:=h2 k hk;unfold FH.kq wz at h3;simp only[Bool.and_eq_true,decide_eq_true_eq] at h3
  omega⟩
section
variable {r:Nat->RH} (h:((r 0).h 0).q=Rat.divInt 1 10/\((r 0).h 1).q=Rat.divInt 1 5/\((r 1).h 0).q=Rat.divInt 1 8/\((r 1).h 1).q=Rat.divInt 1 2/\((r 2).h 0).q=Rat.divInt 1 4/\((r 2).h 1).q=Rat.divInt 1 1)
include h
end

end
section
open Go.RowKit

end
end Go.Proofs.YtclbiihcbfnjmaaGreat
