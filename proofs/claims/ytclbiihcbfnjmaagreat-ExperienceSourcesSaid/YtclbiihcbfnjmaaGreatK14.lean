/-
  Parts.
-/
import Derived.Test.YtclbiihcbfnjmaaGreatK12
import Derived.Deep.DeepHandedRow
import Derived.Lib.SmallJoins
set_option maxRecDepth 100000
set_option linter.unusedSimpArgs false
set_option maxHeartbeats 4000000
namespace Go.Proofs.YtclbiihcbfnjmaaGreat
section
open Go.RowKit

theorem Env.GY {w W:World}{P:World->Prop}{A:Option Addr}{n:Nat}{r:Nat->RH}(h:Env w P W)(hT:eZ W A n r):Env w (fun V=>P V/\eZ V A n r) W:=h.and (eZ.stable A n r) hT
theorem gJ {F S:Int}{A:Option Addr}{n c:Nat}{r:Nat->RH}{w:World}(hT:eZ w A n r)(hB:nJ n r)(h:DR F S n r):
  Calls Tryz.prog 118 #[.agg #[.int .i64 F,.int .i64 S,.slice A n c]] w fun e w'=>e= .returned (.bool true)/\Below w.heap.size w w':=
 (wB F S A n c r w hT hB).mono fun _ _ ⟨v,he,hv,hb⟩=>by obtain rfl:v=true:=hv.2 h;exact⟨he,hb⟩
theorem ED {F S:Int}{A:Option Addr}{n c:Nat}{r:Nat->RH}{w:World}(hT:eZ w A n r)(hB:nJ n r)(h:¬DR F S n r):
  Calls Tryz.prog 118 #[.agg #[.int .i64 F,.int .i64 S,.slice A n c]] w fun e w'=>e= .returned (.bool false)/\Below w.heap.size w w':=
 (wB F S A n c r w hT hB).mono fun _ _ ⟨v,he,hv,hb⟩=>by
  cases v with
  |true=>exact absurd (hv.1 rfl) h
  |false=>exact⟨he,hb⟩
theorem eO (F S:Int)(A:Option Addr)(n c:Nat)(w:World)(h1:0<=F)(h2:F<=1000000)(h3:n<=1000000):
  Calls Tryz.prog 119 #[.agg #[.int .i64 F,.int .i64 S,.slice A n c]] w fun e w'=>e= .returned (.int .i64 (F+(n:Int)-1))/\Below w.heap.size w w':=by
 have iZ:Below w.heap.size w (w.alloc (.cells #[.int .i64 F,.int .i64 S,.slice A n c] 24)):=(aU _ _).alloc (aq _) _
 go_enter Tryz.func119,Tryz.ntmps119
 go_wp2_with fail
 go_ret
 exact⟨rfl,iZ⟩
def dH (F S:Int)(n:Nat)(r:Nat->RH)(E Y:Int):Prop:=DR F S n r/\F<=E/\E<=F+(n:Int)-1/\0<=Y/\Y<=300
theorem qx (F S E Y:Int)(A:Option Addr)(n c:Nat)(r:Nat->RH)(w:World)(hT:eZ w A n r)(hB:nJ n r):
  Calls Tryz.prog 74 #[.agg #[.int .i64 F,.int .i64 S,.slice A n c],.agg #[.int .i64 E,.int .i64 Y]] w (js (dH F S n r E Y) w):=by
 by_cases hok:DR F S n r
 ·
  obtain⟨f1,f2,f3⟩:0<=F/\F<=150/\n<=111:=⟨hok.1.1.1,hok.1.1.2,hok.2.1.2⟩
  by_cases h1:F<=E
  ·
   have t1:decide (F<=E)=true:=aL h1
   by_cases h2:E<=F+(n:Int)-1
   ·
    have t2:decide (E<=F+(n:Int)-1)=true:=aL h2
    by_cases h3:0<=Y
    ·
     have t3:decide (0<=Y)=true:=aL h3
     by_cases h4:Y<=300
     ·
      have t4:decide (Y<=300)=true:=aL h4;have HN:Hid (dH F S n r E Y):=⟨hok,h1,h2,h3,h4⟩;have hE:=(((Env.start w).GY hT).blk 24 #[.int .i64 F,.int .i64 S,.slice A n c] (g:=w.heap.size) rfl).blk 33 #[.int .i64 E,.int .i64 Y] (g:=w.heap.size+1) (by simp)
      obtain⟨W0,aC⟩:∃W0,W0=((w.alloc (.cells #[.int .i64 F,.int .i64 S,.slice A n c] 24)).alloc (.cells #[.int .i64 E,.int .i64 Y] 33)):=⟨_,rfl⟩
      rw[<-aC] at hE;have aZ:=af aC;clear aC
      go_enter Tryz.func74,Tryz.ntmps74
      go_upto_region 1 with(fail)
      rw[<-aZ.out];replace hE:=hE.drew;refine bH (S:=fun w'=>w'.cell? ⟨w.heap.size,0,none⟩=some (.int .i64 F)/\w'.cell? ⟨w.heap.size,1,none⟩=some (.int .i64 S)/\w'.cell? ⟨w.heap.size,2,none⟩=some (.slice A n c)/\w'.cell? ⟨w.heap.size+1,0,none⟩=some (.int .i64 E)/\w'.cell? ⟨w.heap.size+1,1,none⟩=some (.int .i64 Y)) (by kernel_rfl) (hE.g1.j3 hE.g0.c2) (fun hHeld=> ?_);refine tk 0 ?_;refine r1 1 (fun K hK=> ?_);go_simp;refine hE.br (gJ (c:=c) hE.h2 hB hok) ?_;clear hE;intro w1 hE;go_wp2_with fail
      refine hK.out _ _ (hE.g1.j3 hE.g0.c2) (fun hHeld=> ?_);clear hK K;try simp only[PL]
      refine tk 2 ?_;refine tk 3 ?_;refine tk 4 ?_;refine tk 5 ?_;refine tk 6 ?_;refine tk 7 ?_;refine tk 8 ?_;refine tk 9 ?_;refine tk 10 ?_;refine tk 11 ?_;refine tk 12 ?_;refine r1 13 (fun K hK=> ?_);go_simp;refine hE.br (eO F S A n c _ f1 (by omega) (by omega)) ?_;clear hE;intro w2 hE;go_wp2_with fail
      refine hK.out _ _ (hE.g1.j3 hE.g0.c2) (fun hHeld=> ?_);clear hK K;try simp only[PL]
      refine tk 14 ?_;refine tk 15 ?_;refine tk 16 ?_;refine tk 17 ?_;refine tk 18 ?_;refine tk 19 ?_;refine tk 20 ?_;refine tk 21 ?_;refine tk 22 ?_;refine tk 23 ?_;refine tk 24 ?_;refine tk 25 ?_;refine tk 26 ?_;refine aX (by kernel_rfl) ?_ _;go_wp2_with fail
      go_ret
      exact⟨true,rfl,uO HN.out,hE.ax⟩
     ·
      have t4:decide (Y<=300)=false:=aH h4
      have HN:Hid (¬dH F S n r E Y):=fun h=>h4 h.2.2.2.2
      have hE:=(((Env.start w).GY hT).blk 24 #[.int .i64 F,.int .i64 S,.slice A n c] (g:=w.heap.size) rfl).blk 33 #[.int .i64 E,.int .i64 Y] (g:=w.heap.size+1) (by simp)
      obtain⟨W0,aC⟩:∃W0,W0=((w.alloc (.cells #[.int .i64 F,.int .i64 S,.slice A n c] 24)).alloc (.cells #[.int .i64 E,.int .i64 Y] 33)):=⟨_,rfl⟩
      rw[<-aC] at hE;have aZ:=af aC;clear aC
      go_enter Tryz.func74,Tryz.ntmps74
      go_upto_region 1 with(fail)
      rw[<-aZ.out];replace hE:=hE.drew;refine bH (S:=fun w'=>w'.cell? ⟨w.heap.size,0,none⟩=some (.int .i64 F)/\w'.cell? ⟨w.heap.size,1,none⟩=some (.int .i64 S)/\w'.cell? ⟨w.heap.size,2,none⟩=some (.slice A n c)/\w'.cell? ⟨w.heap.size+1,0,none⟩=some (.int .i64 E)/\w'.cell? ⟨w.heap.size+1,1,none⟩=some (.int .i64 Y)) (by kernel_rfl) (hE.g1.j3 hE.g0.c2) (fun hHeld=> ?_);refine tk 0 ?_;refine r1 1 (fun K hK=> ?_);go_simp;refine hE.br (gJ (c:=c) hE.h2 hB hok) ?_;clear hE;intro w1 hE;go_wp2_with fail
      refine hK.out _ _ (hE.g1.j3 hE.g0.c2) (fun hHeld=> ?_);clear hK K;try simp only[PL]
      refine tk 2 ?_;refine tk 3 ?_;refine tk 4 ?_;refine tk 5 ?_;refine tk 6 ?_;refine tk 7 ?_;refine tk 8 ?_;refine tk 9 ?_;refine tk 10 ?_;refine tk 11 ?_;refine tk 12 ?_;refine r1 13 (fun K hK=> ?_);go_simp;refine hE.br (eO F S A n c _ f1 (by omega) (by omega)) ?_;clear hE;intro w2 hE;go_wp2_with fail
      refine hK.out _ _ (hE.g1.j3 hE.g0.c2) (fun hHeld=> ?_);clear hK K;try simp only[PL]
      refine tk 14 ?_;refine tk 15 ?_;refine tk 16 ?_;refine tk 17 ?_;refine tk 18 ?_;refine tk 19 ?_;refine tk 20 ?_;refine tk 21 ?_;refine tk 22 ?_;refine tk 23 ?_;refine tk 24 ?_;refine tk 25 ?_;refine tk 26 ?_;refine aX (by kernel_rfl) ?_ _;go_wp2_with fail
      go_ret
      exact⟨false,rfl,bQ HN.out,hE.ax⟩
    ·
     have t3:decide (0<=Y)=false:=aH h3
     have HN:Hid (¬dH F S n r E Y):=fun h=>h3 h.2.2.2.1
     have hE:=(((Env.start w).GY hT).blk 24 #[.int .i64 F,.int .i64 S,.slice A n c] (g:=w.heap.size) rfl).blk 33 #[.int .i64 E,.int .i64 Y] (g:=w.heap.size+1) (by simp)
     obtain⟨W0,aC⟩:∃W0,W0=((w.alloc (.cells #[.int .i64 F,.int .i64 S,.slice A n c] 24)).alloc (.cells #[.int .i64 E,.int .i64 Y] 33)):=⟨_,rfl⟩
     rw[<-aC] at hE;have aZ:=af aC;clear aC
     go_enter Tryz.func74,Tryz.ntmps74
     go_upto_region 1 with(fail)
     rw[<-aZ.out];replace hE:=hE.drew;refine bH (S:=fun w'=>w'.cell? ⟨w.heap.size,0,none⟩=some (.int .i64 F)/\w'.cell? ⟨w.heap.size,1,none⟩=some (.int .i64 S)/\w'.cell? ⟨w.heap.size,2,none⟩=some (.slice A n c)/\w'.cell? ⟨w.heap.size+1,0,none⟩=some (.int .i64 E)/\w'.cell? ⟨w.heap.size+1,1,none⟩=some (.int .i64 Y)) (by kernel_rfl) (hE.g1.j3 hE.g0.c2) (fun hHeld=> ?_);refine tk 0 ?_;refine r1 1 (fun K hK=> ?_);go_simp;refine hE.br (gJ (c:=c) hE.h2 hB hok) ?_;clear hE;intro w1 hE;go_wp2_with fail
     refine hK.out _ _ (hE.g1.j3 hE.g0.c2) (fun hHeld=> ?_);clear hK K;try simp only[PL]
     refine tk 2 ?_;refine tk 3 ?_;refine tk 4 ?_;refine tk 5 ?_;refine tk 6 ?_;refine tk 7 ?_;refine tk 8 ?_;refine tk 9 ?_;refine tk 10 ?_;refine tk 11 ?_;refine tk 12 ?_;refine r1 13 (fun K hK=> ?_);go_simp;refine hE.br (eO F S A n c _ f1 (by omega) (by omega)) ?_;clear hE;intro w2 hE;go_wp2_with fail
     refine hK.out _ _ (hE.g1.j3 hE.g0.c2) (fun hHeld=> ?_);clear hK K;try simp only[PL]
     refine tk 14 ?_;refine tk 15 ?_;refine tk 16 ?_;refine tk 17 ?_;refine tk 18 ?_;refine tk 19 ?_;refine tk 20 ?_;refine tk 21 ?_;refine tu 22 ?_;refine tu 23 ?_;refine tu 24 ?_;refine tk 25 ?_;refine tk 26 ?_;refine aX (by kernel_rfl) ?_ _;go_wp2_with fail
     go_ret
     exact⟨false,rfl,bQ HN.out,hE.ax⟩
   ·
    have t2:decide (E<=F+(n:Int)-1)=false:=aH h2
    have HN:Hid (¬dH F S n r E Y):=fun h=>h2 h.2.2.1
    have hE:=(((Env.start w).GY hT).blk 24 #[.int .i64 F,.int .i64 S,.slice A n c] (g:=w.heap.size) rfl).blk 33 #[.int .i64 E,.int .i64 Y] (g:=w.heap.size+1) (by simp)
    obtain⟨W0,aC⟩:∃W0,W0=((w.alloc (.cells #[.int .i64 F,.int .i64 S,.slice A n c] 24)).alloc (.cells #[.int .i64 E,.int .i64 Y] 33)):=⟨_,rfl⟩
    rw[<-aC] at hE;have aZ:=af aC;clear aC
    go_enter Tryz.func74,Tryz.ntmps74
    go_upto_region 1 with(fail)
    rw[<-aZ.out];replace hE:=hE.drew;refine bH (S:=fun w'=>w'.cell? ⟨w.heap.size,0,none⟩=some (.int .i64 F)/\w'.cell? ⟨w.heap.size,1,none⟩=some (.int .i64 S)/\w'.cell? ⟨w.heap.size,2,none⟩=some (.slice A n c)/\w'.cell? ⟨w.heap.size+1,0,none⟩=some (.int .i64 E)/\w'.cell? ⟨w.heap.size+1,1,none⟩=some (.int .i64 Y)) (by kernel_rfl) (hE.g1.j3 hE.g0.c2) (fun hHeld=> ?_);refine tk 0 ?_;refine r1 1 (fun K hK=> ?_);go_simp;refine hE.br (gJ (c:=c) hE.h2 hB hok) ?_;clear hE;intro w1 hE;go_wp2_with fail
    refine hK.out _ _ (hE.g1.j3 hE.g0.c2) (fun hHeld=> ?_);clear hK K;try simp only[PL]
    refine tk 2 ?_;refine tk 3 ?_;refine tk 4 ?_;refine tk 5 ?_;refine tk 6 ?_;refine tk 7 ?_;refine tk 8 ?_;refine tk 9 ?_;refine tk 10 ?_;refine tk 11 ?_;refine tk 12 ?_;refine r1 13 (fun K hK=> ?_);go_simp;refine hE.br (eO F S A n c _ f1 (by omega) (by omega)) ?_;clear hE;intro w2 hE;go_wp2_with fail
    refine hK.out _ _ (hE.g1.j3 hE.g0.c2) (fun hHeld=> ?_);clear hK K;try simp only[PL]
    refine tk 14 ?_;refine tk 15 ?_;refine tk 16 ?_;refine tu 17 ?_;refine tu 18 ?_;refine tu 19 ?_;refine tk 20 ?_;refine tk 21 ?_;refine tu 22 ?_;refine tu 23 ?_;refine tu 24 ?_;refine tk 25 ?_;refine tk 26 ?_;refine aX (by kernel_rfl) ?_ _;go_wp2_with fail
    go_ret
    exact⟨false,rfl,bQ HN.out,hE.ax⟩
  ·
   have t1:decide (F<=E)=false:=aH h1
   have HN:Hid (¬dH F S n r E Y):=fun h=>h1 h.2.1
   have hE:=(((Env.start w).GY hT).blk 24 #[.int .i64 F,.int .i64 S,.slice A n c] (g:=w.heap.size) rfl).blk 33 #[.int .i64 E,.int .i64 Y] (g:=w.heap.size+1) (by simp)
   obtain⟨W0,aC⟩:∃W0,W0=((w.alloc (.cells #[.int .i64 F,.int .i64 S,.slice A n c] 24)).alloc (.cells #[.int .i64 E,.int .i64 Y] 33)):=⟨_,rfl⟩
   rw[<-aC] at hE;have aZ:=af aC;clear aC
   go_enter Tryz.func74,Tryz.ntmps74
   go_upto_region 1 with(fail)
   rw[<-aZ.out];replace hE:=hE.drew;refine bH (S:=fun w'=>w'.cell? ⟨w.heap.size,0,none⟩=some (.int .i64 F)/\w'.cell? ⟨w.heap.size,1,none⟩=some (.int .i64 S)/\w'.cell? ⟨w.heap.size,2,none⟩=some (.slice A n c)/\w'.cell? ⟨w.heap.size+1,0,none⟩=some (.int .i64 E)/\w'.cell? ⟨w.heap.size+1,1,none⟩=some (.int .i64 Y)) (by kernel_rfl) (hE.g1.j3 hE.g0.c2) (fun hHeld=> ?_);refine tk 0 ?_;refine r1 1 (fun K hK=> ?_);go_simp;refine hE.br (gJ (c:=c) hE.h2 hB hok) ?_;clear hE;intro w1 hE;go_wp2_with fail
   refine hK.out _ _ (hE.g1.j3 hE.g0.c2) (fun hHeld=> ?_);clear hK K;try simp only[PL]
   refine tk 2 ?_;refine tk 3 ?_;refine tk 4 ?_;refine tk 5 ?_;refine tk 6 ?_;refine tk 7 ?_;refine tk 8 ?_;refine tk 9 ?_;refine tu 10 ?_;refine tu 11 ?_;refine tu 12 ?_;refine tu 13 ?_;refine tu 14 ?_;refine tk 15 ?_;refine tk 16 ?_;refine tu 17 ?_;refine tu 18 ?_;refine tu 19 ?_;refine tk 20 ?_;refine tk 21 ?_;refine tu 22 ?_;refine tu 23 ?_;refine tu 24 ?_;refine tk 25 ?_;refine tk 26 ?_;refine aX (by kernel_rfl) ?_ _;go_wp2_with fail
   go_ret
   exact⟨false,rfl,bQ HN.out,hE.ax⟩
 ·
  have HN:Hid (¬dH F S n r E Y):=fun h=>hok h.1
  have hE:=(((Env.start w).GY hT).blk 24 #[.int .i64 F,.int .i64 S,.slice A n c] (g:=w.heap.size) rfl).blk 33 #[.int .i64 E,.int .i64 Y] (g:=w.heap.size+1) (by simp)
  obtain⟨W0,aC⟩:∃W0,W0=((w.alloc (.cells #[.int .i64 F,.int .i64 S,.slice A n c] 24)).alloc (.cells #[.int .i64 E,.int .i64 Y] 33)):=⟨_,rfl⟩
  rw[<-aC] at hE;have aZ:=af aC;clear aC
  go_enter Tryz.func74,Tryz.ntmps74
  go_upto_region 1 with(fail)
  rw[<-aZ.out];replace hE:=hE.drew;refine bH (S:=fun w'=>w'.cell? ⟨w.heap.size,0,none⟩=some (.int .i64 F)/\w'.cell? ⟨w.heap.size,1,none⟩=some (.int .i64 S)/\w'.cell? ⟨w.heap.size,2,none⟩=some (.slice A n c)/\w'.cell? ⟨w.heap.size+1,0,none⟩=some (.int .i64 E)/\w'.cell? ⟨w.heap.size+1,1,none⟩=some (.int .i64 Y)) (by kernel_rfl) (hE.g1.j3 hE.g0.c2) (fun hHeld=> ?_);refine tk 0 ?_;refine r1 1 (fun K hK=> ?_);go_simp;refine hE.br (ED (c:=c) hE.h2 hB hok) ?_;clear hE;intro w1 hE;go_wp2_with fail
  refine hK.out _ _ (hE.g1.j3 hE.g0.c2) (fun hHeld=> ?_);clear hK K;try simp only[PL]
  refine tk 2 ?_;refine tu 3 ?_;refine tu 4 ?_;refine tu 5 ?_;refine tu 6 ?_;refine tu 7 ?_;refine tk 8 ?_;refine tk 9 ?_;refine tu 10 ?_;refine tu 11 ?_;refine tu 12 ?_;refine tu 13 ?_;refine tu 14 ?_;refine tk 15 ?_;refine tk 16 ?_;refine tu 17 ?_;refine tu 18 ?_;refine tu 19 ?_;refine tk 20 ?_;refine tk 21 ?_;refine tu 22 ?_;refine tu 23 ?_;refine tu 24 ?_;refine tk 25 ?_;refine tk 26 ?_;refine aX (by kernel_rfl) ?_ _;go_wp2_with fail
  go_ret
  exact⟨false,rfl,bQ HN.out,hE.ax⟩
end
section
open Go.RowKit

theorem Sh {a b:Rat}{sa ta sb tb:Bool}{Aa Ba Ab Bb:Option Addr}{na ca ma da nb cb mb db:Nat}{w:World}(ha:FV w a sa Aa na ta Ba ma)(hb:FV w b sb Ab nb tb Bb mb)(la:fl a<=256)(lb:fl b<=256)(lr:fl (a-b)<=256):
  Calls Tryz.prog 187 #[.agg (az sa Aa na ca ta Ba ma da),.agg (az sb Ab nb cb tb Bb mb db)] w (FR (a-b) w):=by
 have hE:=((((Env.start w).fv ha).fv hb).blk 29 (az sa Aa na ca ta Ba ma da) (g:=w.heap.size) rfl).blk 29 (az sb Ab nb cb tb Bb mb db) (g:=w.heap.size+1) (by simp);have hE:=hE.blk 29 aW (g:=w.heap.size+1+1) (by simp)
 obtain⟨W0,aC⟩:∃W0,W0=(((w.alloc (.cells (az sa Aa na ca ta Ba ma da) 29)).alloc (.cells (az sb Ab nb cb tb Bb mb db) 29)).alloc (.cells aW 29)):=⟨_,rfl⟩
 rw[<-aC] at hE;have aZ:=af aC;clear aC
 go_enter Tryz.func187,Tryz.ntmps187
 go_upto_region 1 with(fail)
 rw[<-aZ.out];obtain⟨k1,k2,k3,k4⟩:=(hE.h2).c4;obtain⟨k5,k6,k7,k8⟩:=(hE.g1).c4;go_wp2_with fail
 refine hE.fr (zV (ca:=ca) (da:=da) (cb:=cb) (db:=db) hE.h4 hE.h3 la lb lr) ?_;clear hE k1 k2 k3 k4 k5 k6 k7 k8;intro sr Ar nr cr tr Br mr dr w9 hE
 go_upto_region 2 with(fail)
 obtain⟨g10,bL⟩:∃g10,g10=w9.heap.size:=⟨_,rfl⟩
 have jh:w.heap.size<g10:=by rw[bL];exact(hE.h3).lt
 have iF:w.heap.size+1<g10:=by rw[bL];exact(hE.h2).lt
 have jF:w.heap.size+1+1<g10:=by rw[bL];exact(hE.g1).lt
 replace hE:=hE.blk 29 (az sr Ar nr cr tr Br mr dr) (g:=g10) bL.symm;generalize w9.alloc (.cells (az sr Ar nr cr tr Br mr dr) 29)=xQ at hE⊢;rw[<-bL];clear bL;obtain⟨dX,dY,eu,eF⟩:=(hE.g0).c4
 have cS:w.heap.size<=w.heap.size+1+1:=by omega
 obtain⟨WW,bn,hB,hV,aM⟩:=aR hE hE.h2 cS hE.g1 cr dr;obtain⟨x0,x1,x2,x3⟩:=(hE.h2).c4;obtain⟨fL,fM,fV,fW⟩:=hE.h2.f4;have bR:=af bn;clear bn;go_wp2_with fail
 clear dX dY eu eF;rw[<-bR.out];obtain⟨y0,y1,y2,y3⟩:=hB.c4;refine aK (v:= .agg (az sr Ar nr cr tr Br mr dr)) (by simp[results,Tryz.results187,go_sem,y0,y1,y2,y3]) rfl ?_;exact⟨sr,Ar,nr,cr,tr,Br,mr,dr,rfl,hV,aM⟩
theorem fD {a b:Rat}{sa ta sb tb:Bool}{Aa Ba Ab Bb:Option Addr}{na ca ma da nb cb mb db:Nat}{w:World}(ha:FV w a sa Aa na ta Ba ma)(hb:FV w b sb Ab nb tb Bb mb)(la:fl a<=256)(lb:fl b<=256)(lr:fl (a*b)<=256):
  Calls Tryz.prog 179 #[.agg (az sa Aa na ca ta Ba ma da),.agg (az sb Ab nb cb tb Bb mb db)] w (FR (a*b) w):=by
 have hE:=((((Env.start w).fv ha).fv hb).blk 29 (az sa Aa na ca ta Ba ma da) (g:=w.heap.size) rfl).blk 29 (az sb Ab nb cb tb Bb mb db) (g:=w.heap.size+1) (by simp);have hE:=hE.blk 29 aW (g:=w.heap.size+1+1) (by simp)
 obtain⟨W0,aC⟩:∃W0,W0=(((w.alloc (.cells (az sa Aa na ca ta Ba ma da) 29)).alloc (.cells (az sb Ab nb cb tb Bb mb db) 29)).alloc (.cells aW 29)):=⟨_,rfl⟩
 rw[<-aC] at hE;have aZ:=af aC;clear aC
 go_enter Tryz.func179,Tryz.ntmps179
 go_upto_region 1 with(fail)
 rw[<-aZ.out];obtain⟨k1,k2,k3,k4⟩:=(hE.h2).c4;obtain⟨k5,k6,k7,k8⟩:=(hE.g1).c4;go_wp2_with fail
 refine hE.fr (zW (ca:=ca) (da:=da) (cb:=cb) (db:=db) hE.h4 hE.h3 la lb lr) ?_;clear hE k1 k2 k3 k4 k5 k6 k7 k8;intro sr Ar nr cr tr Br mr dr w9 hE
 go_upto_region 2 with(fail)
 obtain⟨g10,bL⟩:∃g10,g10=w9.heap.size:=⟨_,rfl⟩
 have jh:w.heap.size<g10:=by rw[bL];exact(hE.h3).lt
 have iF:w.heap.size+1<g10:=by rw[bL];exact(hE.h2).lt
 have jF:w.heap.size+1+1<g10:=by rw[bL];exact(hE.g1).lt
 replace hE:=hE.blk 29 (az sr Ar nr cr tr Br mr dr) (g:=g10) bL.symm;generalize w9.alloc (.cells (az sr Ar nr cr tr Br mr dr) 29)=xQ at hE⊢;rw[<-bL];clear bL;obtain⟨dX,dY,eu,eF⟩:=(hE.g0).c4
 have cS:w.heap.size<=w.heap.size+1+1:=by omega
 obtain⟨WW,bn,hB,hV,aM⟩:=aR hE hE.h2 cS hE.g1 cr dr;obtain⟨x0,x1,x2,x3⟩:=(hE.h2).c4;obtain⟨fL,fM,fV,fW⟩:=hE.h2.f4;have bR:=af bn;clear bn;go_wp2_with fail
 clear dX dY eu eF;rw[<-bR.out];obtain⟨y0,y1,y2,y3⟩:=hB.c4;refine aK (v:= .agg (az sr Ar nr cr tr Br mr dr)) (by simp[results,Tryz.results179,go_sem,y0,y1,y2,y3]) rfl ?_;exact⟨sr,Ar,nr,cr,tr,Br,mr,dr,rfl,hV,aM⟩
theorem fE {a:Rat}{sa ta:Bool}{Aa Ba:Option Addr}{na ca ma da:Nat}{w:World}(ha:FV w a sa Aa na ta Ba ma)(la:fl a<=256)(lr:fl (1-a)<=256):
  Calls Tryz.prog 180 #[.agg (az sa Aa na ca ta Ba ma da)] w (FR (1-a) w):=by
 have hE:=((Env.start w).fv ha).blk 29 (az sa Aa na ca ta Ba ma da) (g:=w.heap.size) rfl;have hE:=hE.blk 29 aW (g:=w.heap.size+1) (by simp)
 obtain⟨W0,aC⟩:∃W0,W0=((w.alloc (.cells (az sa Aa na ca ta Ba ma da) 29)).alloc (.cells aW 29)):=⟨_,rfl⟩
 rw[<-aC] at hE;have aZ:=af aC;clear aC
 go_enter Tryz.func180,Tryz.ntmps180
 go_upto_region 1 with(fail)
 rw[<-aZ.out];replace hE:=hE.drew;refine bH (S:=fun w'=>w'.cell? ⟨w.heap.size,0,none⟩=some (.bool sa)/\w'.cell? ⟨w.heap.size,1,none⟩=some (.slice Aa na ca)/\w'.cell? ⟨w.heap.size,2,none⟩=some (.bool ta)/\w'.cell? ⟨w.heap.size,3,none⟩=some (.slice Ba ma da)) (by kernel_rfl) (hE.g1.c4) (fun hHeld=> ?_);refine tk 1 ?_;refine r1 0 (fun K hK=> ?_);go_simp;refine hE.fr (bg 1 W0.drew (by decide) (by decide)) ?_;clear hE;intro sp Ap np cp tp Bp mp dp w1 hE;go_wp2_with fail
 refine hK.out _ _ (hE.h2.c4) (fun hHeld=> ?_);clear hK K;try simp only[PL]
 refine r1 2 (fun K hK=> ?_);go_simp;have hc:=Sh (ca:=cp) (da:=dp) (cb:=ca) (db:=da) hE.g0 hE.h3 jL la lr;rw[show(((1:Int):Rat))=1 from rfl] at hc;refine hE.fr hc ?_;clear hE hc;intro sr Ar nr cr tr Br mr dr w2 hE;go_wp2_with fail
 refine hK.out _ _ (hE.h3.c4) (fun hHeld=> ?_);clear hK K;try simp only[PL]
 refine r1 3 (fun K hK=> ?_)
 have cS:w.heap.size<=w.heap.size+1:=by omega
 obtain⟨WW,bn,hB,hV,aM⟩:=aR hE hE.h2 cS hE.g0 cr dr;obtain⟨x0,x1,x2,x3⟩:=(hE.h2).c4;obtain⟨fL,fM,fV,fW⟩:=hE.h2.f4;have bR:=af bn;clear bn;have q3:=(hE.h3).aj (R:=w.heap.size+1) (by omega) (.bool sr) (.slice Ar nr cr) (.bool tr) (.slice Br mr dr);rw[<-bR.out] at q3;go_simp;rw[<-bR.out];refine hK.out _ _ (q3.c4) (fun hHeld=> ?_);clear hK K;try simp only[PL]
 refine aX (by kernel_rfl) ?_ _;go_wp2_with fail
 obtain⟨y0,y1,y2,y3⟩:=hB.c4;refine aK (v:= .agg (az sr Ar nr cr tr Br mr dr)) (by simp[results,Tryz.results180,go_sem,y0,y1,y2,y3]) rfl ?_;exact⟨sr,Ar,nr,cr,tr,Br,mr,dr,rfl,hV,aM⟩
end
section
open Go.RowKit

theorem At.aj {b o R:Nat}{v:Value}{w:World}(h:At b o v w)(hb:b≠R)(x y z u:Value):At b o v ((((w.setCell ⟨R,0,none⟩ x).setCell ⟨R,1,none⟩ y).setCell ⟨R,2,none⟩ z).setCell ⟨R,3,none⟩ u):=by
 have step:∀(W:World) (i:Nat) (x:Value),At b o v W->At b o v (W.setCell ⟨R,i,none⟩ x):=fun W i x h=>⟨by rw[ke];exact h.1,by rw[World.cell?_setCell_other W _ _ x (fun e=>hb (gn Addr.block e).symm)];exact h.2⟩
 exact step _ _ _ (step _ _ _ (step _ _ _ (step _ _ _ h)))
theorem au.c5 {t:TypeId}{g:Nat}{w:World}{a b c d e:Value}(h:au t g #[a,b,c,d,e] w):w.cell? ⟨g,0,none⟩=some a/\w.cell? ⟨g,1,none⟩=some b/\w.cell? ⟨g,2,none⟩=some c/\w.cell? ⟨g,3,none⟩=some d/\w.cell? ⟨g,4,none⟩=some e:=⟨h.cell 0,h.cell 1,h.cell 2,h.cell 3,h.cell 4⟩
def rt (F S:Int)(n:Nat)(r:Nat->RH)(E Y k:Int):Rat:=
 if F+(n:Int)-1<E+(Y+k) then 1 else if Y+k<S then((r (E-F).toNat).h (Y+k).toNat).q else((r (E+(Y+k)-F).toNat).h S.toNat).q
theorem JS {F S:Int}{A:Option Addr}{n:Nat}{r:Nat->RH}{w:World}(hT:eZ w A n r)(ht:DR F S n r){i k:Int}(h1:0<=i)(h2:i<n)(_:0<=k)(h4:k<=S):
  ∃b o b2 o2 ni ci,A=some ⟨b,o,none⟩/\b<w.heap.size/\w.cell? ⟨b,o+i.toNat,none⟩=some (.slice (some ⟨b2,o2,none⟩) ni ci)/\b2<w.heap.size/\k<(ni:Int)/\((r i.toNat).h k.toNat).cells w b2 (o2+k.toNat*4)/\FV w ((r i.toNat).h k.toNat).q ((r i.toNat).h k.toNat).s ((r i.toNat).h k.toNat).A ((r i.toNat).h k.toNat).n ((r i.toNat).h k.toNat).t ((r i.toNat).h k.toNat).B ((r i.toNat).h k.toNat).m:=by
 obtain⟨b,o,e,hb,hc⟩:=hT (by omega);obtain⟨c0,hrow⟩:=hc i.toNat (by omega);obtain⟨l1,l2⟩:=ht.2.2.1 i.toNat (by omega);have hS:=ht.1.2.1;obtain⟨b2,o2,e2,eS,oW⟩:=hrow (by omega);obtain⟨uF,hrd⟩:=oW k.toNat (by omega);rw[e2] at c0;exact⟨b,o,b2,o2,_,_,e,hb,c0,eS,by omega,uF,(FH.fv (l2 k.toNat (by omega)) hrd).1⟩
theorem JT {F S E Y k:Int}{A:Option Addr}{n c:Nat}{r:Nat->RH}{w:World}(hT:eZ w A n r)(hR:dH F S n r E Y)(hk:0<=k)(hk2:k<=1000000):
  Calls Tryz.prog 75 #[.agg #[.int .i64 F,.int .i64 S,.slice A n c,.int .i64 E,.int .i64 Y],.int .i64 k] w (FR (rt F S n r E Y k) w):=by
 obtain⟨ht,FB,LL,hr3,hr4⟩:=hR;obtain⟨f1,f2,s1,s2,n1,n2⟩:0<=F/\F<=150/\0<=S/\S<=5/\1<=n/\n<=111:=⟨ht.1.1.1,ht.1.1.2,ht.1.2.1,ht.1.2.2,ht.2.1.1,ht.2.1.2⟩
 obtain⟨v,hv⟩:∃v,v=rt F S n r E Y k:=⟨_,rfl⟩
 rw[<-hv];unfold rt at hv
 by_cases h1:F+(n:Int)-1<E+(Y+k)
 ·
  have t1:=aL h1;rw[if_pos h1] at hv;have HQ:=af hv;clear hv h1;have hE:=(Env.start w).blk 106 #[.int .i64 F,.int .i64 S,.slice A n c,.int .i64 E,.int .i64 Y] (g:=w.heap.size) rfl;have hE:=hE.blk 29 aW (g:=w.heap.size+1) (by simp)
  obtain⟨W0,aC⟩:∃W0,W0=((w.alloc (.cells #[.int .i64 F,.int .i64 S,.slice A n c,.int .i64 E,.int .i64 Y] 106)).alloc (.cells aW 29)):=⟨_,rfl⟩
  rw[<-aC] at hE;have aZ:=af aC;clear aC
  go_enter Tryz.func75,Tryz.ntmps75
  go_upto_region 1 with(fail)
  rw[<-aZ.out];obtain⟨k1,k2,k3,k4,k5⟩:=(hE.g1).c5;go_wp2_with fail
  refine hE.br (eO F S A n c _ f1 (by omega) (by omega)) ?_;clear hE k1 k2 k3 k4 k5;intro w1 hE;go_wp2_with fail
  refine hE.fr (bg 1 w1 (by decide) (by decide)) ?_;clear hE;intro sp Ap np cp tp Bp mp dp w6 hE
  have cS:w.heap.size<=w.heap.size+1:=by omega
  obtain⟨WW,bn,hB,hV,aM⟩:=aR hE hE.g1 cS hE.g0 cp dp;obtain⟨x0,x1,x2,x3⟩:=(hE.g1).c4;obtain⟨fL,fM,fV,fW⟩:=hE.g1.f4;have bR:=af bn;clear bn;go_wp2_with fail
  rw[<-bR.out];rw[show(((1:Int):Rat))=1 from rfl,<-HQ.out] at hV;obtain⟨y0,y1,y2,y3⟩:=hB.c4;refine aK (v:= .agg (az sp Ap np cp tp Bp mp dp)) (by simp[results,Tryz.results75,go_sem,y0,y1,y2,y3]) rfl ?_;exact⟨sp,Ap,np,cp,tp,Bp,mp,dp,rfl,hV,aM⟩
 ·
  have t1:=aH h1;rw[if_neg h1] at hv
  by_cases h2:Y+k<S
  ·
   have t2:=aL h2;rw[if_pos h2] at hv;have HQ:=af hv;have i1:F<=E:=FB
   have i2:E-F<(n:Int):=by omega
   have i3:0<=Y+k:=by omega
   clear hv;obtain⟨b,o,b2,o2,ni,ci,rfl,hb,c0,eS,hK,uF,hh⟩:=JS hT ht (i:=E-F) (k:=Y+k) (by omega) (by omega) (by omega) (by omega)
   obtain⟨Q,hQ⟩:∃Q,Q=((r (E-F).toNat).h (Y+k).toNat).q:=⟨_,rfl⟩
   rw[<-hQ] at hh;have HQ2:=af hQ;clear hQ
   obtain⟨H,hH⟩:∃H,H=(r (E-F).toNat).h (Y+k).toNat:=⟨_,rfl⟩
   rw[<-hH] at hh uF;clear hH;obtain⟨hs,hA,hn,hc,hf,MI,hD,hm,hd,hg⟩:=H;obtain⟨d0,d1,d2,d3⟩:=uF
   dsimp only at d0 d1 d2 d3 hh
   have hE:=(((((((Env.start w).fv hh).at_ hb c0).at_ eS d0).at_ eS d1).at_ eS d2).at_ eS d3).blk 106 #[.int .i64 F,.int .i64 S,.slice (some ⟨b,o,none⟩) n c,.int .i64 E,.int .i64 Y] (g:=w.heap.size) rfl;have hE:=hE.blk 29 aW (g:=w.heap.size+1) (by simp)
   obtain⟨W0,aC⟩:∃W0,W0=((w.alloc (.cells #[.int .i64 F,.int .i64 S,.slice (some ⟨b,o,none⟩) n c,.int .i64 E,.int .i64 Y] 106)).alloc (.cells aW 29)):=⟨_,rfl⟩
   rw[<-aC] at hE;have aZ:=af aC;clear aC
   go_enter Tryz.func75,Tryz.ntmps75
   go_upto_region 1 with(fail)
   rw[<-aZ.out];clear c0 d0 d1 d2 d3;obtain⟨k1,k2,k3,k4,k5⟩:=(hE.g1).c5;go_wp2_with fail
   refine(eO F S (some ⟨b,o,none⟩) n c _ f1 (by omega) (by omega)).mono ?_;clear k1 k2 k3 k4 k5
   rintro e w1 ⟨rfl,eD⟩
   replace hE:=hE.step eD;clear eD;obtain⟨k6,k7,k8,k9,fU⟩:=(hE.g1).c5;have dX:=(hE.h6).2;have dY:=(hE.h5).2;have eu:=(hE.h4).2;have eF:=(hE.h3).2;have iA:=(hE.h2).2
   have cS:w.heap.size<=w.heap.size+1:=by omega
   obtain⟨WW,bn,hB,hV,aM⟩:=aR hE hE.g0 cS hE.h7 hc hd;obtain⟨x0,x1,x2,x3⟩:=(hE.g0).c4;obtain⟨fL,fM,fV,fW⟩:=hE.g0.f4;have bR:=af bn;clear bn;go_wp2_with fail
   clear k6 k7 k8 k9 fU dX dY eu eF iA;rw[<-bR.out];rw[HQ2.out,<-HQ.out] at hV;obtain⟨y0,y1,y2,y3⟩:=hB.c4;refine aK (v:= .agg (az hs hA hn hc MI hD hm hd)) (by simp[results,Tryz.results75,go_sem,y0,y1,y2,y3]) rfl ?_;exact⟨hs,hA,hn,hc,MI,hD,hm,hd,rfl,hV,aM⟩
  ·
   have t2:=aH h2;rw[if_neg h2] at hv;have HQ:=af hv
   have i1:F<=E+(Y+k):=by omega
   have i2:E+(Y+k)-F<(n:Int):=by omega
   have i3:0<=E+(Y+k)-F:=by omega
   have o1:IntKind.i64.wrap (E+(Y+k)-F)=E+(Y+k)-F:=by rw[cL];omega
   clear hv;obtain⟨b,o,b2,o2,ni,ci,rfl,hb,c0,eS,hK,uF,hh⟩:=JS hT ht (i:=E+(Y+k)-F) (k:=S) (by omega) (by omega) (by omega) (by omega)
   obtain⟨Q,hQ⟩:∃Q,Q=((r (E+(Y+k)-F).toNat).h (S).toNat).q:=⟨_,rfl⟩
   rw[<-hQ] at hh;have HQ2:=af hQ;clear hQ
   obtain⟨H,hH⟩:∃H,H=(r (E+(Y+k)-F).toNat).h (S).toNat:=⟨_,rfl⟩
   rw[<-hH] at hh uF;clear hH;obtain⟨hs,hA,hn,hc,hf,MI,hD,hm,hd,hg⟩:=H;obtain⟨d0,d1,d2,d3⟩:=uF
   dsimp only at d0 d1 d2 d3 hh
   have hE:=(((((((Env.start w).fv hh).at_ hb c0).at_ eS d0).at_ eS d1).at_ eS d2).at_ eS d3).blk 106 #[.int .i64 F,.int .i64 S,.slice (some ⟨b,o,none⟩) n c,.int .i64 E,.int .i64 Y] (g:=w.heap.size) rfl;have hE:=hE.blk 29 aW (g:=w.heap.size+1) (by simp)
   obtain⟨W0,aC⟩:∃W0,W0=((w.alloc (.cells #[.int .i64 F,.int .i64 S,.slice (some ⟨b,o,none⟩) n c,.int .i64 E,.int .i64 Y] 106)).alloc (.cells aW 29)):=⟨_,rfl⟩
   rw[<-aC] at hE;have aZ:=af aC;clear aC
   go_enter Tryz.func75,Tryz.ntmps75
   go_upto_region 1 with(fail)
   rw[<-aZ.out];clear c0 d0 d1 d2 d3;obtain⟨k1,k2,k3,k4,k5⟩:=(hE.g1).c5;go_wp2_with fail
   refine(eO F S (some ⟨b,o,none⟩) n c _ f1 (by omega) (by omega)).mono ?_;clear k1 k2 k3 k4 k5
   rintro e w1 ⟨rfl,eD⟩
   replace hE:=hE.step eD;clear eD;obtain⟨k6,k7,k8,k9,fU⟩:=(hE.g1).c5
   go_upto_region 7 with(fail)
   clear k6 k7 k8 k9 fU;replace hE:=hE.drew;refine bH (S:=fun w'=>w'.cell? ⟨w.heap.size,0,none⟩=some (.int .i64 F)/\w'.cell? ⟨w.heap.size,1,none⟩=some (.int .i64 S)/\w'.cell? ⟨w.heap.size,2,none⟩=some (.slice (some ⟨b,o,none⟩) n c)/\w'.cell? ⟨w.heap.size,3,none⟩=some (.int .i64 E)/\w'.cell? ⟨w.heap.size,4,none⟩=some (.int .i64 Y)/\w'.cell? ⟨b,o+(E+(Y+k)-F).toNat,none⟩=some (.slice (some ⟨b2,o2,none⟩) ni ci)/\w'.cell? ⟨b2,o2+(S).toNat*4,none⟩=some (.bool hs)/\w'.cell? ⟨b2,o2+(S).toNat*4+1,none⟩=some (.slice hA hn hc)/\w'.cell? ⟨b2,o2+(S).toNat*4+2,none⟩=some (.bool MI)/\w'.cell? ⟨b2,o2+(S).toNat*4+3,none⟩=some (.slice hD hm hd)) (by kernel_rfl) (⟨(hE.g1).c5.1,(hE.g1).c5.2.1,(hE.g1).c5.2.2.1,(hE.g1).c5.2.2.2.1,(hE.g1).c5.2.2.2.2,(hE.h6).2,(hE.h5).2,(hE.h4).2,(hE.h3).2,(hE.h2).2⟩) (fun hHeld=> ?_)
   generalize w1.drew=wd at*
   refine tk 0 ?_;refine tk 1 ?_;refine tk 2 ?_;refine tk 3 ?_;refine tk 4 ?_;refine tk 5 ?_;refine tk 6 ?_;refine tk 7 ?_;refine tk 8 ?_;refine tk 9 ?_;refine tk 10 ?_;refine tk 11 ?_;refine tk 12 ?_;refine tk 13 ?_;refine tk 14 ?_;refine r1 15 (fun K hK=> ?_)
   have cS:w.heap.size<=w.heap.size+1:=by omega
   obtain⟨WW,bn,hB,hV,aM⟩:=aR hE hE.g0 cS hE.h7 hc hd;obtain⟨x0,x1,x2,x3⟩:=(hE.g0).c4;obtain⟨fL,fM,fV,fW⟩:=hE.g0.f4;have bR:=af bn;clear bn;have WU:=(hE.g1).aj (R:=w.heap.size+1) (by omega) (.bool hs) (.slice hA hn hc) (.bool MI) (.slice hD hm hd);rw[<-bR.out] at WU;have q12:=(hE.h6).aj (R:=w.heap.size+1) (by omega) (.bool hs) (.slice hA hn hc) (.bool MI) (.slice hD hm hd);rw[<-bR.out] at q12;have q13:=(hE.h5).aj (R:=w.heap.size+1) (by omega) (.bool hs) (.slice hA hn hc) (.bool MI) (.slice hD hm hd);rw[<-bR.out] at q13;have q14:=(hE.h4).aj (R:=w.heap.size+1) (by omega) (.bool hs) (.slice hA hn hc) (.bool MI) (.slice hD hm hd);rw[<-bR.out] at q14;have q15:=(hE.h3).aj (R:=w.heap.size+1) (by omega) (.bool hs) (.slice hA hn hc) (.bool MI) (.slice hD hm hd);rw[<-bR.out] at q15;have q16:=(hE.h2).aj (R:=w.heap.size+1) (by omega) (.bool hs) (.slice hA hn hc) (.bool MI) (.slice hD hm hd);rw[<-bR.out] at q16;go_simp;rw[<-bR.out];refine hK.out _ _ (⟨(WU).c5.1,(WU).c5.2.1,(WU).c5.2.2.1,(WU).c5.2.2.2.1,(WU).c5.2.2.2.2,(q12).2,(q13).2,(q14).2,(q15).2,(q16).2⟩) (fun hHeld=> ?_);clear hK K;try simp only[PL]
   refine aX (by kernel_rfl) ?_ _;go_wp2_with fail
   rw[HQ2.out,<-HQ.out] at hV;obtain⟨y0,y1,y2,y3⟩:=hB.c4;refine aK (v:= .agg (az hs hA hn hc MI hD hm hd)) (by simp[results,Tryz.results75,go_sem,y0,y1,y2,y3]) rfl ?_;exact⟨hs,hA,hn,hc,MI,hD,hm,hd,rfl,hV,aM⟩
end
section
open Go.RowKit

theorem iO {q:Rat}{s t:Bool}{A B:Option Addr}{n m c d:Nat}{w:World}(h:FV w q s A n t B m)(l:fl q<=256):
  Calls Tryz.prog 71 #[.agg (az s A n c t B m d)] w fun e w'=>e= .returned (.bool true)/\Below w.heap.size w w':=by
 have:=h.ln l;exact cV s t A B n m c d _ _ w h.rd (by omega) (by omega) true (pZ h l)
theorem WY {x y:Int}:xF x y<=0↔x<=y:=by unfold xF;split<;>(try split)<;>omega
theorem JU {a b:Rat}:LM a b<=0↔a<=b:=by unfold LM;rw[WY,<-Rat.le_iff]
end
section
open Go.RowKit

def aiz {α:Type}(F:Fence)(n:Nat)(P:Program)(g:Nat)(lb:Array Value)(encs:α->Array Value)(Kp:World->World->Prop)(V:List α->α->World->Prop)(S Sp:List α->Prop)(N:Nat)(w:World):Prop:=
 ∀(l:Nat) (J Jx:List α->World->Prop) (W:World),Below w.heap.size w W->AbidesFrom W.heap.size J->AbidesFrom W.heap.size Jx->
  (∀pre x W1,J pre W1->V pre x W1->pre.length<N->YieldAt F (n-1) P l (encs x) W1 fun e W'=>
   (e= .returned (.bool true)/\J (pre++ [x]) W'/\Kp W1 W')\/(e= .returned (.bool false)/\Jx (pre++ [x]) W'))->
  J [] W->
  CallsIn F n P g (#[.func (.yield l) #[] #[]]++lb) W fun e W'=>(∃v,e= .returned v)/\((∃xs,S xs/\J xs W')\/(∃pre,Sp pre/\Jx pre W'))

structure jg (D:Nat)(r:Loop)(W:World):Prop where
 dfr:W.heap[D]?=some (.deferred (some []))
 lp:W.heap[D+1]?=some (.loop r)
section
variable {D:Nat} {r r':Loop} {W W':World}
theorem jg.lt (h:jg D r W):D+1<W.heap.size:=(Array.getElem?_eq_some_iff.1 h.lp).1
theorem jg.keeps (h:jg D r W)(hk:KeepsFrom D W W'):jg D r W':=⟨hk.same _ _ (aq _) h.dfr rfl,hk.same _ _ (by omega) h.lp rfl⟩
theorem jg.turn (h:jg D r W)(r':Loop):jg D r' (W.putObj (D+1) (.loop r')):=⟨(rD (by omega)).trans h.dfr,World.putObj_heap_same h.lt⟩
theorem jg.Si (h:jg D r W){row:Option Nat}(hg:W.grownBy W' row)(hr:∀q,row=some q->∃o:Obj,W.heap[q]?=some o/\o.isWalk=true):jg D r W':=
 ⟨(grownBy_keeps hg hr h.dfr rfl).trans h.dfr,(grownBy_keeps hg hr h.lp rfl).trans h.lp⟩
theorem jg.start (w:World)(r:Loop):jg w.heap.size r ((w.alloc (.deferred (some []))).alloc (.loop r)):=by
 have h:=World.alloc_heap_new (w.alloc (.deferred (some []))) (.loop r);rw[fe] at h;exact⟨(ei _ _ _ (by simp)).trans (World.alloc_heap_new w _),h⟩
end

theorem adR {F:Fence}{n:Nat}{P:Program}{α:Type}{g:Operand}{ps:Array Tmp}{assign body:Code}{Q:Exit->Act->World->Prop}{a:Act}{w:World}
  (hro:F.round=none) (h1:1<=n) {gf:Nat} {lb:Array Value} (hg:a.eval g= .func (.func gf) #[] lb) (hFg:F.fn gf) (eg:∀args w,(callFunc gf args).run P w= .ok (.enter gf args) w)
  {encs:α->Array Value} {Kp:World->World->Prop} {V:List α->α->World->Prop} {S Sp:List α->Prop} {N:Nat} {w0:World} (hseq:aiz F (n-1) P gf lb encs Kp V S Sp N w0)
  (hKt:∀{A B C:World},Kp A B->Kp B C->Kp A C) (hKb:∀(W:World) (l:Nat) (o o':Obj),w.heap.size<=l->W.heap[l]?=some o->o.isCells=false->o.isWalk=false->Kp W (W.putObj l o'))
  (hb0:Below w0.heap.size w0 w) (hps:∀x,(encs x).size=ps.size)
  (I:List α->World->Prop) (Ix:Code->List α->World->Prop) (hI:OwnFrom w.heap.size I) (hIx:∀c,OwnFrom w.heap.size (Ix c)) (h0:I [] w)
  (Ax:List α->α->Act->World->Prop) (hAx:∀pre x a',OwnFrom w.heap.size (fun(_:Unit) W=>Ax pre x a' W))
  (hassign:∀(l:Nat) (pre:List α) (x:α) (W:World) (K:Act->World->Prop),I pre W->V pre x W->(∀a' W',KeepsFrom w.heap.size W W'->Kp W W'->I pre W'->Ax pre x a' W'->K a' W')->
   assign.wpIn (F.inRound l) (n-1-1) P (Exit.then K (fun _ _ _=>False)) {tmps:=(ps.zip (encs x)).foldl (fun t (p,v)=>t.setIfInBounds p v) a.tmps,defers:=[]} W)
  (hbody:∀(l:Nat) (pre:List α) (x:α) (a':Act) (W:World),I pre W->Ax pre x a' W->pre.length<N->body.wpIn (F.inRound l) (n-1-1) P (ownPostG w.heap.size Kp I Ix (pre++ [x]) W) a' W)
  (hdone:∀(D:Nat) (xs:List α) (W:World),w.heap.size<=D->S xs->I xs W->W.heap[D]?=some (.deferred (some []))->Q .normal {a with defers:={target:= .collected D,args:=#[]}::a.defers} W)
  (hstop:∀(D:Nat) (c:Code) (pre:List α) (W:World),w.heap.size<=D->Sp pre->Ix c pre W->W.heap[D]?=some (.deferred (some []))->c.wpIn F n P Q {a with defers:={target:= .collected D,args:=#[]}::a.defers} W):
  (Code.rangeFunc g ps assign body).wpIn F n P Q a w:=by
 refine wpIn_rangeFunc fun fn hfn=> ?_
 rw[hro]
 obtain⟨bk,vt⟩:∃bk:LoopState->Option Code->Loop,bk=fun st pe=>{state:=st,pending:=pe,fn,tmps:=a.tmps,params:=ps,assign,body,defers:=w.heap.size}:=⟨_,rfl⟩
 have Zy:=jg.start w (bk .ready none);have hI1:I [] ((w.alloc (.deferred (some []))).alloc (.loop (bk .ready none))):=hI.alloc _ (hI.alloc _ h0);have eD:Below w0.heap.size w0 ((w.alloc (.deferred (some []))).alloc (.loop (bk .ready none))):=hb0.trans ((((aU _ w).alloc (aq _) _).alloc (by simp) _).mono hb0.size)
 have hz:((w.alloc (.deferred (some []))).alloc (.loop (bk .ready none))).heap.size=w.heap.size+1+1:=by simp
 have aiA:=run_enterLoop_outer (P:=P) (w:=w) fn a.tmps ps assign body
 have aiB:(Instr.enterLoop fn a.tmps ps assign body none).run P w= .ok (w.heap.size+1,[{target:= .collected w.heap.size,args:=#[]}]) ((w.alloc (.deferred (some []))).alloc (.loop (bk .ready none))):=by rw[vt];exact aiA
 clear aiA
 generalize (w.alloc (.deferred (some []))).alloc (.loop (bk .ready none))=W1 at*
 refine⟨w.heap.size+1,[{target:= .collected w.heap.size,args:=#[]}],W1,{target:= .fn (.func gf) lb,args:=#[.func (.yield (w.heap.size+1)) #[] #[]]},W1,gf,
  #[.func (.yield (w.heap.size+1)) #[] #[]]++lb,W1,aiB, ?_, ?_, ?_,fun _=>h1, ?_⟩
 ·
  simp only[resolve,hg]
  simp[go_sem]
 ·
  intro f' hf'
  simp[Target.leads] at hf'
  subst hf';exact hFg
 ·simp[invoke,go_sem,eg]
 ·
  have far:∀{A:World} {row:Option Nat},(∀q,row=some q->W1.heap.size<=q/\∃o:Obj,A.heap[q]?=some o/\o.isWalk=true)->∀q,row=some q->w.heap.size<=q/\∃o:Obj,A.heap[q]?=some o/\o.isCells=false:=
   fun hr q e=>by
    obtain⟨hq,o,ho,hw⟩:=hr q e;exact⟨by omega,o,ho,Obj.not_cells_of_walk hw⟩
  refine(hseq (w.heap.size+1) (fun pre W=>I pre W/\jg w.heap.size (bk .ready none) W) (fun pre W=>∃c,Ix c pre W/\jg w.heap.size (bk .done (some c)) W) W1 eD
   (fun s A B row hs hg' hr=>⟨hI s A B row hs.1 hg' (far hr),hs.2.Si hg' fun q e=>(hr q e).2⟩)
   (fun s A B row hs hg' hr=>by
    obtain⟨c,hc,hB⟩:=hs
    exact⟨c,hIx c s A B row hc hg' (far hr),hB.Si hg' fun q e=>(hr q e).2⟩) ?_ ⟨hI1,Zy⟩).mono ?_
  ·
   rintro pre x W ⟨hi,hB⟩ hv hlen
   have hy:=run_yield (P:=P) (args:=encs x) hB.lp (by rw[vt];exact hps x);rw[vt] at hy;refine⟨fn,_,assign,body,hy,roundIn_of_wpIn hfn (hassign _ pre x W _ hi hv ?_)⟩;clear hy;intro a' X hkf hkp hix hax;have hBX:=hB.keeps hkf;refine⟨_,run_beginRound hBX.lp (by rw[vt]), ?_⟩;have aiC:=hBX.turn {bk .ready none with state:= .busy};have hfw:=hBX.lp;refine wpIn_mono (hbody _ pre x a' _ (hI.putObj _ hix (by omega) hfw rfl) ((hAx pre x a').putObj (s:=()) _ hax (by omega) hfw rfl) hlen) ?_;have hkq:Kp W (X.putObj (w.heap.size+1) (.loop {bk .ready none with state:= .busy})):=hKt hkp (hKb _ _ _ _ (by omega) hfw rfl rfl)
   generalize X.putObj (w.heap.size+1) (.loop {bk .ready none with state:= .busy})=Y at*
   have fin:∀(jump:Option Code) (Z:World),KeepsFrom w.heap.size Y Z->
     (Instr.endRound (w.heap.size+1) jump).run P Z= .ok (.bool jump.isNone) (Z.putObj (w.heap.size+1) (.loop (bk (if jump.isNone then .ready else .done) jump)))/\
     Z.heap[w.heap.size+1]?=some (.loop {bk .ready none with state:= .busy})/\jg w.heap.size (bk (if jump.isNone then .ready else .done) jump) (Z.putObj (w.heap.size+1) (.loop (bk (if jump.isNone then .ready else .done) jump))):=fun jump Z hk=>by
    have hBZ:=aiC.keeps hk;have h:=run_endRound (P:=P) jump hBZ.lp;have ht:=hBZ.turn (bk (if jump.isNone then .ready else .done) jump);refine⟨?_,hBZ.lp,ht⟩;rw[vt] at h⊢;exact h
   have leave:∀(c:Code) (Z:World),KeepsFrom w.heap.size Y Z/\Ix c (pre++ [x]) Z->∃v Z',(Instr.endRound (w.heap.size+1) (some c)).run P Z= .ok v Z'/\v= .bool false/\∃c',Ix c' (pre++ [x]) Z'/\jg w.heap.size (bk .done (some c')) Z':=fun c Z ⟨hk,hx⟩=>by
    obtain⟨hr,hl,hBZ⟩:=fin (some c) Z hk;exact⟨_,_,hr,rfl,c,(hIx c).putObj _ hx (by omega) hl rfl,hBZ⟩
   rintro e a3 Z hp
   cases e with
   |normal=>
    obtain⟨hk,aoO,hi3⟩:=hp;obtain⟨hr,hl,hBZ⟩:=fin none Z hk;exact⟨_,_,hr,.inl ⟨rfl,⟨hI.putObj _ hi3 (by omega) hl rfl,hBZ⟩,hKt (hKt hkq aoO) (hKb _ _ _ _ (by omega) hl rfl rfl)⟩⟩
   |ret=>
    obtain⟨v,Z',hr,rfl,hc⟩:=leave .ret Z hp;exact⟨_,_,hr,.inr ⟨rfl,hc⟩⟩
   |exit id=>
    obtain⟨v,Z',hr,rfl,hc⟩:=leave (.exit id) Z hp;exact⟨_,_,hr,.inr ⟨rfl,hc⟩⟩
   |goto t=>
    obtain⟨v,Z',hr,rfl,hc⟩:=leave (.goto t) Z hp;exact⟨_,_,hr,.inr ⟨rfl,hc⟩⟩
   |panic ch=>exact hp.elim
   |outgrown=>exact hp.elim
  ·
   rintro e Z ⟨⟨v,rfl⟩,(⟨xs,hS,hi,hB⟩|⟨pre,hSp,c,hi,hB⟩)⟩
   ·
    have h:=run_endLoop (P:=P) hB.lp (by rw[vt];simp);exact⟨none,_,by rw[vt] at h;exact h,hdone _ xs _ (aq _) hS (hI.putObj _ hi (by omega) hB.lp rfl) ((rD (by omega)).trans hB.dfr)⟩
   ·
    have h:=run_endLoop (P:=P) hB.lp (by rw[vt];simp);exact⟨some c,_,by rw[vt] at h;exact h,hstop _ c pre _ (aq _) hSp ((hIx c).putObj _ hi (by omega) hB.lp rfl) ((rD (by omega)).trans hB.dfr)⟩
end
section

theorem FH.aiD {h:FH}{w:World}(hr:h.kq=true)(hd:h.rd w):0<=h.q/\h.q<=1/\h.q.den<ai:=by
 obtain⟨hv,_⟩:=FH.fv hr hd;unfold FH.kq wz at hr;simp only[Bool.and_eq_true,Bool.not_eq_true',decide_eq_true_eq] at hr;obtain⟨_,h2,h3,h4,h5⟩:=hr;refine⟨?_,JU.1 h5, ?_⟩
 ·
  have:=hv.1.AM;rw[h2] at this;have:=qf this.symm;exact mN.1 (by omega)
 ·
  have:=hv.2.len
  have h6:ln ai h.q.den<=1:=by
   simp only[Int.natAbs_natCast] at this;omega
  simpa using(bJ aA).1 h6

theorem iB {F S E Y:Int}{A:Option Addr}{n:Nat}{r:Nat->RH}{w:World}(hT:eZ w A n r)(hR:dH F S n r E Y)(N:Nat):uE (fun k=>rt F S n r E Y (k:Int)) N:=fun i _=>by
 obtain⟨ht,r1,r2,r3,r4⟩:=hR;have hS:=ht.1.2
 have row:∀(a b:Nat),a<n->b<=S.toNat->0<=((r a).h b).q/\((r a).h b).q<=1/\((r a).h b).q.den<ai:=fun a b ha hb=>by
  obtain⟨l1,l2⟩:=ht.2.2.1 a ha;obtain⟨b2,o2,e2,eS,oW⟩:=hT.row ha (by omega);exact FH.aiD (l2 b (by omega)) (oW b (by omega)).2
 show 0<=rt F S n r E Y (i:Int)/\rt F S n r E Y (i:Int)<=1/\(rt F S n r E Y (i:Int)).den<ai;unfold rt
 by_cases h1:F+(n:Int)-1<E+(Y+i)
 ·
  rw[if_pos h1];exact⟨by decide,by decide,by decide⟩
 ·
  rw[if_neg h1]
  by_cases h2:Y+(i:Int)<S
  ·
   rw[if_pos h2];exact row _ _ (by omega) (by omega)
  ·
   rw[if_neg h2];exact row _ _ (by omega) (by omega)
end
section

theorem Sj (F S:Int)(n:Nat)(r:Nat->RH)(E Y:Int)(m k:Nat):rt F S n r E (Y+(m:Int)) (k:Int)=rt F S n r E Y ((m+k:Nat):Int):=by
 unfold rt;rw[show Y+(m:Int)+(k:Int)=Y+((m+k:Nat):Int) by omega]
end
section
open Go.RowKit

end
section
open Go.RowKit

theorem Sk {w:World}{q:Rat}{s t:Bool}{A B:Option Addr}{n m:Nat}(h:FV w q s A n t B m):yz s n (aB ai q.num.natAbs) m (aB ai q.den)=q:=by
 unfold yz
 have e1:vs ai (aB ai q.num.natAbs) n=q.num.natAbs:=by rw[h.1.len];exact dB aA _
 have e2:vs ai (aB ai q.den) m=q.den:=by have:=h.2.len;rw[bV] at this;rw[this];exact dB aA _
 rw[e1,e2,h.1.AM,rE];exact Rat.num_divInt_den q
def bU (q:Rat)(s:Bool)(A:Option Addr)(n c:Nat)(t:Bool)(B:Option Addr)(m d:Nat):FH:=⟨s,A,n,c,aB ai q.num.natAbs,t,B,m,d,aB ai q.den⟩
section
variable {w:World} {q:Rat} {s t:Bool} {A B:Option Addr} {n c m d:Nat}
theorem bU.xw (h:FV w q s A n t B m):(bU q s A n c t B m d).q=q:=Sk h
theorem bU.yy (h:FV w q s A n t B m):(bU q s A n c t B m d).rd w:=h.rd
theorem bU.rate (h:FV w q s A n t B m)(h0:0<=q)(h1:q<=1)(hl:fl q<=1):(bU q s A n c t B m d).kq=true:=by
 obtain⟨l1,l2⟩:=h.ln hl
 have hs:s=false:=by rw[h.1.AM];exact aH (by have:=mN.2 h0;omega)
 show(okF s n (aB ai q.num.natAbs) t m (aB ai q.den)&&(!s&&(decide (n<=1)&&(decide (m<=1)&&decide (LM (yz s n (aB ai q.num.natAbs) m (aB ai q.den)) 1<=0)))))=true;rw[pZ h (by omega),Sk h,hs,aL l1,aL l2,aL (JU.2 h1)];rfl
end
def rowOf (g:Nat)(a b:FH):RH:=⟨some ⟨g,0,none⟩,2,2,fun k=>if k=0 then a else b⟩
def adi (x y z:RH):Nat->RH:=fun i=>if i=0 then x else if i=1 then y else z
theorem AO {w:World}{g:Nat}{a b:FH}(hB:au 29 g #[.bool a.s,.slice a.A a.n a.c,.bool a.t,.slice a.B a.m a.d,.bool b.s,.slice b.A b.n b.c,.bool b.t,.slice b.B b.m b.d] w)(ha:a.rd w)(hb:b.rd w):wA w (rowOf g a b):=fun _=>by
 refine⟨g,0,rfl,hB.lt,fun k hk=> ?_⟩;have hk2:k<2:=hk;obtain⟨⟨c0,c1,c2,c3⟩,c4,c5,c6,c7⟩:=hB.c8
 rcases(show k=0\/k=1 by omega) with rfl|rfl
 ·exact⟨⟨c0,c1,c2,c3⟩,ha⟩
 ·exact⟨⟨c4,c5,c6,c7⟩,hb⟩
theorem Wm {w:World}{g:Nat}{T:TypeId}{x y z:RH}(hB:au T g #[.slice x.A x.n x.c,.slice y.A y.n y.c,.slice z.A z.n z.c] w)(hx:wA w x)(hy:wA w y)(hz:wA w z):eZ w (some ⟨g,0,none⟩) 3 (adi x y z):=fun _=>by
 refine⟨g,0,rfl,hB.lt,fun i hi=> ?_⟩;obtain⟨c0,c1,c2⟩:=hB.c3
 rcases(show i=0\/i=1\/i=2 by omega) with rfl|rfl|rfl
 ·exact⟨c0,hx⟩
 ·exact⟨c1,hy⟩
 ·exact⟨c2,hz⟩
theorem cP {n d:Int}(h:(0<=Rat.divInt n d/\Rat.divInt n d<=1)/\(Rat.divInt n d).num.natAbs<ai^1/\(Rat.divInt n d).den<ai^1):0<=Rat.divInt n d/\Rat.divInt n d<=1/\fl (Rat.divInt n d)<=1:=
 ⟨h.1.1,h.1.2,dA.2 ⟨(bJ aA).2 h.2.1,(bJ aA).2 h.2.2⟩⟩
theorem vK {g:Nat}{a b:FH}(ha:a.kq=true)(hb:b.kq=true):Sf 1 (rowOf g a b):=⟨rfl,fun k hk=>by
 have hk2:k<2:=hk
 rcases(show k=0\/k=1 by omega) with rfl|rfl
 ·exact ha
 ·exact hb⟩

end
section
open Go.ChangeShapes Go.WideShapes Go.ChangeAt Go.RowKit Go.Deep

theorem aiE : Tryz.prog.cellsOf 4=1:=by kernel_rfl
theorem aoP : Tryz.prog.cellsOf 108=1:=by kernel_rfl
theorem aiF : Tryz.prog.cellsOf 25=1:=by kernel_rfl
theorem Sl : Tryz.prog.cellsOf 27=2:=by kernel_rfl
theorem wC : Tryz.prog.cellsOf 29=4:=by kernel_rfl
theorem aoQ : Tryz.prog.cellsOf 39=1:=by kernel_rfl
theorem GZ : Tryz.prog.cellsOf 24=3:=by kernel_rfl
theorem aaj : Tryz.prog.cellsOf 33=2:=by kernel_rfl
instance: Inhabited FH:=⟨⟨false,none,0,0,fun _=>0,false,none,0,0,fun _=>0⟩⟩
instance: Inhabited RH:=⟨⟨none,0,0,fun _=>default⟩⟩
theorem jq {α:Type}{l:List α}(h:l.length=2):∃a b,l=[a,b]:=by
 match l,h with
 |[a,b],_=>exact⟨a,b,rfl⟩
theorem EE {α:Type}{l:List α}(h:l.length=4):∃a b c d,l=[a,b,c,d]:=by
 match l,h with
 |[a,b,c,d],_=>exact⟨a,b,c,d,rfl⟩
theorem rF {w:World}{b o:Nat}{v:Value}(h:w.cell? ⟨b,o,none⟩=some v):b<w.heap.size:=by
 rcases cX b w.heap.size with h1|h1
 ·exact h1
 ·simp[World.cell?,Array.getElem?_eq_none h1] at h
theorem BS {z:Int}(h:(Lit.int .i64 z).wf=true):-9223372036854775808<=z/\z<=9223372036854775807:=by
 have:=range_i64 (zs:=[z]) (fun n hn=>by rw[List.mem_singleton.1 hn];exact h) 0
 simpa using this
theorem oC (b o k:Nat):(⟨b,o,none⟩:Addr).add k=⟨b,o+k,none⟩:=by
 unfold Addr.add
 by_cases h:k=0
 ·simp[h]
 ·simp[h]
section
variable {H:Type} {enc:TypeId×Value->H} {W:World}
theorem He {fuel:Nat}{cs:List Value}{x:DataW H×List MemPlace}(h:DataW.trod enc Tryz.prog W 0 (fun _=>true) true fuel 25 cs=some x):
  ∃A n c f,cs=[.slice A n c]/\Rd W.heap.size .u16 W A n f/\∀j,j<n->f j<65536:=by
 rcases open_ints Tryz.underlying25 Tryz.underlying108 aoP h with⟨e1,-⟩|⟨a,len,cap,zs,e1,-,hlc,hcm,hzl,-,hc,hwf⟩
 ·exact⟨none,0,0,fun _=>0,e1,Rd.nil,fun j hj=>absurd hj (by omega)⟩
 ·
  replace hzl:zs.length=cap:=by simpa using hzl
  have hb:∀j,0<=zs.getD j 0/\zs.getD j 0<=65535:=fun j=>by rw[List.getD_eq_getElem?_getD];exact range_u16 hwf j
  refine⟨some a,len,cap,fun j=>(zs.getD j 0).toNat,e1,fun hn=> ?_,fun j _=>by have:=hb j;show(zs.getD j 0).toNat<65536;omega⟩;obtain⟨b,o,rfl,hcell⟩:=ints_at hc (by omega);refine⟨b,o,rfl, ?_,fun i hi=> ?_⟩
  ·exact rF (hcell 0 (by omega))
  ·rw[hcell i (by omega),Int.toNat_of_nonneg (hb i).1]
theorem tZ {fuel:Nat}{cs:List Value}{x:DataW H×List MemPlace}(h:DataW.trod enc Tryz.prog W 0 (fun _=>true) true fuel 27 cs=some x):
  ∃s A n c f,cs=[.bool s,.slice A n c]/\Rd W.heap.size .u16 W A n f/\∀j,j<n->f j<65536:=by
 obtain⟨xs,k,-,-,hl,hx,hi⟩:=nk Tryz.underlying27 h;obtain⟨c0,c1,rfl⟩:=jq (hl.trans Sl);obtain⟨x0,x1,rfl⟩:=jq hx;have h0:DataW.trod enc Tryz.prog W 0 (fun _=>true) true k 4 (([c0,c1].drop 0).take (Tryz.prog.cellsOf 4))=some x0:=hi 0 _ rfl;have h1:DataW.trod enc Tryz.prog W 0 (fun _=>true) true k 25 (([c0,c1].drop 1).take (Tryz.prog.cellsOf 25))=some x1:=hi 1 _ rfl;rw[aiE] at h0;rw[aiF] at h1;simp only[List.drop_zero,List.take_succ_cons,List.take_zero,List.drop_succ_cons] at h0 h1;obtain⟨s,e0,-⟩:=DataW.trod_bool Tryz.underlying4 h0;obtain⟨A,n,c,f,e1,r1,r2⟩:=He h1
 injection e0 with e0
 injection e1 with e1
 exact⟨s,A,n,c,f,by rw[e0,e1],r1,r2⟩
theorem fO {fuel:Nat}{cs:List Value}{x:DataW H×List MemPlace}(h:DataW.trod enc Tryz.prog W 0 (fun _=>true) true fuel 29 cs=some x):
  ∃q:FH,cs=[.bool q.s,.slice q.A q.n q.c,.bool q.t,.slice q.B q.m q.d]/\q.rd W:=by
 obtain⟨xs,k,-,-,hl,hx,hi⟩:=nk Tryz.underlying29 h;obtain⟨c0,c1,c2,c3,rfl⟩:=EE (hl.trans wC);obtain⟨x0,x1,rfl⟩:=jq hx;have h0:DataW.trod enc Tryz.prog W 0 (fun _=>true) true k 27 (([c0,c1,c2,c3].drop 0).take (Tryz.prog.cellsOf 27))=some x0:=hi 0 _ rfl;have h1:DataW.trod enc Tryz.prog W 0 (fun _=>true) true k 27 (([c0,c1,c2,c3].drop 2).take (Tryz.prog.cellsOf 27))=some x1:=hi 1 _ rfl;rw[Sl] at h0 h1;simp only[List.drop_zero,List.take_succ_cons,List.take_zero,List.drop_succ_cons] at h0 h1;obtain⟨s,A,n,c,f,e0,r1,r2⟩:=tZ h0;obtain⟨t,B,m,d,g,e1,r3,r4⟩:=tZ h1
 injection e0 with e0 e2
 injection e2 with e2
 injection e1 with e1 e3
 injection e3 with e3
 exact⟨⟨s,A,n,c,f,t,B,m,d,g⟩,by rw[e0,e1,e2,e3],r1,r3,r2,r4⟩
theorem Sm {fuel:Nat}{cs:List Value}{x:DataW H×List MemPlace}(h:DataW.trod enc Tryz.prog W 0 (fun _=>true) true fuel 39 cs=some x):
  ∃R:RH,cs=[.slice R.A R.n R.c]/\wA W R:=by
 rcases open_slice Tryz.underlying39 h with⟨e,-⟩|⟨a,len,cap,m,k,D,Pl,rfl,-,hlc,hcm,hm,-,hx⟩
 ·exact⟨⟨none,0,0,fun _=>default⟩,e,fun h0=>absurd h0 (by simp)⟩
 ·
  replace hm:m=cap:=by simpa using hm
  have hsp:0<len->∃b o,a=⟨b,o,none⟩:=fun h0=>by
   obtain⟨cs',h1,h2⟩:=hx 0 (by omega);rw[wC] at h1;obtain⟨q,rfl,hq⟩:=fO h2;obtain⟨-,-,hc⟩:=World.cells?_some h1;have c0:=hc 0 (by omega);obtain⟨b,o,spot⟩:=a
   have hs:spot=none:=by simpa [Addr.add] using World.cell?_spot c0
   exact⟨b,o,by rw[hs]⟩
  have each:∀i,i<len->∃q:FH,(∃b o,a=⟨b,o,none⟩/\b<W.heap.size/\q.cells W b (o+i*4))/\q.rd W:=fun i hi=>by
   obtain⟨b,o,rfl⟩:=hsp (by omega);obtain⟨cs',h1,h2⟩:=hx i (by omega);rw[wC,oC] at h1;obtain⟨q,rfl,hq⟩:=fO h2;obtain⟨-,-,hc⟩:=World.cells?_some h1;have c0:=hc 0 (by omega);have c1:=hc 1 (by omega);have c2:=hc 2 (by omega);have c3:=hc 3 (by omega);rw[oC] at c0 c1 c2 c3;simp only[List.getElem?_cons_zero,List.getElem?_cons_succ,Nat.add_zero] at c0 c1 c2 c3;exact⟨q,⟨b,o,rfl,rF c0,c0,c1,c2,c3⟩,hq⟩
  obtain⟨h',hh⟩:=choose_lt each;refine⟨⟨some a,len,cap,h'⟩,rfl,fun h0=> ?_⟩;obtain⟨⟨b,o,rfl,hb,-⟩,-⟩:=hh 0 h0;refine⟨b,o,rfl,hb,fun i hi=> ?_⟩;obtain⟨⟨b',o',e,-,hc⟩,hr⟩:=hh i hi
  cases e
  exact⟨hc,hr⟩
theorem LO {fuel:Nat}{cs:List Value}{x:DataW H×List MemPlace}(h:DataW.trod enc Tryz.prog W 0 (fun _=>true) true fuel 22 cs=some x):
  ∃A n c r,cs=[.slice A n c]/\eZ W A n r:=by
 rcases open_slice1 Tryz.underlying22 aoQ h with⟨e,-⟩|⟨a,len,cap,m,k,V,D,Pl,rfl,-,hlc,hcm,hm,-,hx⟩
 ·exact⟨none,0,0,fun _=>default,e,fun h0=>absurd h0 (by omega)⟩
 ·
  replace hm:m=cap:=by simpa using hm
  have hsp:0<len->∃b o,a=⟨b,o,none⟩:=fun h0=>by
   obtain⟨h1,-⟩:=hx 0 (by omega);obtain⟨b,o,spot⟩:=a
   have hs:spot=none:=by simpa [Addr.add] using World.cell?_spot h1
   exact⟨b,o,by rw[hs]⟩
  have each:∀i,i<len->∃R:RH,(∃b o,a=⟨b,o,none⟩/\b<W.heap.size/\W.cell? ⟨b,o+i,none⟩=some (.slice R.A R.n R.c))/\wA W R:=fun i hi=>by
   obtain⟨b,o,rfl⟩:=hsp (by omega);obtain⟨h1,h2⟩:=hx i (by omega);obtain⟨R,e,hR⟩:=Sm h2
   injection e with e
   rw[e,oC] at h1;exact⟨R,⟨b,o,rfl,rF h1,h1⟩,hR⟩
  obtain⟨r,hh⟩:=choose_lt each;refine⟨some a,len,cap,r,rfl,fun h0=> ?_⟩;obtain⟨⟨b,o,rfl,hb,-⟩,-⟩:=hh 0 h0;refine⟨b,o,rfl,hb,fun i hi=> ?_⟩;obtain⟨⟨b',o',e,-,hc⟩,hr⟩:=hh i hi
  cases e
  exact⟨hc,hr⟩
end
end
section
open Go.RowKit

end
end Go.Proofs.YtclbiihcbfnjmaaGreat
