/-
  Parts.
-/
import Derived.Test.YtclbiihcbfnjmaaGreatK21
set_option linter.unusedSimpArgs false
set_option maxRecDepth 100000
set_option maxHeartbeats 8000000
namespace Go.Proofs.YtclbiihcbfnjmaaGreat
open Go.RowKit

theorem IA {L U:Nat->Rat}{p1 p2:Value}{N:Nat}{x:Nat->Q8}{q0 q3:Rat}{w:World}(hx0:(x 0).fv w q0)(hx3:(x 3).fv w q3)(Cg:jQ p1 L N w)(Ik:jQ p2 U N w)(k:Nat)(hk:k<=N)(l1:fl (L k)<=256)(l2:fl (U k)<=256)(l3:fl q0<=256)(l4:fl q3<=256)(l5:fl (L k*q0)<=256)(l6:fl (U k*q3)<=256)(l7:fl (L k*q0+U k*q3)<=256):
  Calls Tryz.prog 66 #[.int .i64 (k:Int),.agg (eM x).toArray,p1,p2] w (FR (L k*q0+U k*q3) w):=by
 obtain⟨f1,c1,rfl,eg1,oR⟩:=Cg;obtain⟨f2,c2,rfl,eg2,lQ⟩:=Ik;have Mx:=Lib.hid oR;clear oR;have abo:=Lib.hid lQ;clear lQ;have hE:=((((Env.start w).fv hx0).fv hx3).blk 98 (eM x).toArray (g:=w.heap.size) rfl).blk 29 aY (g:=w.heap.size+1) (by simp)
 obtain⟨W0,aC⟩:∃W0,W0=(w.alloc (.cells (eM x).toArray 98)).alloc (.cells aY 29):=⟨_,rfl⟩
 rw[<-aC] at hE;have aU:=Lib.hid aC;clear aC
 go_enter Tryz.func66,Tryz.ntmps66
 go_upto_region 1 with(fail)
 rw[<-aU.out];replace hE:=hE.bg (b:=w.heap.size) (o:=0) (v:= .bool (x 0).s) ⟨(hE.here.1.2).lt,(hE.here.1.2).col (j:=0) (i:=0) (by decide) (by decide) rfl rfl⟩;replace hE:=hE.bg (b:=w.heap.size) (o:=1) (v:= .slice (x 0).A (x 0).n (x 0).c) ⟨(hE.h2).lt,(hE.h2).col (j:=0) (i:=1) (by decide) (by decide) rfl rfl⟩;replace hE:=hE.bg (b:=w.heap.size) (o:=2) (v:= .bool (x 0).t) ⟨(hE.h3).lt,(hE.h3).col (j:=0) (i:=2) (by decide) (by decide) rfl rfl⟩;replace hE:=hE.bg (b:=w.heap.size) (o:=3) (v:= .slice (x 0).B (x 0).m (x 0).d) ⟨(hE.h4).lt,(hE.h4).col (j:=0) (i:=3) (by decide) (by decide) rfl rfl⟩;replace hE:=hE.bg (b:=w.heap.size) (o:=12) (v:= .bool (x 3).s) ⟨(hE.h5).lt,(hE.h5).col (j:=3) (i:=0) (by decide) (by decide) rfl rfl⟩;replace hE:=hE.bg (b:=w.heap.size) (o:=13) (v:= .slice (x 3).A (x 3).n (x 3).c) ⟨(hE.h6).lt,(hE.h6).col (j:=3) (i:=1) (by decide) (by decide) rfl rfl⟩;replace hE:=hE.bg (b:=w.heap.size) (o:=14) (v:= .bool (x 3).t) ⟨(hE.h7).lt,(hE.h7).col (j:=3) (i:=2) (by decide) (by decide) rfl rfl⟩;replace hE:=hE.bg (b:=w.heap.size) (o:=15) (v:= .slice (x 3).B (x 3).m (x 3).d) ⟨(hE.h8).lt,(hE.h8).col (j:=3) (i:=3) (by decide) (by decide) rfl rfl⟩;replace hE:=hE.drew;refine wp_region_held_drew (S:=fun w'=>w'.cell? ⟨w.heap.size,0,none⟩=some (.bool (x 0).s)/\w'.cell? ⟨w.heap.size,1,none⟩=some (.slice (x 0).A (x 0).n (x 0).c)/\w'.cell? ⟨w.heap.size,2,none⟩=some (.bool (x 0).t)/\w'.cell? ⟨w.heap.size,3,none⟩=some (.slice (x 0).B (x 0).m (x 0).d)/\w'.cell? ⟨w.heap.size,12,none⟩=some (.bool (x 3).s)/\w'.cell? ⟨w.heap.size,13,none⟩=some (.slice (x 3).A (x 3).n (x 3).c)/\w'.cell? ⟨w.heap.size,14,none⟩=some (.bool (x 3).t)/\w'.cell? ⟨w.heap.size,15,none⟩=some (.slice (x 3).B (x 3).m (x 3).d)) (by kernel_rfl) (⟨(hE.h7).2,(hE.h6).2,(hE.h5).2,(hE.h4).2,(hE.h3).2,(hE.h2).2,(hE.here.1.2).2,(hE.here.2).2⟩) (fun hHeld=> ?_);refine tk 0 ?_;refine tk 1 ?_;refine tk 3 ?_;refine tk 4 ?_;refine tk 6 ?_;refine tk 7 ?_;refine tk 9 ?_;refine tk 10 ?_;refine r1 2 (fun K hK=> ?_);go_simp;refine hE.fr (Mx.out _ hE.av k hk) ?_;clear hE;intro sa Aa na ca ta Ba ma da w1 hE;go_wp2_with fail
 refine hK.out _ _ (⟨(hE.h8).2,(hE.h7).2,(hE.h6).2,(hE.h5).2,(hE.h4).2,(hE.h3).2,(hE.h2).2,(hE.here.1.2).2⟩) (fun hHeld=> ?_);clear hK K;try simp only[PL]
 refine r1 5 (fun K hK=> ?_);go_simp;refine hE.fr (Dp (ca:=ca) (da:=da) (cb:=(x 0).c) (db:=(x 0).d) hE.here.2 hE.h12 l1 l3 l5) ?_;clear hE;intro sp Ap np cp tp Bp mp dp w2 hE;go_wp2_with fail
 refine hK.out _ _ (⟨(hE.h9).2,(hE.h8).2,(hE.h7).2,(hE.h6).2,(hE.h5).2,(hE.h4).2,(hE.h3).2,(hE.h2).2⟩) (fun hHeld=> ?_);clear hK K;try simp only[PL]
 refine r1 8 (fun K hK=> ?_);go_simp;refine hE.fr (abo.out _ hE.av k hk) ?_;clear hE;intro sb Ab nb cb tb Bb mb db w3 hE;go_wp2_with fail
 refine hK.out _ _ (⟨(hE.h10).2,(hE.h9).2,(hE.h8).2,(hE.h7).2,(hE.h6).2,(hE.h5).2,(hE.h4).2,(hE.h3).2⟩) (fun hHeld=> ?_);clear hK K;try simp only[PL]
 refine r1 11 (fun K hK=> ?_);go_simp;refine hE.fr (Dp (ca:=cb) (da:=db) (cb:=(x 3).c) (db:=(x 3).d) hE.here.2 hE.bZ l2 l4 l6) ?_;clear hE;intro sq Aq nq cq tq Bq mq dq w4 hE;go_wp2_with fail
 refine hK.out _ _ (⟨(hE.h11).2,(hE.h10).2,(hE.h9).2,(hE.h8).2,(hE.h7).2,(hE.h6).2,(hE.h5).2,(hE.h4).2⟩) (fun hHeld=> ?_);clear hK K;try simp only[PL]
 refine r1 12 (fun K hK=> ?_);go_simp;refine hE.fr (zw (ca:=cp) (da:=dp) (cb:=cq) (db:=dq) hE.h2 hE.here.2 l5 l6 l7) ?_;clear hE;intro sr Ar nr cr tr Br mr dr w5 hE;go_wp2_with fail
 refine hK.out _ _ (⟨(hE.h12).2,(hE.h11).2,(hE.h10).2,(hE.h9).2,(hE.h8).2,(hE.h7).2,(hE.h6).2,(hE.h5).2⟩) (fun hHeld=> ?_);clear hK K;try simp only[PL]
 refine r1 13 (fun K hK=> ?_)
 have cA:w.heap.size<=w.heap.size+1:=by omega
 obtain⟨WW,bn,hB,hV,aQ⟩:=aO hE hE.bZ cA hE.here.2 cr dr;obtain⟨x0,x1,x2,x3⟩:=(hE.bZ).c4;obtain⟨fQ,fR,gJ,gK⟩:=hE.bZ.f4;have bJ:=Lib.hid bn;clear bn;have q6:=(hE.h12).ai (R:=w.heap.size+1) (by omega) (.bool sr) (.slice Ar nr cr) (.bool tr) (.slice Br mr dr);rw[<-bJ.out] at q6;have q7:=(hE.h11).ai (R:=w.heap.size+1) (by omega) (.bool sr) (.slice Ar nr cr) (.bool tr) (.slice Br mr dr);rw[<-bJ.out] at q7;have q8:=(hE.h10).ai (R:=w.heap.size+1) (by omega) (.bool sr) (.slice Ar nr cr) (.bool tr) (.slice Br mr dr);rw[<-bJ.out] at q8;have q9:=(hE.h9).ai (R:=w.heap.size+1) (by omega) (.bool sr) (.slice Ar nr cr) (.bool tr) (.slice Br mr dr);rw[<-bJ.out] at q9;have q10:=(hE.h8).ai (R:=w.heap.size+1) (by omega) (.bool sr) (.slice Ar nr cr) (.bool tr) (.slice Br mr dr);rw[<-bJ.out] at q10;have T4:=(hE.h7).ai (R:=w.heap.size+1) (by omega) (.bool sr) (.slice Ar nr cr) (.bool tr) (.slice Br mr dr);rw[<-bJ.out] at T4;have q12:=(hE.h6).ai (R:=w.heap.size+1) (by omega) (.bool sr) (.slice Ar nr cr) (.bool tr) (.slice Br mr dr);rw[<-bJ.out] at q12;have q13:=(hE.h5).ai (R:=w.heap.size+1) (by omega) (.bool sr) (.slice Ar nr cr) (.bool tr) (.slice Br mr dr);rw[<-bJ.out] at q13;go_simp;rw[<-bJ.out];refine hK.out _ _ (⟨(q6).2,(q7).2,(q8).2,(q9).2,(q10).2,(T4).2,(q12).2,(q13).2⟩) (fun hHeld=> ?_);clear hK K;try simp only[PL]
 refine wpAnyH_done (by kernel_rfl) ?_ _;go_wp2_with fail
 obtain⟨y0,y1,y2,y3⟩:=hB.c4;refine bodyPost_ret (v:= .agg (az sr Ar nr cr tr Br mr dr)) (by simp[results,Tryz.results66,go_sem,y0,y1,y2,y3]) rfl ?_;exact⟨sr,Ar,nr,cr,tr,Br,mr,dr,rfl,hV,aQ⟩
theorem PW {x:Ct}{G N cap:Nat}{h:Nat->Nat->Q8}{v:Rat}{f L U:Nat->Rat}{p1 p2:Value}{w:World}(hC:fE G N cap h w)(hQ:bH h N (fun _ _=>True) (bu v f N) w)(hN:kH v f N)(kM:N<=80)(Cg:jQ p1 L N w)(Ik:jQ p2 U N w)(hl:abb v f L U N)(t:Nat)(ht:t<N):
  Calls Tryz.prog 62 #[.agg (x.Q G N cap),.int .i64 (t:Int),p1,p2] w (FR (va v f N L U t) w):=by
 obtain⟨f1,c1,rfl,eg1,oR⟩:=Cg;obtain⟨f2,c2,rfl,eg2,lQ⟩:=Ik;have Cg:jQ (.func (.func f1) #[] c1) L N w:=⟨f1,c1,rfl,eg1,oR⟩;have Ik:jQ (.func (.func f2) #[] c2) U N w:=⟨f2,c2,rfl,eg2,lQ⟩;clear eg1 eg2 oR lQ;have QU:dd v f t≠0:=hN.2 t ht
 have hdn:(dd v f t).num≠0:=fun h=>QU (Rat.num_eq_zero.1 h)
 have ahI:=Lib.hid Cg;clear Cg;have ahJ:=Lib.hid Ik;clear Ik;have Il:=Lib.hid hC;clear hC;have N3:=Lib.hid hQ;clear hQ;have qg:=Lib.hid hl;clear hl;have p6:=Lib.hid hN;clear hN;have aq0:=Lib.hid QU;clear QU;have aos:=Lib.hid hdn;clear hdn;have hE:=(Env.start w).blk 80 (x.Q G N cap) (g:=w.heap.size) rfl;have hE:=hE.blk 29 aY (g:=w.heap.size+1) (by simp)
 obtain⟨W0,aC⟩:∃W0,W0=((w.alloc (.cells (x.Q G N cap) 80)).alloc (.cells aY 29)):=⟨_,rfl⟩
 rw[<-aC] at hE;have aU:=Lib.hid aC;clear aC
 go_enter Tryz.func62,Tryz.ntmps62
 go_upto_region 1 with(fail)
 rw[<-aU.out];go_wp2_with fail
 refine hE.fr (aR 0 _ (by decide) (by decide)) ?_;clear hE;intro sz Az nz cz tz Bz mz dz w1 hE
 go_upto_region 2 with(fail)
 obtain⟨g2,yp⟩:∃g2,g2=w1.heap.size:=⟨_,rfl⟩
 have MA:w.heap.size<g2:=by rw[yp];exact(hE.h2).lt
 have Wx:w.heap.size+1<g2:=by rw[yp];exact(hE.here.1.2).lt
 replace hE:=hE.blk 29 (az sz Az nz cz tz Bz mz dz) (g:=g2) yp.symm;generalize w1.alloc (.cells (az sz Az nz cz tz Bz mz dz) 29)=W2 at hE⊢;rw[<-yp];clear yp;go_wp2_with fail
 have dS:w.heap.size+1<g2:=by omega
 go_loopw [10] (fun p wr=>∃(k:Nat) (sz:Bool) (Az:Option Addr) (nz cz:Nat) (tz:Bool) (Bz:Option Addr) (mz dz:Nat),t<=k/\k<=N/\p= .int .i64 (k:Int)/\Env w (fun V=>((((True/\ak 80 (w.heap.size) (x.Q G N cap) V)/\ak 29 (w.heap.size+1) aY V)/\FV V (sf (yr v f L U) k t) sz Az nz tz Bz mz)/\ak 29 (g2) (az sz Az nz cz tz Bz mz dz) V)) wr) (fun p _=>N-(intOf p).toNat)
 case atStart=>
  refine⟨t,sz,Az,nz,cz,tz,Bz,mz,dz,Nat.le_refl _,Nat.le_of_lt ht,rfl, ?_⟩;rw[fF _ (Nat.le_refl t)];exact(((((Env.again hE.av).af (hE.h3)).af (hE.h2)).fv (hE.here.1.2)).af (hE.here.2))
 case round=>
  clear hE;obtain⟨k,sz,Az,nz,cz,tz,Bz,mz,dz,htk,hkN,rfl,hE⟩:=hrel
  by_cases hlt:k<N
  ·
   have t1:decide ((k:Int)<(N:Int))=true:=decide_eq_true (by omega)
   have t2:(k:Int)<(N:Int):=by omega
   have k3:=(hE.h3).cell 9
   go_upto_region 5 with(fail)
   clear k3;clear t1;replace hE:=hE.eW (bR.below Il.out hE.av);have Cj:sf (yr v f L U) (k+1) t=sf (yr v f L U) k t+yr v f L U k:=ag2 _ t htk;have HS2:=Lib.hid Cj;clear Cj;replace hE:=hE.drew;refine wp_region_held_drew (S:=fun V=>ak 80 (w.heap.size) (x.Q G N cap) V/\fE G N cap h V) (by kernel_rfl) (⟨hE.h4,hE.here.2⟩) (fun hHeld=> ?_)
   generalize wr.drew=wd at*
   refine tk 1 ?_;refine tk 2 ?_
   refine tk 3 ?_ (hy:=by
    intro w ay;have Rt:=(ay.1).cell 9;clear ay
    first|(go_simp;done)|(go_simp;with_reducible rfl))
   try simp only[PL]
   refine tk 4 ?_;refine tk 5 ?_;refine wpAnyH_take (i:=6) (v:= .agg (eM (h k)).toArray) rfl (by kernel_rfl) (by kernel_rfl) (by kernel_rfl) (fun _ _ _ h=>h) (Or.inl ⟨by rfl, ?VE⟩) (by assumption) ?acO
   case VE=>
    intro w ay;exact gC (p:= .pointer (some ⟨G,k*24,none⟩)) (PJ (ay.2) hlt) rfl rfl
   try simp only[PL]
   refine tk 7 ?_;refine tk 8 ?_;refine wpAnyH_ready (rs:=[0,9]) (by kernel_rfl) (by simp) (AllReadyH.cons rfl (fun K hK=> ?_) (AllReadyH.cons rfl (fun K hK=> ?_) (AllReadyH.nil)))
   ·
    obtain⟨k4,k5,k6,k7⟩:=(hE.here.1.2).c4;go_simp;clear k4 k5 k6 k7;refine hK.out _ _ (⟨hE.h4,hE.here.2⟩) (fun hHeld=> ?_);clear hK K;try simp only[PL]
    refine r1 9 (fun K hK=> ?_);go_simp;have hc:=IA (x:=h k) (q0:=dd v f k) (q3:=cc v f k) (bH.stable _ _ _ _ _ _ hE.av N3.out k hlt 0 (by decide) trivial) (bH.stable _ _ _ _ _ _ hE.av N3.out k hlt 3 (by decide) trivial) (ahI.out.below hE.av) (ahJ.out.below hE.av) k (Nat.le_of_lt hlt) (qg.out.l k hlt) (qg.out.k k hlt) (qg.out.d k hlt) (qg.out.c k hlt) (qg.out.ld k hlt) (qg.out.kc k hlt) (qg.out.y k hlt);change Calls _ _ _ _ (FR (yr v f L U k) _) at hc;refine hE.fr (hc) ?_;clear hE;intro sy Ay ny cy ty By my dy w8 hE;clear hc;go_wp2_with fail
    refine hK.out _ _ (⟨hE.h5,hE.here.1.2⟩) (fun hHeld=> ?_);clear hK K;try simp only[PL]
    refine r1 10 (fun K hK=> ?_);go_simp;have hc:=zw (ca:=cz) (da:=dz) (cb:=cy) (db:=dy) hE.h3 hE.here.2 (qg.out.s t k (Nat.le_of_lt hlt)) (qg.out.y k hlt) (by rw[<-HS2.out];exact qg.out.s t (k+1) hlt);rw[<-HS2.out] at hc;refine hE.fr (hc) ?_;clear hE;intro su Au nu cu tu Bu mu du w9 hE;clear hc;go_wp2_with fail
    refine hK.out _ _ (⟨hE.h6,hE.h2⟩) (fun hHeld=> ?_);clear hK K;try simp only[PL]
    refine r1 11 (fun K hK=> ?_)
    have mF:w.heap.size<=g2:=by omega
    obtain⟨tQ,tR,AY,AZ⟩:=(hE.h3).c4;obtain⟨tS,tT,Bk,BA⟩:=hE.h3.f4;replace hE:=((((((((Env.again (ck hE.av mF (.bool su) (.slice Au nu cu) (.bool tu) (.slice Bu mu du))).af ((hE.h6).ai (by omega) _ _ _ _)).af ((hE.h5).ai (by omega) _ _ _ _)).fv ((hE.h4).aq hE.h3 rfl _ _ _ _ rfl rfl rfl)).af ((hE.h3).s4 _ _ _ _)).eW (bR.below Il.out (ck hE.av (by omega) _ _ _ _))).fv ((hE.here.1.2).aq hE.h3 rfl _ _ _ _ rfl rfl rfl)).fv ((hE.here.2).aq hE.h3 rfl _ _ _ _ rfl rfl rfl));go_simp;clear tQ tR AY AZ tS tT Bk BA mF;generalize ((((w9.setCell ⟨g2,0,none⟩ (.bool su)).setCell ⟨g2,1,none⟩ (.slice Au nu cu)).setCell ⟨g2,2,none⟩ (.bool tu)).setCell ⟨g2,3,none⟩ (.slice Bu mu du))=uV at hE⊢;refine hK.out _ _ (⟨hE.h6,hE.h2⟩) (fun hHeld=> ?_);clear hK K;try simp only[PL]
    refine wpAnyH_done (by kernel_rfl) ?_ _;go_wp2_with fail
    go_roundw
    case rel=>exact⟨k+1,_,_,_,_,_,_,_,_,by omega,by omega,by(try simp)<;>norm_cast,(((((Env.again hE.av).af (hE.h6)).af (hE.h5)).fv (hE.here.2)).af (hE.h3))⟩
    case measure=>simp[intOf];omega
   ·
    go_simp;have hc:=IA (x:=h k) (q0:=dd v f k) (q3:=cc v f k) (bH.stable _ _ _ _ _ _ hE.av N3.out k hlt 0 (by decide) trivial) (bH.stable _ _ _ _ _ _ hE.av N3.out k hlt 3 (by decide) trivial) (ahI.out.below hE.av) (ahJ.out.below hE.av) k (Nat.le_of_lt hlt) (qg.out.l k hlt) (qg.out.k k hlt) (qg.out.d k hlt) (qg.out.c k hlt) (qg.out.ld k hlt) (qg.out.kc k hlt) (qg.out.y k hlt);change Calls _ _ _ _ (FR (yr v f L U k) _) at hc;refine hE.fr (hc) ?_;clear hE;intro sy Ay ny cy ty By my dy zY hE;clear hc;go_wp2_with fail
    refine hK.out _ _ (⟨hE.h5,hE.here.1.2⟩) (fun hHeld=> ?_);clear hK K;try simp only[PL]
    refine r1 0 (fun K hK=> ?_);obtain⟨cZ,dG,dN,fP⟩:=(hE.h2).c4;go_simp;clear cZ dG dN fP;refine hK.out _ _ (⟨hE.h5,hE.here.1.2⟩) (fun hHeld=> ?_);clear hK K;try simp only[PL]
    refine r1 10 (fun K hK=> ?_);go_simp;have hc:=zw (ca:=cz) (da:=dz) (cb:=cy) (db:=dy) hE.h3 hE.here.2 (qg.out.s t k (Nat.le_of_lt hlt)) (qg.out.y k hlt) (by rw[<-HS2.out];exact qg.out.s t (k+1) hlt);rw[<-HS2.out] at hc;refine hE.fr (hc) ?_;clear hE;intro su Au nu cu tu Bu mu du EC hE;clear hc;go_wp2_with fail
    refine hK.out _ _ (⟨hE.h6,hE.h2⟩) (fun hHeld=> ?_);clear hK K;try simp only[PL]
    refine r1 11 (fun K hK=> ?_)
    have rF:w.heap.size<=g2:=by omega
    obtain⟨BS,je,BU,jf⟩:=(hE.h3).c4;obtain⟨BV,BW,BX,BZ⟩:=hE.h3.f4;replace hE:=((((((((Env.again (ck hE.av rF (.bool su) (.slice Au nu cu) (.bool tu) (.slice Bu mu du))).af ((hE.h6).ai (by omega) _ _ _ _)).af ((hE.h5).ai (by omega) _ _ _ _)).fv ((hE.h4).aq hE.h3 rfl _ _ _ _ rfl rfl rfl)).af ((hE.h3).s4 _ _ _ _)).eW (bR.below Il.out (ck hE.av (by omega) _ _ _ _))).fv ((hE.here.1.2).aq hE.h3 rfl _ _ _ _ rfl rfl rfl)).fv ((hE.here.2).aq hE.h3 rfl _ _ _ _ rfl rfl rfl));go_simp;clear BS je BU jf BV BW BX BZ rF;generalize ((((EC.setCell ⟨g2,0,none⟩ (.bool su)).setCell ⟨g2,1,none⟩ (.slice Au nu cu)).setCell ⟨g2,2,none⟩ (.bool tu)).setCell ⟨g2,3,none⟩ (.slice Bu mu du))=Wu at hE⊢;refine hK.out _ _ (⟨hE.h6,hE.h2⟩) (fun hHeld=> ?_);clear hK K;try simp only[PL]
    refine wpAnyH_done (by kernel_rfl) ?_ _;go_wp2_with fail
    go_roundw
    case rel=>exact⟨k+1,_,_,_,_,_,_,_,_,by omega,by omega,by(try simp)<;>norm_cast,(((((Env.again hE.av).af (hE.h6)).af (hE.h5)).fv (hE.here.2)).af (hE.h3))⟩
    case measure=>simp[intOf];omega
  ·
   have eN:N=k:=by omega
   subst eN;have t1:decide ((N:Int)<(N:Int))=false:=decide_eq_false (by omega)
   have t2:¬(N:Int)<(N:Int):=by omega
   have jx:=(hE.h3).cell 9
   go_upto_region 6 with(fail)
   clear jx;clear t1 t2;replace hE:=hE.fv (show FV wr (dd v f t) (h t 0).s (h t 0).A (h t 0).n (h t 0).t (h t 0).B (h t 0).m from bH.stable _ _ _ _ _ _ hE.av N3.out t ht 0 (by decide) trivial);replace hE:=hE.bg (b:=G) (o:=t*24) (v:= .bool (h t 0).s) ⟨bR.lt (bR.below Il.out hE.av),fE.nN (bR.below Il.out hE.av) (j:=0) (i:=0) ht (by decide) (by decide) (by omega) rfl⟩;replace hE:=hE.bg (b:=G) (o:=t*24+1) (v:= .slice (h t 0).A (h t 0).n (h t 0).c) ⟨bR.lt (bR.below Il.out hE.av),fE.nN (bR.below Il.out hE.av) (j:=0) (i:=1) ht (by decide) (by decide) (by omega) rfl⟩;replace hE:=hE.bg (b:=G) (o:=t*24+2) (v:= .bool (h t 0).t) ⟨bR.lt (bR.below Il.out hE.av),fE.nN (bR.below Il.out hE.av) (j:=0) (i:=2) ht (by decide) (by decide) (by omega) rfl⟩;replace hE:=hE.bg (b:=G) (o:=t*24+3) (v:= .slice (h t 0).B (h t 0).m (h t 0).d) ⟨bR.lt (bR.below Il.out hE.av),fE.nN (bR.below Il.out hE.av) (j:=0) (i:=3) ht (by decide) (by decide) (by omega) rfl⟩;have aq1:G<w.heap.size:=bR.lt Il.out;replace hE:=hE.drew;refine wp_region_held_drew (S:=fun V=>ak 80 (w.heap.size) (x.Q G N cap) V/\ak 29 (g2) (az sz Az nz cz tz Bz mz dz) V/\At G (t*24) (.bool (h t 0).s) V/\At G (t*24+1) (.slice (h t 0).A (h t 0).n (h t 0).c) V/\At G (t*24+2) (.bool (h t 0).t) V/\At G (t*24+3) (.slice (h t 0).B (h t 0).m (h t 0).d) V) (by kernel_rfl) (⟨hE.h8,hE.h5,hE.h3,hE.h2,hE.here.1.2,hE.here.2⟩) (fun hHeld=> ?_)
   generalize wr.drew=wd at*
   refine tk 0 ?_ (hy:=by
    intro w ay;have iM:=(ay.2.1).cell 0;have iP:=(ay.2.1).cell 1;have jb:=(ay.2.1).cell 2;have jc:=(ay.2.1).cell 3;clear ay
    first|(go_simp;done)|(go_simp;with_reducible rfl))
   try simp only[PL]
   refine tk 1 ?_
   refine tk 2 ?_ (hy:=by
    intro w ay;have Rt:=(ay.1).cell 9;clear ay
    first|(go_simp;done)|(go_simp;with_reducible rfl))
   try simp only[PL]
   refine tk 3 ?_;refine tk 4 ?_;refine tk 5 ?_
   refine tk 6 ?_ (hy:=by
    intro w ay;have iM:=(ay.2.2.1).2;have iP:=(ay.2.2.2.1).2;have jb:=(ay.2.2.2.2.1).2;have jc:=(ay.2.2.2.2.2).2;clear ay
    first|(go_simp;done)|(go_simp;with_reducible rfl))
   try simp only[PL]
   refine r1 7 (fun K hK=> ?_);go_simp;have hc:=U7 (ca:=cz) (da:=dz) (cb:=(h t 0).c) (db:=(h t 0).d) hE.h6 hE.h4 (qg.out.s t N (Nat.le_refl _)) (qg.out.d t ht) aos.out (qg.out.a t);change Calls _ _ _ _ (FR (va v f N L U t) _) at hc;refine hE.fr (hc) ?_;clear hE;intro sr Ar nr cr tr Br mr dr w19 hE;clear hc;go_wp2_with fail
   refine hK.out _ _ (⟨hE.h9,hE.h6,hE.h4,hE.h3,hE.h2,hE.here.1.2⟩) (fun hHeld=> ?_);clear hK K;try simp only[PL]
   refine r1 8 (fun K hK=> ?_)
   have cA:w.heap.size<=w.heap.size+1:=by omega
   obtain⟨WW,bn,hB,hV,aQ⟩:=aO hE hE.h8 cA hE.here.2 cr dr;obtain⟨x0,x1,x2,x3⟩:=(hE.h8).c4;obtain⟨fQ,fR,gJ,gK⟩:=hE.h8.f4;have bJ:=Lib.hid bn;clear bn;go_simp;rw[<-bJ.out];refine hK.out _ _ (by rw[bJ.out];exact⟨(hE.h9).ai (R:=w.heap.size+1) (by omega) (.bool sr) (.slice Ar nr cr) (.bool tr) (.slice Br mr dr),(hE.h6).ai (R:=w.heap.size+1) (by omega) (.bool sr) (.slice Ar nr cr) (.bool tr) (.slice Br mr dr),(hE.h4).ai (R:=w.heap.size+1) (by omega) (.bool sr) (.slice Ar nr cr) (.bool tr) (.slice Br mr dr),(hE.h3).ai (R:=w.heap.size+1) (by omega) (.bool sr) (.slice Ar nr cr) (.bool tr) (.slice Br mr dr),(hE.h2).ai (R:=w.heap.size+1) (by omega) (.bool sr) (.slice Ar nr cr) (.bool tr) (.slice Br mr dr),(hE.here.1.2).ai (R:=w.heap.size+1) (by omega) (.bool sr) (.slice Ar nr cr) (.bool tr) (.slice Br mr dr)⟩) (fun hHeld=> ?_);clear hK K;try simp only[PL]
   refine wpAnyH_done (by kernel_rfl) ?_ _;go_wp2_with fail
   obtain⟨y0,y1,y2,y3⟩:=hB.c4;refine bodyPost_ret (v:= .agg (az sr Ar nr cr tr Br mr dr)) (by simp[results,Tryz.results62,go_sem,y0,y1,y2,y3]) rfl ?_;exact⟨sr,Ar,nr,cr,tr,Br,mr,dr,rfl,hV,aQ⟩
end Go.Proofs.YtclbiihcbfnjmaaGreat
