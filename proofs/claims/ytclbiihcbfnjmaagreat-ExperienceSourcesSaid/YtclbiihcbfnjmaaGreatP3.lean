/-
  Parts.
-/
import Derived.Test.YtclbiihcbfnjmaaGreatK21
set_option linter.unusedSimpArgs false
set_option maxRecDepth 100000
set_option maxHeartbeats 8000000
namespace Go.Proofs.YtclbiihcbfnjmaaGreat
open Go.RowKit

theorem Kt {L U:Nat->Rat}{p1 p2:Value}{N:Nat}{x:Nat->Q8}{q0 q3:Rat}{w:World}(hx0:(x 0).fv w q0)(hx3:(x 3).fv w q3)(DL:kS p1 L N w)(Ke:kS p2 U N w)(k:Nat)(hk:k<=N)(l1:fl (L k)<=256)(l2:fl (U k)<=256)(l3:fl q0<=256)(l4:fl q3<=256)(l5:fl (L k*q0)<=256)(l6:fl (U k*q3)<=256)(l7:fl (L k*q0+U k*q3)<=256):
  Calls Tryz.prog 66 #[.int .i64 (k:Int),.agg (fP x).toArray,p1,p2] w (FR (L k*q0+U k*q3) w):=by
 obtain⟨f1,c1,rfl,eg1,qM⟩:=DL;obtain⟨f2,c2,rfl,eg2,oW⟩:=Ke;have OD:=af qM;clear qM;have aeh:=af oW;clear oW;have hE:=((((Env.start w).fv hx0).fv hx3).blk 98 (fP x).toArray (g:=w.heap.size) rfl).blk 29 aW (g:=w.heap.size+1) (by simp)
 obtain⟨W0,aC⟩:∃W0,W0=(w.alloc (.cells (fP x).toArray 98)).alloc (.cells aW 29):=⟨_,rfl⟩
 rw[<-aC] at hE;have aZ:=af aC;clear aC
 go_enter Tryz.func66,Tryz.ntmps66
 go_upto_region 1 with(fail)
 rw[<-aZ.out];replace hE:=hE.bO (b:=w.heap.size) (o:=0) (v:= .bool (x 0).s) ⟨(hE.g1).lt,(hE.g1).col (j:=0) (i:=0) (by decide) (by decide) rfl rfl⟩;replace hE:=hE.bO (b:=w.heap.size) (o:=1) (v:= .slice (x 0).A (x 0).n (x 0).c) ⟨(hE.h2).lt,(hE.h2).col (j:=0) (i:=1) (by decide) (by decide) rfl rfl⟩;replace hE:=hE.bO (b:=w.heap.size) (o:=2) (v:= .bool (x 0).t) ⟨(hE.h3).lt,(hE.h3).col (j:=0) (i:=2) (by decide) (by decide) rfl rfl⟩;replace hE:=hE.bO (b:=w.heap.size) (o:=3) (v:= .slice (x 0).B (x 0).m (x 0).d) ⟨(hE.h4).lt,(hE.h4).col (j:=0) (i:=3) (by decide) (by decide) rfl rfl⟩;replace hE:=hE.bO (b:=w.heap.size) (o:=12) (v:= .bool (x 3).s) ⟨(hE.h5).lt,(hE.h5).col (j:=3) (i:=0) (by decide) (by decide) rfl rfl⟩;replace hE:=hE.bO (b:=w.heap.size) (o:=13) (v:= .slice (x 3).A (x 3).n (x 3).c) ⟨(hE.h6).lt,(hE.h6).col (j:=3) (i:=1) (by decide) (by decide) rfl rfl⟩;replace hE:=hE.bO (b:=w.heap.size) (o:=14) (v:= .bool (x 3).t) ⟨(hE.h7).lt,(hE.h7).col (j:=3) (i:=2) (by decide) (by decide) rfl rfl⟩;replace hE:=hE.bO (b:=w.heap.size) (o:=15) (v:= .slice (x 3).B (x 3).m (x 3).d) ⟨(hE.h8).lt,(hE.h8).col (j:=3) (i:=3) (by decide) (by decide) rfl rfl⟩;replace hE:=hE.drew;refine bH (S:=fun w'=>w'.cell? ⟨w.heap.size,0,none⟩=some (.bool (x 0).s)/\w'.cell? ⟨w.heap.size,1,none⟩=some (.slice (x 0).A (x 0).n (x 0).c)/\w'.cell? ⟨w.heap.size,2,none⟩=some (.bool (x 0).t)/\w'.cell? ⟨w.heap.size,3,none⟩=some (.slice (x 0).B (x 0).m (x 0).d)/\w'.cell? ⟨w.heap.size,12,none⟩=some (.bool (x 3).s)/\w'.cell? ⟨w.heap.size,13,none⟩=some (.slice (x 3).A (x 3).n (x 3).c)/\w'.cell? ⟨w.heap.size,14,none⟩=some (.bool (x 3).t)/\w'.cell? ⟨w.heap.size,15,none⟩=some (.slice (x 3).B (x 3).m (x 3).d)) (by kernel_rfl) (⟨(hE.h7).2,(hE.h6).2,(hE.h5).2,(hE.h4).2,(hE.h3).2,(hE.h2).2,(hE.g1).2,(hE.g0).2⟩) (fun hHeld=> ?_);refine tk 0 ?_;refine tk 1 ?_;refine tk 3 ?_;refine tk 4 ?_;refine tk 6 ?_;refine tk 7 ?_;refine tk 9 ?_;refine tk 10 ?_;refine r1 2 (fun K hK=> ?_);go_simp;refine hE.fr (OD.out _ hE.ax k hk) ?_;clear hE;intro sa Aa na ca ta Ba ma da w1 hE;go_wp2_with fail
 refine hK.out _ _ (⟨(hE.h8).2,(hE.h7).2,(hE.h6).2,(hE.h5).2,(hE.h4).2,(hE.h3).2,(hE.h2).2,(hE.g1).2⟩) (fun hHeld=> ?_);clear hK K;try simp only[PL]
 refine r1 5 (fun K hK=> ?_);go_simp;refine hE.fr (ES (ca:=ca) (da:=da) (cb:=(x 0).c) (db:=(x 0).d) hE.g0 hE.h12 l1 l3 l5) ?_;clear hE;intro sp Ap np cp tp Bp mp dp w2 hE;go_wp2_with fail
 refine hK.out _ _ (⟨(hE.h9).2,(hE.h8).2,(hE.h7).2,(hE.h6).2,(hE.h5).2,(hE.h4).2,(hE.h3).2,(hE.h2).2⟩) (fun hHeld=> ?_);clear hK K;try simp only[PL]
 refine r1 8 (fun K hK=> ?_);go_simp;refine hE.fr (aeh.out _ hE.ax k hk) ?_;clear hE;intro sb Ab nb cb tb Bb mb db w3 hE;go_wp2_with fail
 refine hK.out _ _ (⟨(hE.h10).2,(hE.h9).2,(hE.h8).2,(hE.h7).2,(hE.h6).2,(hE.h5).2,(hE.h4).2,(hE.h3).2⟩) (fun hHeld=> ?_);clear hK K;try simp only[PL]
 refine r1 11 (fun K hK=> ?_);go_simp;refine hE.fr (ES (ca:=cb) (da:=db) (cb:=(x 3).c) (db:=(x 3).d) hE.g0 hE.dN l2 l4 l6) ?_;clear hE;intro sq Aq nq cq tq Bq mq dq w4 hE;go_wp2_with fail
 refine hK.out _ _ (⟨(hE.h11).2,(hE.h10).2,(hE.h9).2,(hE.h8).2,(hE.h7).2,(hE.h6).2,(hE.h5).2,(hE.h4).2⟩) (fun hHeld=> ?_);clear hK K;try simp only[PL]
 refine r1 12 (fun K hK=> ?_);go_simp;refine hE.fr (BZ (ca:=cp) (da:=dp) (cb:=cq) (db:=dq) hE.h2 hE.g0 l5 l6 l7) ?_;clear hE;intro sr Ar nr cr tr Br mr dr w5 hE;go_wp2_with fail
 refine hK.out _ _ (⟨(hE.h12).2,(hE.h11).2,(hE.h10).2,(hE.h9).2,(hE.h8).2,(hE.h7).2,(hE.h6).2,(hE.h5).2⟩) (fun hHeld=> ?_);clear hK K;try simp only[PL]
 refine r1 13 (fun K hK=> ?_)
 have cS:w.heap.size<=w.heap.size+1:=by omega
 obtain⟨WW,bn,hB,hV,aM⟩:=aR hE hE.dN cS hE.g0 cr dr;obtain⟨x0,x1,x2,x3⟩:=(hE.dN).c4;obtain⟨fL,fM,fV,fW⟩:=hE.dN.f4;have bR:=af bn;clear bn;have q6:=(hE.h12).aj (R:=w.heap.size+1) (by omega) (.bool sr) (.slice Ar nr cr) (.bool tr) (.slice Br mr dr);rw[<-bR.out] at q6;have q7:=(hE.h11).aj (R:=w.heap.size+1) (by omega) (.bool sr) (.slice Ar nr cr) (.bool tr) (.slice Br mr dr);rw[<-bR.out] at q7;have q8:=(hE.h10).aj (R:=w.heap.size+1) (by omega) (.bool sr) (.slice Ar nr cr) (.bool tr) (.slice Br mr dr);rw[<-bR.out] at q8;have q9:=(hE.h9).aj (R:=w.heap.size+1) (by omega) (.bool sr) (.slice Ar nr cr) (.bool tr) (.slice Br mr dr);rw[<-bR.out] at q9;have q10:=(hE.h8).aj (R:=w.heap.size+1) (by omega) (.bool sr) (.slice Ar nr cr) (.bool tr) (.slice Br mr dr);rw[<-bR.out] at q10;have WU:=(hE.h7).aj (R:=w.heap.size+1) (by omega) (.bool sr) (.slice Ar nr cr) (.bool tr) (.slice Br mr dr);rw[<-bR.out] at WU;have q12:=(hE.h6).aj (R:=w.heap.size+1) (by omega) (.bool sr) (.slice Ar nr cr) (.bool tr) (.slice Br mr dr);rw[<-bR.out] at q12;have q13:=(hE.h5).aj (R:=w.heap.size+1) (by omega) (.bool sr) (.slice Ar nr cr) (.bool tr) (.slice Br mr dr);rw[<-bR.out] at q13;go_simp;rw[<-bR.out];refine hK.out _ _ (⟨(q6).2,(q7).2,(q8).2,(q9).2,(q10).2,(WU).2,(q12).2,(q13).2⟩) (fun hHeld=> ?_);clear hK K;try simp only[PL]
 refine aX (by kernel_rfl) ?_ _;go_wp2_with fail
 obtain⟨y0,y1,y2,y3⟩:=hB.c4;refine aK (v:= .agg (az sr Ar nr cr tr Br mr dr)) (by simp[results,Tryz.results66,go_sem,y0,y1,y2,y3]) rfl ?_;exact⟨sr,Ar,nr,cr,tr,Br,mr,dr,rfl,hV,aM⟩
theorem SR {x:Ct}{G N cap:Nat}{h:Nat->Nat->Q8}{v:Rat}{f L U:Nat->Rat}{p1 p2:Value}{w:World}(hC:gO G N cap h w)(hQ:cK h N (fun _ _=>True) (bP v f N) w)(hN:lT v f N)(lZ:N<=80)(DL:kS p1 L N w)(Ke:kS p2 U N w)(hl:ad5 v f L U N)(t:Nat)(ht:t<N):
  Calls Tryz.prog 62 #[.agg (x.Q G N cap),.int .i64 (t:Int),p1,p2] w (FR (va v f N L U t) w):=by
 obtain⟨f1,c1,rfl,eg1,qM⟩:=DL;obtain⟨f2,c2,rfl,eg2,oW⟩:=Ke;have DL:kS (.func (.func f1) #[] c1) L N w:=⟨f1,c1,rfl,eg1,qM⟩;have Ke:kS (.func (.func f2) #[] c2) U N w:=⟨f2,c2,rfl,eg2,oW⟩;clear eg1 eg2 qM oW;have TN:dd v f t≠0:=hN.2 t ht
 have hdn:(dd v f t).num≠0:=fun h=>TN (Rat.num_eq_zero.1 h)
 have ajY:=af DL;clear DL;have ajZ:=af Ke;clear Ke;have Kf:=af hC;clear hC;have HhQ:=af hQ;clear hQ;have qK:=af hl;clear hl;have rV:=af hN;clear hN;have as3:=af TN;clear TN;have aqo:=af hdn;clear hdn;have hE:=(Env.start w).blk 80 (x.Q G N cap) (g:=w.heap.size) rfl;have hE:=hE.blk 29 aW (g:=w.heap.size+1) (by simp)
 obtain⟨W0,aC⟩:∃W0,W0=((w.alloc (.cells (x.Q G N cap) 80)).alloc (.cells aW 29)):=⟨_,rfl⟩
 rw[<-aC] at hE;have aZ:=af aC;clear aC
 go_enter Tryz.func62,Tryz.ntmps62
 go_upto_region 1 with(fail)
 rw[<-aZ.out];go_wp2_with fail
 refine hE.fr (bg 0 _ (by decide) (by decide)) ?_;clear hE;intro sz Az nz cz tz Bz mz dz w1 hE
 go_upto_region 2 with(fail)
 obtain⟨g2,zX⟩:∃g2,g2=w1.heap.size:=⟨_,rfl⟩
 have OI:w.heap.size<g2:=by rw[zX];exact(hE.h2).lt
 have ZJ:w.heap.size+1<g2:=by rw[zX];exact(hE.g1).lt
 replace hE:=hE.blk 29 (az sz Az nz cz tz Bz mz dz) (g:=g2) zX.symm;generalize w1.alloc (.cells (az sz Az nz cz tz Bz mz dz) 29)=W2 at hE⊢;rw[<-zX];clear zX;go_wp2_with fail
 have eW:w.heap.size+1<g2:=by omega
 go_loopw [10] (fun p wr=>∃(k:Nat) (sz:Bool) (Az:Option Addr) (nz cz:Nat) (tz:Bool) (Bz:Option Addr) (mz dz:Nat),t<=k/\k<=N/\p= .int .i64 (k:Int)/\Env w (fun V=>((((True/\au 80 (w.heap.size) (x.Q G N cap) V)/\au 29 (w.heap.size+1) aW V)/\FV V (sf (yr v f L U) k t) sz Az nz tz Bz mz)/\au 29 (g2) (az sz Az nz cz tz Bz mz dz) V)) wr) (fun p _=>N-(intOf p).toNat)
 case atStart=>
  refine⟨t,sz,Az,nz,cz,tz,Bz,mz,dz,aq _,bG ht,rfl, ?_⟩;rw[gP _ (aq t)];exact(((((Env.again hE.ax).ag (hE.h3)).ag (hE.h2)).fv (hE.g1)).ag (hE.g0))
 case round=>
  clear hE;obtain⟨k,sz,Az,nz,cz,tz,Bz,mz,dz,htk,hkN,rfl,hE⟩:=hrel
  by_cases hlt:k<N
  ·
   have t1:decide ((k:Int)<(N:Int))=true:=aL (by omega)
   have t2:(k:Int)<(N:Int):=by omega
   have k3:=(hE.h3).cell 9
   go_upto_region 5 with(fail)
   clear k3;clear t1;replace hE:=hE.fZ (cW.below Kf.out hE.ax);have PY:sf (yr v f L U) (k+1) t=sf (yr v f L U) k t+yr v f L U k:=ajh _ t htk;have HS2:=af PY;clear PY;replace hE:=hE.drew;refine bH (S:=fun V=>au 80 (w.heap.size) (x.Q G N cap) V/\gO G N cap h V) (by kernel_rfl) (⟨hE.h4,hE.g0⟩) (fun hHeld=> ?_)
   generalize wr.drew=wd at*
   refine tk 1 ?_;refine tk 2 ?_
   refine tk 3 ?_ (hy:=by
    intro w aG;have kc9:=(aG.1).cell 9;clear aG
    first|(go_simp;done)|(go_simp;with_reducible rfl))
   try simp only[PL]
   refine tk 4 ?_;refine tk 5 ?_;refine wpAnyH_take (i:=6) (v:= .agg (fP (h k)).toArray) rfl (by kernel_rfl) (by kernel_rfl) (by kernel_rfl) (fun _ _ _ h=>h) (Or.inl ⟨by rfl, ?YQ⟩) (by assumption) ?afy
   case YQ=>
    intro w aG;exact JI (p:= .pointer (some ⟨G,k*24,none⟩)) (SH (aG.2) hlt) rfl rfl
   try simp only[PL]
   refine tk 7 ?_;refine tk 8 ?_;refine cC (rs:=[0,9]) (by kernel_rfl) (by simp) (bq rfl (fun K hK=> ?_) (bq rfl (fun K hK=> ?_) (cD)))
   ·
    obtain⟨k4,k5,k6,k7⟩:=(hE.g1).c4;go_simp;clear k4 k5 k6 k7;refine hK.out _ _ (⟨hE.h4,hE.g0⟩) (fun hHeld=> ?_);clear hK K;try simp only[PL]
    refine r1 9 (fun K hK=> ?_);go_simp;have hc:=Kt (x:=h k) (q0:=dd v f k) (q3:=cc v f k) (cK.stable _ _ _ _ _ _ hE.ax HhQ.out k hlt 0 (by decide) trivial) (cK.stable _ _ _ _ _ _ hE.ax HhQ.out k hlt 3 (by decide) trivial) (ajY.out.below hE.ax) (ajZ.out.below hE.ax) k (bG hlt) (qK.out.l k hlt) (qK.out.k k hlt) (qK.out.d k hlt) (qK.out.c k hlt) (qK.out.ld k hlt) (qK.out.kc k hlt) (qK.out.y k hlt);change Calls _ _ _ _ (FR (yr v f L U k) _) at hc;refine hE.fr (hc) ?_;clear hE;intro sy Ay ny cy ty By my dy w8 hE;clear hc;go_wp2_with fail
    refine hK.out _ _ (⟨hE.h5,hE.g1⟩) (fun hHeld=> ?_);clear hK K;try simp only[PL]
    refine r1 10 (fun K hK=> ?_);go_simp;have hc:=BZ (ca:=cz) (da:=dz) (cb:=cy) (db:=dy) hE.h3 hE.g0 (qK.out.s t k (bG hlt)) (qK.out.y k hlt) (by rw[<-HS2.out];exact qK.out.s t (k+1) hlt);rw[<-HS2.out] at hc;refine hE.fr (hc) ?_;clear hE;intro su Au nu cu tu Bu mu du w9 hE;clear hc;go_wp2_with fail
    refine hK.out _ _ (⟨hE.h6,hE.h2⟩) (fun hHeld=> ?_);clear hK K;try simp only[PL]
    refine r1 11 (fun K hK=> ?_)
    have tH:w.heap.size<=g2:=by omega
    obtain⟨CW,CX,OJ,OK⟩:=(hE.h3).c4;obtain⟨CY,CZ,OL,OM⟩:=hE.h3.f4;replace hE:=((((((((Env.again (bW hE.ax tH (.bool su) (.slice Au nu cu) (.bool tu) (.slice Bu mu du))).ag ((hE.h6).aj (by omega) _ _ _ _)).ag ((hE.h5).aj (by omega) _ _ _ _)).fv ((hE.h4).ak hE.h3 rfl _ _ _ _ rfl rfl rfl)).ag ((hE.h3).s4 _ _ _ _)).fZ (cW.below Kf.out (bW hE.ax (by omega) _ _ _ _))).fv ((hE.g1).ak hE.h3 rfl _ _ _ _ rfl rfl rfl)).fv ((hE.g0).ak hE.h3 rfl _ _ _ _ rfl rfl rfl));go_simp;clear CW CX OJ OK CY CZ OL OM tH;generalize ((((w9.setCell ⟨g2,0,none⟩ (.bool su)).setCell ⟨g2,1,none⟩ (.slice Au nu cu)).setCell ⟨g2,2,none⟩ (.bool tu)).setCell ⟨g2,3,none⟩ (.slice Bu mu du))=xQ at hE⊢;refine hK.out _ _ (⟨hE.h6,hE.h2⟩) (fun hHeld=> ?_);clear hK K;try simp only[PL]
    refine aX (by kernel_rfl) ?_ _;go_wp2_with fail
    go_roundw
    case rel=>exact⟨k+1,_,_,_,_,_,_,_,_,by omega,by omega,by(try simp)<;>norm_cast,(((((Env.again hE.ax).ag (hE.h6)).ag (hE.h5)).fv (hE.g0)).ag (hE.h3))⟩
    case measure=>simp[intOf];omega
   ·
    go_simp;have hc:=Kt (x:=h k) (q0:=dd v f k) (q3:=cc v f k) (cK.stable _ _ _ _ _ _ hE.ax HhQ.out k hlt 0 (by decide) trivial) (cK.stable _ _ _ _ _ _ hE.ax HhQ.out k hlt 3 (by decide) trivial) (ajY.out.below hE.ax) (ajZ.out.below hE.ax) k (bG hlt) (qK.out.l k hlt) (qK.out.k k hlt) (qK.out.d k hlt) (qK.out.c k hlt) (qK.out.ld k hlt) (qK.out.kc k hlt) (qK.out.y k hlt);change Calls _ _ _ _ (FR (yr v f L U k) _) at hc;refine hE.fr (hc) ?_;clear hE;intro sy Ay ny cy ty By my dy Kw hE;clear hc;go_wp2_with fail
    refine hK.out _ _ (⟨hE.h5,hE.g1⟩) (fun hHeld=> ?_);clear hK K;try simp only[PL]
    refine r1 0 (fun K hK=> ?_);obtain⟨dY,eu,eF,iA⟩:=(hE.h2).c4;go_simp;clear dY eu eF iA;refine hK.out _ _ (⟨hE.h5,hE.g1⟩) (fun hHeld=> ?_);clear hK K;try simp only[PL]
    refine r1 10 (fun K hK=> ?_);go_simp;have hc:=BZ (ca:=cz) (da:=dz) (cb:=cy) (db:=dy) hE.h3 hE.g0 (qK.out.s t k (bG hlt)) (qK.out.y k hlt) (by rw[<-HS2.out];exact qK.out.s t (k+1) hlt);rw[<-HS2.out] at hc;refine hE.fr (hc) ?_;clear hE;intro su Au nu cu tu Bu mu du FD hE;clear hc;go_wp2_with fail
    refine hK.out _ _ (⟨hE.h6,hE.h2⟩) (fun hHeld=> ?_);clear hK K;try simp only[PL]
    refine r1 11 (fun K hK=> ?_)
    have kF:w.heap.size<=g2:=by omega
    obtain⟨vw,vz,Dy,Dz⟩:=(hE.h3).c4;obtain⟨vA,vB,DA,DB⟩:=hE.h3.f4;replace hE:=((((((((Env.again (bW hE.ax kF (.bool su) (.slice Au nu cu) (.bool tu) (.slice Bu mu du))).ag ((hE.h6).aj (by omega) _ _ _ _)).ag ((hE.h5).aj (by omega) _ _ _ _)).fv ((hE.h4).ak hE.h3 rfl _ _ _ _ rfl rfl rfl)).ag ((hE.h3).s4 _ _ _ _)).fZ (cW.below Kf.out (bW hE.ax (by omega) _ _ _ _))).fv ((hE.g1).ak hE.h3 rfl _ _ _ _ rfl rfl rfl)).fv ((hE.g0).ak hE.h3 rfl _ _ _ _ rfl rfl rfl));go_simp;clear vw vz Dy Dz vA vB DA DB kF;generalize ((((FD.setCell ⟨g2,0,none⟩ (.bool su)).setCell ⟨g2,1,none⟩ (.slice Au nu cu)).setCell ⟨g2,2,none⟩ (.bool tu)).setCell ⟨g2,3,none⟩ (.slice Bu mu du))=W17 at hE⊢;refine hK.out _ _ (⟨hE.h6,hE.h2⟩) (fun hHeld=> ?_);clear hK K;try simp only[PL]
    refine aX (by kernel_rfl) ?_ _;go_wp2_with fail
    go_roundw
    case rel=>exact⟨k+1,_,_,_,_,_,_,_,_,by omega,by omega,by(try simp)<;>norm_cast,(((((Env.again hE.ax).ag (hE.h6)).ag (hE.h5)).fv (hE.g0)).ag (hE.h3))⟩
    case measure=>simp[intOf];omega
  ·
   have eN:N=k:=by omega
   subst eN;have t1:decide ((N:Int)<(N:Int))=false:=aH (by omega)
   have t2:¬(N:Int)<(N:Int):=by omega
   have jS:=(hE.h3).cell 9
   go_upto_region 6 with(fail)
   clear jS;clear t1 t2;replace hE:=hE.fv (show FV wr (dd v f t) (h t 0).s (h t 0).A (h t 0).n (h t 0).t (h t 0).B (h t 0).m from cK.stable _ _ _ _ _ _ hE.ax HhQ.out t ht 0 (by decide) trivial);replace hE:=hE.bO (b:=G) (o:=t*24) (v:= .bool (h t 0).s) ⟨cW.lt (cW.below Kf.out hE.ax),gO.pF (cW.below Kf.out hE.ax) (j:=0) (i:=0) ht (by decide) (by decide) (by omega) rfl⟩;replace hE:=hE.bO (b:=G) (o:=t*24+1) (v:= .slice (h t 0).A (h t 0).n (h t 0).c) ⟨cW.lt (cW.below Kf.out hE.ax),gO.pF (cW.below Kf.out hE.ax) (j:=0) (i:=1) ht (by decide) (by decide) (by omega) rfl⟩;replace hE:=hE.bO (b:=G) (o:=t*24+2) (v:= .bool (h t 0).t) ⟨cW.lt (cW.below Kf.out hE.ax),gO.pF (cW.below Kf.out hE.ax) (j:=0) (i:=2) ht (by decide) (by decide) (by omega) rfl⟩;replace hE:=hE.bO (b:=G) (o:=t*24+3) (v:= .slice (h t 0).B (h t 0).m (h t 0).d) ⟨cW.lt (cW.below Kf.out hE.ax),gO.pF (cW.below Kf.out hE.ax) (j:=0) (i:=3) ht (by decide) (by decide) (by omega) rfl⟩;have as4:G<w.heap.size:=cW.lt Kf.out;replace hE:=hE.drew;refine bH (S:=fun V=>au 80 (w.heap.size) (x.Q G N cap) V/\au 29 (g2) (az sz Az nz cz tz Bz mz dz) V/\At G (t*24) (.bool (h t 0).s) V/\At G (t*24+1) (.slice (h t 0).A (h t 0).n (h t 0).c) V/\At G (t*24+2) (.bool (h t 0).t) V/\At G (t*24+3) (.slice (h t 0).B (h t 0).m (h t 0).d) V) (by kernel_rfl) (⟨hE.h8,hE.h5,hE.h3,hE.h2,hE.g1,hE.g0⟩) (fun hHeld=> ?_)
   generalize wr.drew=wd at*
   refine tk 0 ?_ (hy:=by
    intro w aG;have nR:=(aG.2.1).cell 0;have qL:=(aG.2.1).cell 1;have rS:=(aG.2.1).cell 2;have qR:=(aG.2.1).cell 3;clear aG
    first|(go_simp;done)|(go_simp;with_reducible rfl))
   try simp only[PL]
   refine tk 1 ?_
   refine tk 2 ?_ (hy:=by
    intro w aG;have kc9:=(aG.1).cell 9;clear aG
    first|(go_simp;done)|(go_simp;with_reducible rfl))
   try simp only[PL]
   refine tk 3 ?_;refine tk 4 ?_;refine tk 5 ?_
   refine tk 6 ?_ (hy:=by
    intro w aG;have nR:=(aG.2.2.1).2;have qL:=(aG.2.2.2.1).2;have rS:=(aG.2.2.2.2.1).2;have qR:=(aG.2.2.2.2.2).2;clear aG
    first|(go_simp;done)|(go_simp;with_reducible rfl))
   try simp only[PL]
   refine r1 7 (fun K hK=> ?_);go_simp;have hc:=Yj (ca:=cz) (da:=dz) (cb:=(h t 0).c) (db:=(h t 0).d) hE.h6 hE.h4 (qK.out.s t N (aq _)) (qK.out.d t ht) aqo.out (qK.out.a t);change Calls _ _ _ _ (FR (va v f N L U t) _) at hc;refine hE.fr (hc) ?_;clear hE;intro sr Ar nr cr tr Br mr dr w19 hE;clear hc;go_wp2_with fail
   refine hK.out _ _ (⟨hE.h9,hE.h6,hE.h4,hE.h3,hE.h2,hE.g1⟩) (fun hHeld=> ?_);clear hK K;try simp only[PL]
   refine r1 8 (fun K hK=> ?_)
   have cS:w.heap.size<=w.heap.size+1:=by omega
   obtain⟨WW,bn,hB,hV,aM⟩:=aR hE hE.h8 cS hE.g0 cr dr;obtain⟨x0,x1,x2,x3⟩:=(hE.h8).c4;obtain⟨fL,fM,fV,fW⟩:=hE.h8.f4;have bR:=af bn;clear bn;go_simp;rw[<-bR.out];refine hK.out _ _ (by rw[bR.out];exact⟨(hE.h9).aj (R:=w.heap.size+1) (by omega) (.bool sr) (.slice Ar nr cr) (.bool tr) (.slice Br mr dr),(hE.h6).aj (R:=w.heap.size+1) (by omega) (.bool sr) (.slice Ar nr cr) (.bool tr) (.slice Br mr dr),(hE.h4).aj (R:=w.heap.size+1) (by omega) (.bool sr) (.slice Ar nr cr) (.bool tr) (.slice Br mr dr),(hE.h3).aj (R:=w.heap.size+1) (by omega) (.bool sr) (.slice Ar nr cr) (.bool tr) (.slice Br mr dr),(hE.h2).aj (R:=w.heap.size+1) (by omega) (.bool sr) (.slice Ar nr cr) (.bool tr) (.slice Br mr dr),(hE.g1).aj (R:=w.heap.size+1) (by omega) (.bool sr) (.slice Ar nr cr) (.bool tr) (.slice Br mr dr)⟩) (fun hHeld=> ?_);clear hK K;try simp only[PL]
   refine aX (by kernel_rfl) ?_ _;go_wp2_with fail
   obtain⟨y0,y1,y2,y3⟩:=hB.c4;refine aK (v:= .agg (az sr Ar nr cr tr Br mr dr)) (by simp[results,Tryz.results62,go_sem,y0,y1,y2,y3]) rfl ?_;exact⟨sr,Ar,nr,cr,tr,Br,mr,dr,rfl,hV,aM⟩
end Go.Proofs.YtclbiihcbfnjmaaGreat
