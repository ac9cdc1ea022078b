/-
  Parts.
-/
import Derived.Test.YtclbiihcbfnjmaaGreatK2
import Derived.Test.YtclbiihcbfnjmaaGreatK8
import Derived.Test.YtclbiihcbfnjmaaGreatK21
import Derived.Test.YtclbiihcbfnjmaaGreatK20
set_option linter.unusedSimpArgs false
set_option maxRecDepth 100000
set_option maxHeartbeats 8000000
namespace Go.Proofs.YtclbiihcbfnjmaaGreat
open Go.RowKit

theorem vyear_v {L U:Nat->Rat}{p1 p2:Value}{N:Nat}{x:Nat->Q8}{q0 q3:Rat}{w:World}(hx0:(x 0).fv w q0)(hx3:(x 3).fv w q3)(hp1:PayC p1 L N w)(hp2:PayC p2 U N w)(k:Nat)(hk:k<=N)(l1:fl (L k)<=256)(l2:fl (U k)<=256)(l3:fl q0<=256)(l4:fl q3<=256)(l5:fl (L k*q0)<=256)(l6:fl (U k*q3)<=256)(l7:fl (L k*q0+U k*q3)<=256):
  Calls Tryz.prog 66 #[.int .i64 (k:Int),.agg (cols1 x).toArray,p1,p2] w (FR (L k*q0+U k*q3) w):=by
 obtain⟨f1,c1,rfl,eg1,hc1⟩:=hp1;obtain⟨f2,c2,rfl,eg2,hc2⟩:=hp2;have Hhc1:=Lib.hid hc1;clear hc1;have Hhc2:=Lib.hid hc2;clear hc2;have hE:=((((Env.start w).fv hx0).fv hx3).blk 98 (cols1 x).toArray (g:=w.heap.size) rfl).blk 29 qz4 (g:=w.heap.size+1) (by simp)
 obtain⟨W0,hW0⟩:∃W0,W0=(w.alloc (.cells (cols1 x).toArray 98)).alloc (.cells qz4 29):=⟨_,rfl⟩
 rw[<-hW0] at hE;have HW0:=Lib.hid hW0;clear hW0
 go_enter Tryz.func66,Tryz.ntmps66
 go_upto_region 1 with(fail)
 rw[<-HW0.out];replace hE:=hE.atI (b:=w.heap.size) (o:=0) (v:= .bool (x 0).s) ⟨(hE.here.1.2).lt,(hE.here.1.2).col (j:=0) (i:=0) (by decide) (by decide) rfl rfl⟩;replace hE:=hE.atI (b:=w.heap.size) (o:=1) (v:= .slice (x 0).A (x 0).n (x 0).c) ⟨(hE.h2).lt,(hE.h2).col (j:=0) (i:=1) (by decide) (by decide) rfl rfl⟩;replace hE:=hE.atI (b:=w.heap.size) (o:=2) (v:= .bool (x 0).t) ⟨(hE.h3).lt,(hE.h3).col (j:=0) (i:=2) (by decide) (by decide) rfl rfl⟩;replace hE:=hE.atI (b:=w.heap.size) (o:=3) (v:= .slice (x 0).B (x 0).m (x 0).d) ⟨(hE.h4).lt,(hE.h4).col (j:=0) (i:=3) (by decide) (by decide) rfl rfl⟩;replace hE:=hE.atI (b:=w.heap.size) (o:=12) (v:= .bool (x 3).s) ⟨(hE.h5).lt,(hE.h5).col (j:=3) (i:=0) (by decide) (by decide) rfl rfl⟩;replace hE:=hE.atI (b:=w.heap.size) (o:=13) (v:= .slice (x 3).A (x 3).n (x 3).c) ⟨(hE.h6).lt,(hE.h6).col (j:=3) (i:=1) (by decide) (by decide) rfl rfl⟩;replace hE:=hE.atI (b:=w.heap.size) (o:=14) (v:= .bool (x 3).t) ⟨(hE.h7).lt,(hE.h7).col (j:=3) (i:=2) (by decide) (by decide) rfl rfl⟩;replace hE:=hE.atI (b:=w.heap.size) (o:=15) (v:= .slice (x 3).B (x 3).m (x 3).d) ⟨(hE.h8).lt,(hE.h8).col (j:=3) (i:=3) (by decide) (by decide) rfl rfl⟩;replace hE:=hE.drew;refine wp_region_held_drew (S:=fun w'=>w'.cell? ⟨w.heap.size,0,none⟩=some (.bool (x 0).s)/\w'.cell? ⟨w.heap.size,1,none⟩=some (.slice (x 0).A (x 0).n (x 0).c)/\w'.cell? ⟨w.heap.size,2,none⟩=some (.bool (x 0).t)/\w'.cell? ⟨w.heap.size,3,none⟩=some (.slice (x 0).B (x 0).m (x 0).d)/\w'.cell? ⟨w.heap.size,12,none⟩=some (.bool (x 3).s)/\w'.cell? ⟨w.heap.size,13,none⟩=some (.slice (x 3).A (x 3).n (x 3).c)/\w'.cell? ⟨w.heap.size,14,none⟩=some (.bool (x 3).t)/\w'.cell? ⟨w.heap.size,15,none⟩=some (.slice (x 3).B (x 3).m (x 3).d)) (by kernel_rfl) (⟨(hE.h7).2,(hE.h6).2,(hE.h5).2,(hE.h4).2,(hE.h3).2,(hE.h2).2,(hE.here.1.2).2,(hE.here.2).2⟩) (fun hHeld=> ?_);refine tk 0 ?_;refine tk 1 ?_;refine tk 3 ?_;refine tk 4 ?_;refine tk 6 ?_;refine tk 7 ?_;refine tk 9 ?_;refine tk 10 ?_;refine r1 2 (fun K hK=> ?_);go_simp;refine hE.fr (Hhc1.out _ hE.bel k hk) ?_;clear hE;intro sa Aa na ca ta Ba ma da w1 hE;go_wp2_with fail
 refine hK.out _ _ (⟨(hE.h8).2,(hE.h7).2,(hE.h6).2,(hE.h5).2,(hE.h4).2,(hE.h3).2,(hE.h2).2,(hE.here.1.2).2⟩) (fun hHeld=> ?_);clear hK K;try simp only[PL]
 refine r1 5 (fun K hK=> ?_);go_simp;refine hE.fr (vtimes_v (ca:=ca) (da:=da) (cb:=(x 0).c) (db:=(x 0).d) hE.here.2 hE.h12 l1 l3 l5) ?_;clear hE;intro sp Ap np cp tp Bp mp dp w2 hE;go_wp2_with fail
 refine hK.out _ _ (⟨(hE.h9).2,(hE.h8).2,(hE.h7).2,(hE.h6).2,(hE.h5).2,(hE.h4).2,(hE.h3).2,(hE.h2).2⟩) (fun hHeld=> ?_);clear hK K;try simp only[PL]
 refine r1 8 (fun K hK=> ?_);go_simp;refine hE.fr (Hhc2.out _ hE.bel k hk) ?_;clear hE;intro sb Ab nb cb tb Bb mb db w3 hE;go_wp2_with fail
 refine hK.out _ _ (⟨(hE.h10).2,(hE.h9).2,(hE.h8).2,(hE.h7).2,(hE.h6).2,(hE.h5).2,(hE.h4).2,(hE.h3).2⟩) (fun hHeld=> ?_);clear hK K;try simp only[PL]
 refine r1 11 (fun K hK=> ?_);go_simp;refine hE.fr (vtimes_v (ca:=cb) (da:=db) (cb:=(x 3).c) (db:=(x 3).d) hE.here.2 hE.h13 l2 l4 l6) ?_;clear hE;intro sq Aq nq cq tq Bq mq dq w4 hE;go_wp2_with fail
 refine hK.out _ _ (⟨(hE.h11).2,(hE.h10).2,(hE.h9).2,(hE.h8).2,(hE.h7).2,(hE.h6).2,(hE.h5).2,(hE.h4).2⟩) (fun hHeld=> ?_);clear hK K;try simp only[PL]
 refine r1 12 (fun K hK=> ?_);go_simp;refine hE.fr (vplus_v (ca:=cp) (da:=dp) (cb:=cq) (db:=dq) hE.h2 hE.here.2 l5 l6 l7) ?_;clear hE;intro sr Ar nr cr tr Br mr dr w5 hE;go_wp2_with fail
 refine hK.out _ _ (⟨(hE.h12).2,(hE.h11).2,(hE.h10).2,(hE.h9).2,(hE.h8).2,(hE.h7).2,(hE.h6).2,(hE.h5).2⟩) (fun hHeld=> ?_);clear hK K;try simp only[PL]
 refine r1 13 (fun K hK=> ?_)
 have hRl:w.heap.size<=w.heap.size+1:=by omega
 obtain⟨WW,hWW,hB,hV,hBel⟩:=ret_frac hE hE.h13 hRl hE.here.2 cr dr;obtain⟨x0,x1,x2,x3⟩:=(hE.h13).c4;obtain⟨fz0,fz1,fz2,fz3⟩:=hE.h13.f4;have HWW:=Lib.hid hWW;clear hWW;have q6:=(hE.h12).far4 (R:=w.heap.size+1) (by omega) (.bool sr) (.slice Ar nr cr) (.bool tr) (.slice Br mr dr);rw[<-HWW.out] at q6;have q7:=(hE.h11).far4 (R:=w.heap.size+1) (by omega) (.bool sr) (.slice Ar nr cr) (.bool tr) (.slice Br mr dr);rw[<-HWW.out] at q7;have q8:=(hE.h10).far4 (R:=w.heap.size+1) (by omega) (.bool sr) (.slice Ar nr cr) (.bool tr) (.slice Br mr dr);rw[<-HWW.out] at q8;have q9:=(hE.h9).far4 (R:=w.heap.size+1) (by omega) (.bool sr) (.slice Ar nr cr) (.bool tr) (.slice Br mr dr);rw[<-HWW.out] at q9;have q10:=(hE.h8).far4 (R:=w.heap.size+1) (by omega) (.bool sr) (.slice Ar nr cr) (.bool tr) (.slice Br mr dr);rw[<-HWW.out] at q10;have q11:=(hE.h7).far4 (R:=w.heap.size+1) (by omega) (.bool sr) (.slice Ar nr cr) (.bool tr) (.slice Br mr dr);rw[<-HWW.out] at q11;have q12:=(hE.h6).far4 (R:=w.heap.size+1) (by omega) (.bool sr) (.slice Ar nr cr) (.bool tr) (.slice Br mr dr);rw[<-HWW.out] at q12;have q13:=(hE.h5).far4 (R:=w.heap.size+1) (by omega) (.bool sr) (.slice Ar nr cr) (.bool tr) (.slice Br mr dr);rw[<-HWW.out] at q13;go_simp;rw[<-HWW.out];refine hK.out _ _ (⟨(q6).2,(q7).2,(q8).2,(q9).2,(q10).2,(q11).2,(q12).2,(q13).2⟩) (fun hHeld=> ?_);clear hK K;try simp only[PL]
 refine wpAnyH_done (by kernel_rfl) ?_ _;go_wp2_with fail
 obtain⟨y0,y1,y2,y3⟩:=hB.c4;refine bodyPost_ret (v:= .agg (qf4 sr Ar nr cr tr Br mr dr)) (by simp[results,Tryz.results66,go_sem,y0,y1,y2,y3]) rfl ?_;exact⟨sr,Ar,nr,cr,tr,Br,mr,dr,rfl,hV,hBel⟩
theorem vvalue_v {x:Ct}{G N cap:Nat}{h:Nat->Nat->Q8}{v:Rat}{f L U:Nat->Rat}{p1 p2:Value}{w:World}(hC:ColB G N cap h w)(hQ:ColQ h N (fun _ _=>True) (colq v f N) w)(hN:Cnt v f N)(h80:N<=80)(hp1:PayC p1 L N w)(hp2:PayC p2 U N w)(hl:VlOK v f L U N)(t:Nat)(ht:t<N):
  Calls Tryz.prog 62 #[.agg (x.Q G N cap),.int .i64 (t:Int),p1,p2] w (FR (va v f N L U t) w):=by
 obtain⟨f1,c1,rfl,eg1,hc1⟩:=hp1;obtain⟨f2,c2,rfl,eg2,hc2⟩:=hp2;have hp1:PayC (.func (.func f1) #[] c1) L N w:=⟨f1,c1,rfl,eg1,hc1⟩;have hp2:PayC (.func (.func f2) #[] c2) U N w:=⟨f2,c2,rfl,eg2,hc2⟩;clear eg1 eg2 hc1 hc2;have hd0:dd v f t≠0:=hN.2 t ht
 have hdn:(dd v f t).num≠0:=fun h=>hd0 (Rat.num_eq_zero.1 h)
 have Hhp1:=Lib.hid hp1;clear hp1;have Hhp2:=Lib.hid hp2;clear hp2;have HhC:=Lib.hid hC;clear hC;have HhQ:=Lib.hid hQ;clear hQ;have Hhl:=Lib.hid hl;clear hl;have HhN:=Lib.hid hN;clear hN;have Hhd0:=Lib.hid hd0;clear hd0;have Hhdn:=Lib.hid hdn;clear hdn;have hE:=(Env.start w).blk 80 (x.Q G N cap) (g:=w.heap.size) rfl;have hE:=hE.blk 29 qz4 (g:=w.heap.size+1) (by simp)
 obtain⟨W0,hW0⟩:∃W0,W0=((w.alloc (.cells (x.Q G N cap) 80)).alloc (.cells qz4 29)):=⟨_,rfl⟩
 rw[<-hW0] at hE;have HW0:=Lib.hid hW0;clear hW0
 go_enter Tryz.func62,Tryz.ntmps62
 go_upto_region 1 with(fail)
 rw[<-HW0.out];go_wp2_with fail
 refine hE.fr (ffromInt_v 0 _ (by decide) (by decide)) ?_;clear hE;intro sz Az nz cz tz Bz mz dz w1 hE
 go_upto_region 2 with(fail)
 obtain⟨g2,hg2⟩:∃g2,g2=w1.heap.size:=⟨_,rfl⟩
 have hl2_0:w.heap.size<g2:=by rw[hg2];exact(hE.h2).lt
 have hl2_1:w.heap.size+1<g2:=by rw[hg2];exact(hE.here.1.2).lt
 replace hE:=hE.blk 29 (qf4 sz Az nz cz tz Bz mz dz) (g:=g2) hg2.symm;generalize w1.alloc (.cells (qf4 sz Az nz cz tz Bz mz dz) 29)=W2 at hE⊢;rw[<-hg2];clear hg2;go_wp2_with fail
 have hgn:w.heap.size+1<g2:=by omega
 go_loopw [10] (fun p wr=>∃(k:Nat) (sz:Bool) (Az:Option Addr) (nz cz:Nat) (tz:Bool) (Bz:Option Addr) (mz dz:Nat),t<=k/\k<=N/\p= .int .i64 (k:Int)/\Env w (fun V=>((((True/\Blk 80 (w.heap.size) (x.Q G N cap) V)/\Blk 29 (w.heap.size+1) qz4 V)/\FV V (sf (yr v f L U) k t) sz Az nz tz Bz mz)/\Blk 29 (g2) (qf4 sz Az nz cz tz Bz mz dz) V)) wr) (fun p _=>N-(intOf p).toNat)
 case atStart=>
  refine⟨t,sz,Az,nz,cz,tz,Bz,mz,dz,Nat.le_refl _,Nat.le_of_lt ht,rfl, ?_⟩;rw[sf_end _ (Nat.le_refl t)];exact(((((Env.again hE.bel).blkI (hE.h3)).blkI (hE.h2)).fv (hE.here.1.2)).blkI (hE.here.2))
 case round=>
  clear hE;obtain⟨k,sz,Az,nz,cz,tz,Bz,mz,dz,htk,hkN,rfl,hE⟩:=hrel
  by_cases hlt:k<N
  ·
   have t1:decide ((k:Int)<(N:Int))=true:=decide_eq_true (by omega)
   have t2:(k:Int)<(N:Int):=by omega
   have k3:=(hE.h3).cell 9
   go_upto_region 5 with(fail)
   clear k3;clear t1;replace hE:=hE.colp (ColP.below HhC.out hE.bel);have hS2:sf (yr v f L U) (k+1) t=sf (yr v f L U) k t+yr v f L U k:=sf_up _ t htk;have HS2:=Lib.hid hS2;clear hS2;replace hE:=hE.drew;refine wp_region_held_drew (S:=fun V=>Blk 80 (w.heap.size) (x.Q G N cap) V/\ColB G N cap h V) (by kernel_rfl) (⟨hE.h4,hE.here.2⟩) (fun hHeld=> ?_)
   generalize wr.drew=wd at*
   refine tk 1 ?_;refine tk 2 ?_
   refine tk 3 ?_ (hy:=by
    intro w hSw;have kc9:=(hSw.1).cell 9;clear hSw
    first|(go_simp;done)|(go_simp;with_reducible rfl))
   try simp only[PL]
   refine tk 4 ?_;refine tk 5 ?_;refine wpAnyH_take (i:=6) (v:= .agg (cols1 (h k)).toArray) rfl (by kernel_rfl) (by kernel_rfl) (by kernel_rfl) (fun _ _ _ h=>h) (Or.inl ⟨by rfl, ?hy2_6_6⟩) (by assumption) ?rest2_6_6
   case hy2_6_6=>
    intro w hSw;exact ld_exec (p:= .pointer (some ⟨G,k*24,none⟩)) (col_load (hSw.2) hlt) rfl rfl
   try simp only[PL]
   refine tk 7 ?_;refine tk 8 ?_;refine wpAnyH_ready (rs:=[0,9]) (by kernel_rfl) (by simp) (AllReadyH.cons rfl (fun K hK=> ?_) (AllReadyH.cons rfl (fun K hK=> ?_) (AllReadyH.nil)))
   ·
    obtain⟨k4,k5,k6,k7⟩:=(hE.here.1.2).c4;go_simp;clear k4 k5 k6 k7;refine hK.out _ _ (⟨hE.h4,hE.here.2⟩) (fun hHeld=> ?_);clear hK K;try simp only[PL]
    refine r1 9 (fun K hK=> ?_);go_simp;have hc:=vyear_v (x:=h k) (q0:=dd v f k) (q3:=cc v f k) (ColQ.stable _ _ _ _ _ _ hE.bel HhQ.out k hlt 0 (by decide) trivial) (ColQ.stable _ _ _ _ _ _ hE.bel HhQ.out k hlt 3 (by decide) trivial) (Hhp1.out.below hE.bel) (Hhp2.out.below hE.bel) k (Nat.le_of_lt hlt) (Hhl.out.l k hlt) (Hhl.out.k k hlt) (Hhl.out.d k hlt) (Hhl.out.c k hlt) (Hhl.out.ld k hlt) (Hhl.out.kc k hlt) (Hhl.out.y k hlt);change Calls _ _ _ _ (FR (yr v f L U k) _) at hc;refine hE.fr (hc) ?_;clear hE;intro sy Ay ny cy ty By my dy w8 hE;clear hc;go_wp2_with fail
    refine hK.out _ _ (⟨hE.h5,hE.here.1.2⟩) (fun hHeld=> ?_);clear hK K;try simp only[PL]
    refine r1 10 (fun K hK=> ?_);go_simp;have hc:=vplus_v (ca:=cz) (da:=dz) (cb:=cy) (db:=dy) hE.h3 hE.here.2 (Hhl.out.s t k (Nat.le_of_lt hlt)) (Hhl.out.y k hlt) (by rw[<-HS2.out];exact Hhl.out.s t (k+1) hlt);rw[<-HS2.out] at hc;refine hE.fr (hc) ?_;clear hE;intro su Au nu cu tu Bu mu du w9 hE;clear hc;go_wp2_with fail
    refine hK.out _ _ (⟨hE.h6,hE.h2⟩) (fun hHeld=> ?_);clear hK K;try simp only[PL]
    refine r1 11 (fun K hK=> ?_)
    have hgl10:w.heap.size<=g2:=by omega
    obtain⟨x10_0,x10_1,x10_2,x10_3⟩:=(hE.h3).c4;obtain⟨f10_0,f10_1,f10_2,f10_3⟩:=hE.h3.f4;replace hE:=((((((((Env.again (bel4 hE.bel hgl10 (.bool su) (.slice Au nu cu) (.bool tu) (.slice Bu mu du))).blkI ((hE.h6).far4 (by omega) _ _ _ _)).blkI ((hE.h5).far4 (by omega) _ _ _ _)).fv ((hE.h4).sep4 hE.h3 rfl _ _ _ _ rfl rfl rfl)).blkI ((hE.h3).s4 _ _ _ _)).colp (ColP.below HhC.out (bel4 hE.bel (by omega) _ _ _ _))).fv ((hE.here.1.2).sep4 hE.h3 rfl _ _ _ _ rfl rfl rfl)).fv ((hE.here.2).sep4 hE.h3 rfl _ _ _ _ rfl rfl rfl));go_simp;clear x10_0 x10_1 x10_2 x10_3 f10_0 f10_1 f10_2 f10_3 hgl10;generalize ((((w9.setCell ⟨g2,0,none⟩ (.bool su)).setCell ⟨g2,1,none⟩ (.slice Au nu cu)).setCell ⟨g2,2,none⟩ (.bool tu)).setCell ⟨g2,3,none⟩ (.slice Bu mu du))=W10 at hE⊢;refine hK.out _ _ (⟨hE.h6,hE.h2⟩) (fun hHeld=> ?_);clear hK K;try simp only[PL]
    refine wpAnyH_done (by kernel_rfl) ?_ _;go_wp2_with fail
    go_roundw
    case rel=>exact⟨k+1,_,_,_,_,_,_,_,_,by omega,by omega,by(try simp)<;>norm_cast,(((((Env.again hE.bel).blkI (hE.h6)).blkI (hE.h5)).fv (hE.here.2)).blkI (hE.h3))⟩
    case measure=>simp[intOf];omega
   ·
    go_simp;have hc:=vyear_v (x:=h k) (q0:=dd v f k) (q3:=cc v f k) (ColQ.stable _ _ _ _ _ _ hE.bel HhQ.out k hlt 0 (by decide) trivial) (ColQ.stable _ _ _ _ _ _ hE.bel HhQ.out k hlt 3 (by decide) trivial) (Hhp1.out.below hE.bel) (Hhp2.out.below hE.bel) k (Nat.le_of_lt hlt) (Hhl.out.l k hlt) (Hhl.out.k k hlt) (Hhl.out.d k hlt) (Hhl.out.c k hlt) (Hhl.out.ld k hlt) (Hhl.out.kc k hlt) (Hhl.out.y k hlt);change Calls _ _ _ _ (FR (yr v f L U k) _) at hc;refine hE.fr (hc) ?_;clear hE;intro sy Ay ny cy ty By my dy w11 hE;clear hc;go_wp2_with fail
    refine hK.out _ _ (⟨hE.h5,hE.here.1.2⟩) (fun hHeld=> ?_);clear hK K;try simp only[PL]
    refine r1 0 (fun K hK=> ?_);obtain⟨k12,k13,k14,k15⟩:=(hE.h2).c4;go_simp;clear k12 k13 k14 k15;refine hK.out _ _ (⟨hE.h5,hE.here.1.2⟩) (fun hHeld=> ?_);clear hK K;try simp only[PL]
    refine r1 10 (fun K hK=> ?_);go_simp;have hc:=vplus_v (ca:=cz) (da:=dz) (cb:=cy) (db:=dy) hE.h3 hE.here.2 (Hhl.out.s t k (Nat.le_of_lt hlt)) (Hhl.out.y k hlt) (by rw[<-HS2.out];exact Hhl.out.s t (k+1) hlt);rw[<-HS2.out] at hc;refine hE.fr (hc) ?_;clear hE;intro su Au nu cu tu Bu mu du w16 hE;clear hc;go_wp2_with fail
    refine hK.out _ _ (⟨hE.h6,hE.h2⟩) (fun hHeld=> ?_);clear hK K;try simp only[PL]
    refine r1 11 (fun K hK=> ?_)
    have hgl17:w.heap.size<=g2:=by omega
    obtain⟨x17_0,x17_1,x17_2,x17_3⟩:=(hE.h3).c4;obtain⟨f17_0,f17_1,f17_2,f17_3⟩:=hE.h3.f4;replace hE:=((((((((Env.again (bel4 hE.bel hgl17 (.bool su) (.slice Au nu cu) (.bool tu) (.slice Bu mu du))).blkI ((hE.h6).far4 (by omega) _ _ _ _)).blkI ((hE.h5).far4 (by omega) _ _ _ _)).fv ((hE.h4).sep4 hE.h3 rfl _ _ _ _ rfl rfl rfl)).blkI ((hE.h3).s4 _ _ _ _)).colp (ColP.below HhC.out (bel4 hE.bel (by omega) _ _ _ _))).fv ((hE.here.1.2).sep4 hE.h3 rfl _ _ _ _ rfl rfl rfl)).fv ((hE.here.2).sep4 hE.h3 rfl _ _ _ _ rfl rfl rfl));go_simp;clear x17_0 x17_1 x17_2 x17_3 f17_0 f17_1 f17_2 f17_3 hgl17;generalize ((((w16.setCell ⟨g2,0,none⟩ (.bool su)).setCell ⟨g2,1,none⟩ (.slice Au nu cu)).setCell ⟨g2,2,none⟩ (.bool tu)).setCell ⟨g2,3,none⟩ (.slice Bu mu du))=W17 at hE⊢;refine hK.out _ _ (⟨hE.h6,hE.h2⟩) (fun hHeld=> ?_);clear hK K;try simp only[PL]
    refine wpAnyH_done (by kernel_rfl) ?_ _;go_wp2_with fail
    go_roundw
    case rel=>exact⟨k+1,_,_,_,_,_,_,_,_,by omega,by omega,by(try simp)<;>norm_cast,(((((Env.again hE.bel).blkI (hE.h6)).blkI (hE.h5)).fv (hE.here.2)).blkI (hE.h3))⟩
    case measure=>simp[intOf];omega
  ·
   have eN:N=k:=by omega
   subst eN;have t1:decide ((N:Int)<(N:Int))=false:=decide_eq_false (by omega)
   have t2:¬(N:Int)<(N:Int):=by omega
   have k18:=(hE.h3).cell 9
   go_upto_region 6 with(fail)
   clear k18;clear t1 t2;replace hE:=hE.fv (show FV wr (dd v f t) (h t 0).s (h t 0).A (h t 0).n (h t 0).t (h t 0).B (h t 0).m from ColQ.stable _ _ _ _ _ _ hE.bel HhQ.out t ht 0 (by decide) trivial);replace hE:=hE.atI (b:=G) (o:=t*24) (v:= .bool (h t 0).s) ⟨ColP.lt (ColP.below HhC.out hE.bel),ColB.at2 (ColP.below HhC.out hE.bel) (j:=0) (i:=0) ht (by decide) (by decide) (by omega) rfl⟩;replace hE:=hE.atI (b:=G) (o:=t*24+1) (v:= .slice (h t 0).A (h t 0).n (h t 0).c) ⟨ColP.lt (ColP.below HhC.out hE.bel),ColB.at2 (ColP.below HhC.out hE.bel) (j:=0) (i:=1) ht (by decide) (by decide) (by omega) rfl⟩;replace hE:=hE.atI (b:=G) (o:=t*24+2) (v:= .bool (h t 0).t) ⟨ColP.lt (ColP.below HhC.out hE.bel),ColB.at2 (ColP.below HhC.out hE.bel) (j:=0) (i:=2) ht (by decide) (by decide) (by omega) rfl⟩;replace hE:=hE.atI (b:=G) (o:=t*24+3) (v:= .slice (h t 0).B (h t 0).m (h t 0).d) ⟨ColP.lt (ColP.below HhC.out hE.bel),ColB.at2 (ColP.below HhC.out hE.bel) (j:=0) (i:=3) ht (by decide) (by decide) (by omega) rfl⟩;have hGlt:G<w.heap.size:=ColP.lt HhC.out;replace hE:=hE.drew;refine wp_region_held_drew (S:=fun V=>Blk 80 (w.heap.size) (x.Q G N cap) V/\Blk 29 (g2) (qf4 sz Az nz cz tz Bz mz dz) V/\At G (t*24) (.bool (h t 0).s) V/\At G (t*24+1) (.slice (h t 0).A (h t 0).n (h t 0).c) V/\At G (t*24+2) (.bool (h t 0).t) V/\At G (t*24+3) (.slice (h t 0).B (h t 0).m (h t 0).d) V) (by kernel_rfl) (⟨hE.h8,hE.h5,hE.h3,hE.h2,hE.here.1.2,hE.here.2⟩) (fun hHeld=> ?_)
   generalize wr.drew=wd at*
   refine tk 0 ?_ (hy:=by
    intro w hSw;have kc0:=(hSw.2.1).cell 0;have kc1:=(hSw.2.1).cell 1;have kc2:=(hSw.2.1).cell 2;have kc3:=(hSw.2.1).cell 3;clear hSw
    first|(go_simp;done)|(go_simp;with_reducible rfl))
   try simp only[PL]
   refine tk 1 ?_
   refine tk 2 ?_ (hy:=by
    intro w hSw;have kc9:=(hSw.1).cell 9;clear hSw
    first|(go_simp;done)|(go_simp;with_reducible rfl))
   try simp only[PL]
   refine tk 3 ?_;refine tk 4 ?_;refine tk 5 ?_
   refine tk 6 ?_ (hy:=by
    intro w hSw;have kc0:=(hSw.2.2.1).2;have kc1:=(hSw.2.2.2.1).2;have kc2:=(hSw.2.2.2.2.1).2;have kc3:=(hSw.2.2.2.2.2).2;clear hSw
    first|(go_simp;done)|(go_simp;with_reducible rfl))
   try simp only[PL]
   refine r1 7 (fun K hK=> ?_);go_simp;have hc:=vover_v (ca:=cz) (da:=dz) (cb:=(h t 0).c) (db:=(h t 0).d) hE.h6 hE.h4 (Hhl.out.s t N (Nat.le_refl _)) (Hhl.out.d t ht) Hhdn.out (Hhl.out.a t);change Calls _ _ _ _ (FR (va v f N L U t) _) at hc;refine hE.fr (hc) ?_;clear hE;intro sr Ar nr cr tr Br mr dr w19 hE;clear hc;go_wp2_with fail
   refine hK.out _ _ (⟨hE.h9,hE.h6,hE.h4,hE.h3,hE.h2,hE.here.1.2⟩) (fun hHeld=> ?_);clear hK K;try simp only[PL]
   refine r1 8 (fun K hK=> ?_)
   have hRl:w.heap.size<=w.heap.size+1:=by omega
   obtain⟨WW,hWW,hB,hV,hBel⟩:=ret_frac hE hE.h8 hRl hE.here.2 cr dr;obtain⟨x0,x1,x2,x3⟩:=(hE.h8).c4;obtain⟨fz0,fz1,fz2,fz3⟩:=hE.h8.f4;have HWW:=Lib.hid hWW;clear hWW;go_simp;rw[<-HWW.out];refine hK.out _ _ (by rw[HWW.out];exact⟨(hE.h9).far4 (R:=w.heap.size+1) (by omega) (.bool sr) (.slice Ar nr cr) (.bool tr) (.slice Br mr dr),(hE.h6).far4 (R:=w.heap.size+1) (by omega) (.bool sr) (.slice Ar nr cr) (.bool tr) (.slice Br mr dr),(hE.h4).far4 (R:=w.heap.size+1) (by omega) (.bool sr) (.slice Ar nr cr) (.bool tr) (.slice Br mr dr),(hE.h3).far4 (R:=w.heap.size+1) (by omega) (.bool sr) (.slice Ar nr cr) (.bool tr) (.slice Br mr dr),(hE.h2).far4 (R:=w.heap.size+1) (by omega) (.bool sr) (.slice Ar nr cr) (.bool tr) (.slice Br mr dr),(hE.here.1.2).far4 (R:=w.heap.size+1) (by omega) (.bool sr) (.slice Ar nr cr) (.bool tr) (.slice Br mr dr)⟩) (fun hHeld=> ?_);clear hK K;try simp only[PL]
   refine wpAnyH_done (by kernel_rfl) ?_ _;go_wp2_with fail
   obtain⟨y0,y1,y2,y3⟩:=hB.c4;refine bodyPost_ret (v:= .agg (qf4 sr Ar nr cr tr Br mr dr)) (by simp[results,Tryz.results62,go_sem,y0,y1,y2,y3]) rfl ?_;exact⟨sr,Ar,nr,cr,tr,Br,mr,dr,rfl,hV,hBel⟩
end Go.Proofs.YtclbiihcbfnjmaaGreat
