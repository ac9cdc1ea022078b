/-
  Parts.
-/
import Derived.Test.YtclbiihcbfnjmaaGreatE9
import Derived.Test.YtclbiihcbfnjmaaGreatE10
import Derived.Test.YtclbiihcbfnjmaaGreatE12
set_option linter.unusedSimpArgs false
set_option maxRecDepth 100000
set_option maxHeartbeats 8000000
namespace Go.Proofs.YtclbiihcbfnjmaaGreat
open Go.RowKit

theorem NK (it:Nat->Nat->Rat)(k:Nat):rep it 0 k=((0:Int):Rat):=rfl
theorem NL (it:Nat->Nat->Rat):fI (rep it 0)=((0:Int):Rat):=by unfold fI;simp only[NK];decide+kernel
theorem Cr (b d:Bh)(q:FH)(w:World)(hb:b.rd w)(hd:d.rd w)(hq:q.rd w):
  Calls Tryz.prog 12 #[.agg b.C,.agg #[.int .i64 d.F,.int .i64 d.S,.slice d.A d.n d.c,.bool d.i.s,.slice d.i.A d.i.n d.i.c,.bool d.i.t,.slice d.i.B d.i.m d.i.d],.agg (az q.s q.A q.n q.c q.t q.B q.m q.d)] w (fun e w'=>e= .returned (.bool true)/\Below w.heap.size w w'):=by
 have jG:=Lib.hid hb;clear hb;have Hhd:=Lib.hid hd;clear hd;have Hhq:=Lib.hid hq;clear hq;have hE:=(((Env.start w).blk 31 b.C (g:=w.heap.size) rfl).blk 31 #[.int .i64 d.F,.int .i64 d.S,.slice d.A d.n d.c,.bool d.i.s,.slice d.i.A d.i.n d.i.c,.bool d.i.t,.slice d.i.B d.i.m d.i.d] (g:=w.heap.size+1) (by simp)).blk 29 (az q.s q.A q.n q.c q.t q.B q.m q.d) (g:=w.heap.size+1+1) (by simp)
 obtain⟨W0,aC⟩:∃W0,W0=(((w.alloc (.cells b.C 31)).alloc (.cells #[.int .i64 d.F,.int .i64 d.S,.slice d.A d.n d.c,.bool d.i.s,.slice d.i.A d.i.n d.i.c,.bool d.i.t,.slice d.i.B d.i.m d.i.d] 31)).alloc (.cells (az q.s q.A q.n q.c q.t q.B q.m q.d) 29)):=⟨_,rfl⟩
 rw[<-aC] at hE;have aU:=Lib.hid aC;clear aC
 go_enter Tryz.func12,Tryz.ntmps12
 go_upto_region 1 with(fail)
 rw[<-aU.out];go_wp2_with fail
 refine hE.br (mC _) ?_;clear hE;intro w1 hE;have lH:(Instr.loadAt 31 (.pointer (some ⟨w.heap.size,0,none⟩))).run Tryz.prog w1= .ok (.agg b.C) w1:=run_loadAt_mid _ _ _ _ [.int .i64 b.F,.int .i64 b.S,.slice b.A b.n b.c,.bool b.i.s,.slice b.i.A b.i.n b.i.c,.bool b.i.t,.slice b.i.B b.i.m b.i.d] _ (ak.mid (hE.h2) 0 rfl) Tryz.underlying31 rfl (by kernel_rfl);have kJ:(Instr.loadAt 31 (.pointer (some ⟨w.heap.size+1,0,none⟩))).run Tryz.prog w1= .ok (.agg #[.int .i64 d.F,.int .i64 d.S,.slice d.A d.n d.c,.bool d.i.s,.slice d.i.A d.i.n d.i.c,.bool d.i.t,.slice d.i.B d.i.m d.i.d]) w1:=run_loadAt_mid _ _ _ _ [.int .i64 d.F,.int .i64 d.S,.slice d.A d.n d.c,.bool d.i.s,.slice d.i.A d.i.n d.i.c,.bool d.i.t,.slice d.i.B d.i.m d.i.d] _ (ak.mid (hE.here.1.2) 0 rfl) Tryz.underlying31 rfl (by kernel_rfl);have IW:(Instr.loadAt 29 (.pointer (some ⟨w.heap.size+1+1,0,none⟩))).run Tryz.prog w1= .ok (.agg (az q.s q.A q.n q.c q.t q.B q.m q.d)) w1:=run_loadAt_mid _ _ _ _ [.bool q.s,.slice q.A q.n q.c,.bool q.t,.slice q.B q.m q.d] _ (ak.mid (hE.here.2) 0 rfl) Tryz.underlying29 rfl (by kernel_rfl);obtain⟨V0,hst,dY,iC⟩:=dO w1 67 (z:=#[.int .i64 0,.int .i64 0,.slice none 0 0,.bool false,.slice none 0 0,.bool false,.slice none 0 0,.int .i64 0,.int .i64 0,.slice none 0 0,.bool false,.slice none 0 0,.bool false,.slice none 0 0,.bool false,.slice none 0 0,.bool false,.slice none 0 0,.slice none 0 0]) [.int .i64 b.F,.int .i64 b.S,.slice b.A b.n b.c,.bool b.i.s,.slice b.i.A b.i.n b.i.c,.bool b.i.t,.slice b.i.B b.i.m b.i.d,.int .i64 d.F,.int .i64 d.S,.slice d.A d.n d.c,.bool d.i.s,.slice d.i.A d.i.n d.i.c,.bool d.i.t,.slice d.i.B d.i.m d.i.d,.bool q.s,.slice q.A q.n q.c,.bool q.t,.slice q.B q.m q.d,.slice none 0 0] rfl (by kernel_rfl) rfl;have hQ:=Lib.hid (And.intro dY iC);clear dY iC
 go_upto_region 4 with(first|refine aK lH rfl rfl rfl ?_|refine aK kJ rfl rfl rfl ?_|refine aK IW rfl rfl rfl ?_|refine cC hst rfl rfl rfl rfl ?_)
 clear lH kJ IW hst
 obtain⟨gy,hgy⟩:∃g,g=w1.heap.size:=⟨_,rfl⟩
 rw[<-hgy] at hQ⊢;have dY:=hQ.out.1;rw[hgy] at dY;replace hE:=(hE.step dY).af hQ.out.2;clear dY hgy hQ;have hY:Yh.rd (Yh.mk b d q none 0 0 (fun _=>default)) w:=⟨jG.out,Hhd.out,Hhq.out,nP.nil _ _ _⟩
 have hi:Yh.i (Yh.mk b d q none 0 0 (fun _=>default)):=fun k hk=>absurd hk (Nat.not_lt_zero k)
 have uS:(Yh.n (Yh.mk b d q none 0 0 (fun _=>default)))<=9223372036854775807:=Nat.zero_le _;have eU:=Lib.hid hY;clear hY;have mP:=Lib.hid hi;clear hi;have ua:=Lib.hid uS;clear uS;have dH:(Instr.loadAt 67 (.pointer (some ⟨gy,0,none⟩))).run Tryz.prog V0= .ok (.agg #[.int .i64 b.F,.int .i64 b.S,.slice b.A b.n b.c,.bool b.i.s,.slice b.i.A b.i.n b.i.c,.bool b.i.t,.slice b.i.B b.i.m b.i.d,.int .i64 d.F,.int .i64 d.S,.slice d.A d.n d.c,.bool d.i.s,.slice d.i.A d.i.n d.i.c,.bool d.i.t,.slice d.i.B d.i.m d.i.d,.bool q.s,.slice q.A q.n q.c,.bool q.t,.slice q.B q.m q.d,.slice none 0 0]) V0:=run_loadAt_mid _ _ _ _ [.int .i64 b.F,.int .i64 b.S,.slice b.A b.n b.c,.bool b.i.s,.slice b.i.A b.i.n b.i.c,.bool b.i.t,.slice b.i.B b.i.m b.i.d,.int .i64 d.F,.int .i64 d.S,.slice d.A d.n d.c,.bool d.i.s,.slice d.i.A d.i.n d.i.c,.bool d.i.t,.slice d.i.B d.i.m d.i.d,.bool q.s,.slice q.A q.n q.c,.bool q.t,.slice q.B q.m q.d,.slice none 0 0] _ (ak.mid (hE.here.2) 0 rfl) Tryz.underlying67 rfl (by kernel_rfl);go_wp2_with (first|refine aK dH rfl rfl rfl ?_|refine bC dH (by rfl) rfl rfl ?_)
 clear dH;refine(iI (y:=(Yh.mk b d q none 0 0 (fun _=>default))) (Yh.aA eU.out hE.av) mP.out ua.out).mono ?_
 rintro e w2 ⟨v,rfl,hv,hb⟩
 replace hE:=hE.step hb;clear hb
 cases v with
 |false=>
  clear hv;go_wp2_with fail
  go_ret
  exact⟨rfl,hE.av⟩
 |true=>
  have hU:=hv.1 rfl;clear hv;have yo:=hU.ys;have ym:=hU.1.bd (by decide) mP.out;have HhU:=Lib.hid hU;clear hU;have iR:=Lib.hid yo;clear yo;have jw:=Lib.hid ym;clear ym;have dH:(Instr.loadAt 67 (.pointer (some ⟨gy,0,none⟩))).run Tryz.prog w2= .ok (.agg #[.int .i64 b.F,.int .i64 b.S,.slice b.A b.n b.c,.bool b.i.s,.slice b.i.A b.i.n b.i.c,.bool b.i.t,.slice b.i.B b.i.m b.i.d,.int .i64 d.F,.int .i64 d.S,.slice d.A d.n d.c,.bool d.i.s,.slice d.i.A d.i.n d.i.c,.bool d.i.t,.slice d.i.B d.i.m d.i.d,.bool q.s,.slice q.A q.n q.c,.bool q.t,.slice q.B q.m q.d,.slice none 0 0]) w2:=run_loadAt_mid _ _ _ _ [.int .i64 b.F,.int .i64 b.S,.slice b.A b.n b.c,.bool b.i.s,.slice b.i.A b.i.n b.i.c,.bool b.i.t,.slice b.i.B b.i.m b.i.d,.int .i64 d.F,.int .i64 d.S,.slice d.A d.n d.c,.bool d.i.s,.slice d.i.A d.i.n d.i.c,.bool d.i.t,.slice d.i.B d.i.m d.i.d,.bool q.s,.slice q.A q.n q.c,.bool q.t,.slice q.B q.m q.d,.slice none 0 0] _ (ak.mid (hE.here.2) 0 rfl) Tryz.underlying67 rfl (by kernel_rfl);go_wp2_with (first|refine aK dH rfl rfl rfl ?_|refine bC dH (by rfl) rfl rfl ?_)
  clear dH;refine(ep (y:=(Yh.mk b d q none 0 0 (fun _=>default))) (Yh.aA eU.out hE.av) jw.out mP.out iR.out).mono ?_
  rintro e w3 ⟨h,rfl,hF,hb⟩
  replace hE:=hE.step hb;clear hb
  have eI:∀k,k<11->FV w3 ((0:Int):Rat) (h k).s (h k).A (h k).n (h k).t (h k).B (h k).m:=fun k hk=>by
   have h9:=hF k hk
   dsimp only at h9
   by_cases h10:k=10
   ·rw[if_pos h10] at h9;rw[<-NL];exact h9
   ·rw[if_neg h10] at h9;exact h9
  clear hF;replace hE:=hE.and (Q:=fun V=>∀k,k<11->FV V ((0:Int):Rat) (h k).s (h k).A (h k).n (h k).t (h k).B (h k).m) (fun _ _ hb hk k hlt=>(hk k hlt).below hb) eI;clear eI;obtain⟨VR,hst,dY,iC⟩:=dO w3 61 (z:=#[.bool false,.slice none 0 0,.bool false,.slice none 0 0,.bool false,.slice none 0 0,.bool false,.slice none 0 0,.bool false,.slice none 0 0,.bool false,.slice none 0 0,.bool false,.slice none 0 0,.bool false,.slice none 0 0,.bool false,.slice none 0 0,.bool false,.slice none 0 0,.bool false,.slice none 0 0,.bool false,.slice none 0 0,.bool false,.slice none 0 0,.bool false,.slice none 0 0,.bool false,.slice none 0 0,.bool false,.slice none 0 0,.bool false,.slice none 0 0,.bool false,.slice none 0 0,.bool false,.slice none 0 0,.bool false,.slice none 0 0,.bool false,.slice none 0 0,.bool false,.slice none 0 0]) (cP h) rfl (by kernel_rfl) rfl;have hQ:=Lib.hid (And.intro dY iC);clear dY iC
  go_upto_region 7 with(first|refine cC hst rfl rfl rfl rfl ?_)
  clear hst
  obtain⟨gR,pg⟩:∃g,g=w3.heap.size:=⟨_,rfl⟩
  have WC:w.heap.size<gR:=by rw[pg];exact(hE.h4).lt
  have ao1:w.heap.size+1<gR:=by rw[pg];exact(hE.h3).lt
  have ao2:w.heap.size+1+1<gR:=by rw[pg];exact(hE.h2).lt
  have ao3:gy<gR:=by rw[pg];exact(hE.here.1.2).lt
  rw[<-pg] at hQ⊢;have dY:=hQ.out.1;rw[pg] at dY;replace hE:=(hE.step dY).af (show ak 61 gR #[.bool (h 0).s,.slice (h 0).A (h 0).n (h 0).c,.bool (h 0).t,.slice (h 0).B (h 0).m (h 0).d,.bool (h 1).s,.slice (h 1).A (h 1).n (h 1).c,.bool (h 1).t,.slice (h 1).B (h 1).m (h 1).d,.bool (h 2).s,.slice (h 2).A (h 2).n (h 2).c,.bool (h 2).t,.slice (h 2).B (h 2).m (h 2).d,.bool (h 3).s,.slice (h 3).A (h 3).n (h 3).c,.bool (h 3).t,.slice (h 3).B (h 3).m (h 3).d,.bool (h 4).s,.slice (h 4).A (h 4).n (h 4).c,.bool (h 4).t,.slice (h 4).B (h 4).m (h 4).d,.bool (h 5).s,.slice (h 5).A (h 5).n (h 5).c,.bool (h 5).t,.slice (h 5).B (h 5).m (h 5).d,.bool (h 6).s,.slice (h 6).A (h 6).n (h 6).c,.bool (h 6).t,.slice (h 6).B (h 6).m (h 6).d,.bool (h 7).s,.slice (h 7).A (h 7).n (h 7).c,.bool (h 7).t,.slice (h 7).B (h 7).m (h 7).d,.bool (h 8).s,.slice (h 8).A (h 8).n (h 8).c,.bool (h 8).t,.slice (h 8).B (h 8).m (h 8).d,.bool (h 9).s,.slice (h 9).A (h 9).n (h 9).c,.bool (h 9).t,.slice (h 9).B (h 9).m (h 9).d,.bool (h 10).s,.slice (h 10).A (h 10).n (h 10).c,.bool (h 10).t,.slice (h 10).B (h 10).m (h 10).d] VR from hQ.out.2);clear dY pg hQ;go_wp2_with fail
  go_loopw [10] (fun p wr=>∃k:Nat,k<=11/\p= .int .i64 (k:Int)/\Env w (fun V=>((True/\∀k,k<11->FV V ((0:Int):Rat) (h k).s (h k).A (h k).n (h k).t (h k).B (h k).m)/\ak 61 (gR) #[.bool (h 0).s,.slice (h 0).A (h 0).n (h 0).c,.bool (h 0).t,.slice (h 0).B (h 0).m (h 0).d,.bool (h 1).s,.slice (h 1).A (h 1).n (h 1).c,.bool (h 1).t,.slice (h 1).B (h 1).m (h 1).d,.bool (h 2).s,.slice (h 2).A (h 2).n (h 2).c,.bool (h 2).t,.slice (h 2).B (h 2).m (h 2).d,.bool (h 3).s,.slice (h 3).A (h 3).n (h 3).c,.bool (h 3).t,.slice (h 3).B (h 3).m (h 3).d,.bool (h 4).s,.slice (h 4).A (h 4).n (h 4).c,.bool (h 4).t,.slice (h 4).B (h 4).m (h 4).d,.bool (h 5).s,.slice (h 5).A (h 5).n (h 5).c,.bool (h 5).t,.slice (h 5).B (h 5).m (h 5).d,.bool (h 6).s,.slice (h 6).A (h 6).n (h 6).c,.bool (h 6).t,.slice (h 6).B (h 6).m (h 6).d,.bool (h 7).s,.slice (h 7).A (h 7).n (h 7).c,.bool (h 7).t,.slice (h 7).B (h 7).m (h 7).d,.bool (h 8).s,.slice (h 8).A (h 8).n (h 8).c,.bool (h 8).t,.slice (h 8).B (h 8).m (h 8).d,.bool (h 9).s,.slice (h 9).A (h 9).n (h 9).c,.bool (h 9).t,.slice (h 9).B (h 9).m (h 9).d,.bool (h 10).s,.slice (h 10).A (h 10).n (h 10).c,.bool (h 10).t,.slice (h 10).B (h 10).m (h 10).d] V)) wr) (fun p _=>11-(intOf p).toNat)
  case atStart=>exact⟨0,Nat.zero_le _,rfl,((Env.again hE.av).and (Q:=fun V=>∀k,k<11->FV V ((0:Int):Rat) (h k).s (h k).A (h k).n (h k).t (h k).B (h k).m) (fun _ _ hb hk k hlt=>(hk k hlt).below hb) (hE.here.1.2)).af (hE.here.2)⟩
  case round=>
   clear hE;obtain⟨k,hk,rfl,hE⟩:=hrel;have dH:(Instr.loadAt 61 (.pointer (some ⟨gR,0,none⟩))).run Tryz.prog wr= .ok (.agg (cP h).toArray) wr:=run_loadAt_mid _ _ _ _ (cP h) _ (ak.mid (hE.here.2) 0 rfl) Tryz.underlying61 rfl (by kernel_rfl);go_wp2_with (first|refine aK dH rfl rfl rfl ?_|refine bC dH (by rfl) rfl rfl ?_)
   clear dH;refine(iA h _).mono ?_
   rintro e w7 ⟨GL,rfl,hR,hb⟩
   replace hE:=hE.step hb;clear hb hR
   by_cases hlt:k<11
   rotate_left
   ·
    obtain rfl:k=11:=by omega
    have t1:decide (((11:Nat):Int)<11)=false:=decide_eq_false (by decide);have t3:decide ((11:Int)<11)=false:=decide_eq_false (by decide);go_wp2_with fail
    go_ret
    exact⟨rfl,hE.av⟩
   have t1:decide ((k:Int)<11)=true:=decide_eq_true (by omega)
   have t2:(k:Int)<11:=by omega
   go_upto_region 10 with(fail)
   clear t1;replace hE:=hE.drew;refine wp_region_held_drew (S:=fun V=>ak 61 (gR) #[.bool (h 0).s,.slice (h 0).A (h 0).n (h 0).c,.bool (h 0).t,.slice (h 0).B (h 0).m (h 0).d,.bool (h 1).s,.slice (h 1).A (h 1).n (h 1).c,.bool (h 1).t,.slice (h 1).B (h 1).m (h 1).d,.bool (h 2).s,.slice (h 2).A (h 2).n (h 2).c,.bool (h 2).t,.slice (h 2).B (h 2).m (h 2).d,.bool (h 3).s,.slice (h 3).A (h 3).n (h 3).c,.bool (h 3).t,.slice (h 3).B (h 3).m (h 3).d,.bool (h 4).s,.slice (h 4).A (h 4).n (h 4).c,.bool (h 4).t,.slice (h 4).B (h 4).m (h 4).d,.bool (h 5).s,.slice (h 5).A (h 5).n (h 5).c,.bool (h 5).t,.slice (h 5).B (h 5).m (h 5).d,.bool (h 6).s,.slice (h 6).A (h 6).n (h 6).c,.bool (h 6).t,.slice (h 6).B (h 6).m (h 6).d,.bool (h 7).s,.slice (h 7).A (h 7).n (h 7).c,.bool (h 7).t,.slice (h 7).B (h 7).m (h 7).d,.bool (h 8).s,.slice (h 8).A (h 8).n (h 8).c,.bool (h 8).t,.slice (h 8).B (h 8).m (h 8).d,.bool (h 9).s,.slice (h 9).A (h 9).n (h 9).c,.bool (h 9).t,.slice (h 9).B (h 9).m (h 9).d,.bool (h 10).s,.slice (h 10).A (h 10).n (h 10).c,.bool (h 10).t,.slice (h 10).B (h 10).m (h 10).d] V) (by kernel_rfl) (hE.here.2) (fun hHeld=> ?_)
   generalize w7.drew=wd at*
   refine wpAnyH_take (i:=0) (v:= .agg (cP h).toArray) rfl (by kernel_rfl) (by kernel_rfl) (by kernel_rfl) (fun _ _ _ h=>h) (Or.inl ⟨by rfl, ?pF⟩) (by assumption) ?wA
   case pF=>
    intro w ay;exact gC (run_loadAt_mid _ _ _ _ (cP h) _ (ak.mid (ay) 0 rfl) Tryz.underlying61 rfl (by kernel_rfl)) rfl rfl
   try simp only[PL]
   refine tk 2 ?_;refine r1 1 (fun K hK=> ?_);go_simp;refine(iA h _).mono ?_
   rintro e w8 ⟨GL,rfl,hR,hb⟩
   replace hE:=(hE.step hb).Ci hR;clear hb hR;go_wp2_with fail
   refine hK.out _ _ (hE.here.1.2) (fun hHeld=> ?_);clear hK K;try simp only[PL]
   refine tk 3 ?_;refine wpAnyH_ready (rs:=[4,5]) (by kernel_rfl) (by simp) (AllReadyH.cons rfl (fun K hK=> ?_) (AllReadyH.cons rfl (fun K hK=> ?_) (AllReadyH.nil)))
   ·
    have iM:=Rw.cH (hE.here.2) hlt (show 0<4 by decide) (show k*4=k*4+0 by rfl) rfl;have iP:=Rw.cH (hE.here.2) hlt (show 1<4 by decide) (show k*4+1=k*4+1 by rfl) rfl;have jb:=Rw.cH (hE.here.2) hlt (show 2<4 by decide) (show k*4+2=k*4+2 by rfl) rfl;have jc:=Rw.cH (hE.here.2) hlt (show 3<4 by decide) (show k*4+3=k*4+3 by rfl) rfl;go_simp;clear iM iP jb jc;refine hK.out _ _ (hE.here.1.2) (fun hHeld=> ?_);clear hK K;try simp only[PL]
    refine r1 5 (fun K hK=> ?_);go_simp;refine hE.fr (aR 0 _ (by decide) (by decide)) ?_;clear hE;intro sz Az nz cz tz Bz mz dz w4 hE;go_wp2_with fail
    refine hK.out _ _ (hE.h2) (fun hHeld=> ?_);clear hK K;try simp only[PL]
    refine r1 6 (fun K hK=> ?_);go_simp;refine hE.br (ec (v:=true) (ca:=(h k).c) (da:=(h k).d) (cb:=cz) (db:=dz) (hE.h3 k hlt) (hE.here.2) (by rw[bV];decide+kernel) (by rw[bV];decide+kernel) (decide_eq_true rfl)) ?_;clear hE;intro w5 hE;go_wp2_with fail
    refine hK.out _ _ (hE.h2) (fun hHeld=> ?_);clear hK K;try simp only[PL]
    refine tk 7 ?_;refine wpAnyH_done (by kernel_rfl) ?_ _;go_wp2_with fail
    go_roundw
    case rel=>exact⟨k+1,by omega,by go_num,((Env.again hE.av).and (Q:=fun V=>∀k,k<11->FV V ((0:Int):Rat) (h k).s (h k).A (h k).n (h k).t (h k).B (h k).m) (fun _ _ hb hk k hlt=>(hk k hlt).below hb) (hE.h3)).af (hE.h2)⟩
    case measure=>simp[intOf];omega
   ·
    go_simp;refine hE.fr (aR 0 _ (by decide) (by decide)) ?_;clear hE;intro sz Az nz cz tz Bz mz dz w6 hE;go_wp2_with fail
    refine hK.out _ _ (hE.h2) (fun hHeld=> ?_);clear hK K;try simp only[PL]
    refine r1 4 (fun K hK=> ?_);have iM:=Rw.cH (hE.here.1.2) hlt (show 0<4 by decide) (show k*4=k*4+0 by rfl) rfl;have iP:=Rw.cH (hE.here.1.2) hlt (show 1<4 by decide) (show k*4+1=k*4+1 by rfl) rfl;have jb:=Rw.cH (hE.here.1.2) hlt (show 2<4 by decide) (show k*4+2=k*4+2 by rfl) rfl;have jc:=Rw.cH (hE.here.1.2) hlt (show 3<4 by decide) (show k*4+3=k*4+3 by rfl) rfl;go_simp;clear iM iP jb jc;refine hK.out _ _ (hE.h2) (fun hHeld=> ?_);clear hK K;try simp only[PL]
    refine r1 6 (fun K hK=> ?_);go_simp;refine hE.br (ec (v:=true) (ca:=(h k).c) (da:=(h k).d) (cb:=cz) (db:=dz) (hE.h3 k hlt) (hE.here.2) (by rw[bV];decide+kernel) (by rw[bV];decide+kernel) (decide_eq_true rfl)) ?_;clear hE;intro w7 hE;go_wp2_with fail
    refine hK.out _ _ (hE.h2) (fun hHeld=> ?_);clear hK K;try simp only[PL]
    refine tk 7 ?_;refine wpAnyH_done (by kernel_rfl) ?_ _;go_wp2_with fail
    go_roundw
    case rel=>exact⟨k+1,by omega,by go_num,((Env.again hE.av).and (Q:=fun V=>∀k,k<11->FV V ((0:Int):Rat) (h k).s (h k).A (h k).n (h k).t (h k).B (h k).m) (fun _ _ hb hk k hlt=>(hk k hlt).below hb) (hE.h3)).af (hE.h2)⟩
    case measure=>simp[intOf];omega
end Go.Proofs.YtclbiihcbfnjmaaGreat
