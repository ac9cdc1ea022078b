/-
  Parts.
-/
import Derived.Test.YtclbiihcbfnjmaaGreatE9
import Derived.Test.YtclbiihcbfnjmaaGreatE10
set_option linter.unusedSimpArgs false
set_option maxRecDepth 100000
set_option maxHeartbeats 8000000
namespace Go.Proofs.YtclbiihcbfnjmaaGreat
open Go.RowKit

theorem Jq (y:Yh)(w:World)(hY:y.rd w)(hi:y.i)(uS:y.n<=9223372036854775807):
  Calls Tryz.prog 9 #[.agg #[.int .i64 y.b.F,.int .i64 y.b.S,.slice y.b.A y.b.n y.b.c,.bool y.b.i.s,.slice y.b.i.A y.b.i.n y.b.i.c,.bool y.b.i.t,.slice y.b.i.B y.b.i.m y.b.i.d,.int .i64 y.d.F,.int .i64 y.d.S,.slice y.d.A y.d.n y.d.c,.bool y.d.i.s,.slice y.d.i.A y.d.i.n y.d.i.c,.bool y.d.i.t,.slice y.d.i.B y.d.i.m y.d.i.d,.bool y.j.s,.slice y.j.A y.j.n y.j.c,.bool y.j.t,.slice y.j.B y.j.m y.j.d,.slice y.A y.n y.c]] w (fun e w'=>e= .returned (.bool true)/\Below w.heap.size w w'):=by
 have eU:=Lib.hid hY;clear hY;have mP:=Lib.hid hi;clear hi;have ua:=Lib.hid uS;clear uS;have hE:=(Env.start w).blk 67 #[.int .i64 y.b.F,.int .i64 y.b.S,.slice y.b.A y.b.n y.b.c,.bool y.b.i.s,.slice y.b.i.A y.b.i.n y.b.i.c,.bool y.b.i.t,.slice y.b.i.B y.b.i.m y.b.i.d,.int .i64 y.d.F,.int .i64 y.d.S,.slice y.d.A y.d.n y.d.c,.bool y.d.i.s,.slice y.d.i.A y.d.i.n y.d.i.c,.bool y.d.i.t,.slice y.d.i.B y.d.i.m y.d.i.d,.bool y.j.s,.slice y.j.A y.j.n y.j.c,.bool y.j.t,.slice y.j.B y.j.m y.j.d,.slice y.A y.n y.c] (g:=w.heap.size) rfl
 obtain⟨W0,aC⟩:∃W0,W0=(w.alloc (.cells #[.int .i64 y.b.F,.int .i64 y.b.S,.slice y.b.A y.b.n y.b.c,.bool y.b.i.s,.slice y.b.i.A y.b.i.n y.b.i.c,.bool y.b.i.t,.slice y.b.i.B y.b.i.m y.b.i.d,.int .i64 y.d.F,.int .i64 y.d.S,.slice y.d.A y.d.n y.d.c,.bool y.d.i.s,.slice y.d.i.A y.d.i.n y.d.i.c,.bool y.d.i.t,.slice y.d.i.B y.d.i.m y.d.i.d,.bool y.j.s,.slice y.j.A y.j.n y.j.c,.bool y.j.t,.slice y.j.B y.j.m y.j.d,.slice y.A y.n y.c] 67)):=⟨_,rfl⟩
 rw[<-aC] at hE;have aU:=Lib.hid aC;clear aC
 go_enter Tryz.func9,Tryz.ntmps9
 go_upto_region 1 with(fail)
 rw[<-aU.out];go_wp2_with fail
 refine hE.br (mC _) ?_;clear hE;intro w1 hE;have dH:(Instr.loadAt 67 (.pointer (some ⟨w.heap.size,0,none⟩))).run Tryz.prog w1= .ok (.agg #[.int .i64 y.b.F,.int .i64 y.b.S,.slice y.b.A y.b.n y.b.c,.bool y.b.i.s,.slice y.b.i.A y.b.i.n y.b.i.c,.bool y.b.i.t,.slice y.b.i.B y.b.i.m y.b.i.d,.int .i64 y.d.F,.int .i64 y.d.S,.slice y.d.A y.d.n y.d.c,.bool y.d.i.s,.slice y.d.i.A y.d.i.n y.d.i.c,.bool y.d.i.t,.slice y.d.i.B y.d.i.m y.d.i.d,.bool y.j.s,.slice y.j.A y.j.n y.j.c,.bool y.j.t,.slice y.j.B y.j.m y.j.d,.slice y.A y.n y.c]) w1:=run_loadAt_mid _ _ _ _ [.int .i64 y.b.F,.int .i64 y.b.S,.slice y.b.A y.b.n y.b.c,.bool y.b.i.s,.slice y.b.i.A y.b.i.n y.b.i.c,.bool y.b.i.t,.slice y.b.i.B y.b.i.m y.b.i.d,.int .i64 y.d.F,.int .i64 y.d.S,.slice y.d.A y.d.n y.d.c,.bool y.d.i.s,.slice y.d.i.A y.d.i.n y.d.i.c,.bool y.d.i.t,.slice y.d.i.B y.d.i.m y.d.i.d,.bool y.j.s,.slice y.j.A y.j.n y.j.c,.bool y.j.t,.slice y.j.B y.j.m y.j.d,.slice y.A y.n y.c] _ (ak.mid (hE.here.2) 0 rfl) Tryz.underlying67 rfl (by kernel_rfl);go_wp2_with (first|refine aK dH rfl rfl rfl ?_|refine bC dH (by rfl) rfl rfl ?_)
 clear dH;refine(iI (y:=y) (Yh.aA eU.out hE.av) mP.out ua.out).mono ?_
 rintro e w2 ⟨v,rfl,hv,hb⟩
 replace hE:=hE.step hb;clear hb
 cases v with
 |false=>
  clear hv;go_wp2_with fail
  go_ret
  exact⟨rfl,hE.av⟩
 |true=>
  have hU:=hv.1 rfl;clear hv;have yo:=hU.ys;have ym:=hU.1.bd (by decide) mP.out;have HhU:=Lib.hid hU;clear hU;have iR:=Lib.hid yo;clear yo;have jw:=Lib.hid ym;clear ym;have KA:yL (rep y.it y.n):=(iR.out).rep eU.out y.n (Nat.le_refl _);have NT:=(iR.out).sum eU.out;have dH:(Instr.loadAt 67 (.pointer (some ⟨w.heap.size,0,none⟩))).run Tryz.prog w2= .ok (.agg #[.int .i64 y.b.F,.int .i64 y.b.S,.slice y.b.A y.b.n y.b.c,.bool y.b.i.s,.slice y.b.i.A y.b.i.n y.b.i.c,.bool y.b.i.t,.slice y.b.i.B y.b.i.m y.b.i.d,.int .i64 y.d.F,.int .i64 y.d.S,.slice y.d.A y.d.n y.d.c,.bool y.d.i.s,.slice y.d.i.A y.d.i.n y.d.i.c,.bool y.d.i.t,.slice y.d.i.B y.d.i.m y.d.i.d,.bool y.j.s,.slice y.j.A y.j.n y.j.c,.bool y.j.t,.slice y.j.B y.j.m y.j.d,.slice y.A y.n y.c]) w2:=run_loadAt_mid _ _ _ _ [.int .i64 y.b.F,.int .i64 y.b.S,.slice y.b.A y.b.n y.b.c,.bool y.b.i.s,.slice y.b.i.A y.b.i.n y.b.i.c,.bool y.b.i.t,.slice y.b.i.B y.b.i.m y.b.i.d,.int .i64 y.d.F,.int .i64 y.d.S,.slice y.d.A y.d.n y.d.c,.bool y.d.i.s,.slice y.d.i.A y.d.i.n y.d.i.c,.bool y.d.i.t,.slice y.d.i.B y.d.i.m y.d.i.d,.bool y.j.s,.slice y.j.A y.j.n y.j.c,.bool y.j.t,.slice y.j.B y.j.m y.j.d,.slice y.A y.n y.c] _ (ak.mid (hE.here.2) 0 rfl) Tryz.underlying67 rfl (by kernel_rfl);go_wp2_with (first|refine aK dH rfl rfl rfl ?_|refine bC dH (by rfl) rfl rfl ?_)
  clear dH;refine(ep (y:=y) (Yh.aA eU.out hE.av) jw.out mP.out iR.out).mono ?_
  rintro e w3 ⟨h,rfl,hF,hb⟩
  replace hE:=hE.step hb;clear hb
  obtain⟨X,hX⟩:∃X,X=rep y.it y.n:=⟨_,rfl⟩
  rw[<-hX] at hF KA NT;clear hX
  have f0:FV w3 (X 0) (h 0).s (h 0).A (h 0).n (h 0).t (h 0).B (h 0).m:=by have h9:=hF 0 (by decide);dsimp only at h9;rw[if_neg (by decide)] at h9;exact h9
  replace hE:=hE.fv f0;clear f0
  have f1:FV w3 (X 1) (h 1).s (h 1).A (h 1).n (h 1).t (h 1).B (h 1).m:=by have h9:=hF 1 (by decide);dsimp only at h9;rw[if_neg (by decide)] at h9;exact h9
  replace hE:=hE.fv f1;clear f1
  have f2:FV w3 (X 2) (h 2).s (h 2).A (h 2).n (h 2).t (h 2).B (h 2).m:=by have h9:=hF 2 (by decide);dsimp only at h9;rw[if_neg (by decide)] at h9;exact h9
  replace hE:=hE.fv f2;clear f2
  have f3:FV w3 (X 3) (h 3).s (h 3).A (h 3).n (h 3).t (h 3).B (h 3).m:=by have h9:=hF 3 (by decide);dsimp only at h9;rw[if_neg (by decide)] at h9;exact h9
  replace hE:=hE.fv f3;clear f3
  have f4:FV w3 (X 4) (h 4).s (h 4).A (h 4).n (h 4).t (h 4).B (h 4).m:=by have h9:=hF 4 (by decide);dsimp only at h9;rw[if_neg (by decide)] at h9;exact h9
  replace hE:=hE.fv f4;clear f4
  have f5:FV w3 (X 5) (h 5).s (h 5).A (h 5).n (h 5).t (h 5).B (h 5).m:=by have h9:=hF 5 (by decide);dsimp only at h9;rw[if_neg (by decide)] at h9;exact h9
  replace hE:=hE.fv f5;clear f5
  have f6:FV w3 (X 6) (h 6).s (h 6).A (h 6).n (h 6).t (h 6).B (h 6).m:=by have h9:=hF 6 (by decide);dsimp only at h9;rw[if_neg (by decide)] at h9;exact h9
  replace hE:=hE.fv f6;clear f6
  have f7:FV w3 (X 7) (h 7).s (h 7).A (h 7).n (h 7).t (h 7).B (h 7).m:=by have h9:=hF 7 (by decide);dsimp only at h9;rw[if_neg (by decide)] at h9;exact h9
  replace hE:=hE.fv f7;clear f7
  have f8:FV w3 (X 8) (h 8).s (h 8).A (h 8).n (h 8).t (h 8).B (h 8).m:=by have h9:=hF 8 (by decide);dsimp only at h9;rw[if_neg (by decide)] at h9;exact h9
  replace hE:=hE.fv f8;clear f8
  have f9:FV w3 (X 9) (h 9).s (h 9).A (h 9).n (h 9).t (h 9).B (h 9).m:=by have h9:=hF 9 (by decide);dsimp only at h9;rw[if_neg (by decide)] at h9;exact h9
  replace hE:=hE.fv f9;clear f9
  have f10:FV w3 (fI X) (h 10).s (h 10).A (h 10).n (h 10).t (h 10).B (h 10).m:=by have h9:=hF 10 (by decide);dsimp only at h9;rw[if_pos rfl] at h9;exact h9
  replace hE:=hE.fv f10;clear f10;clear hF;have nQ:=Lib.hid KA;clear KA;have amx:=Lib.hid NT;clear NT;obtain⟨VR,hst,dY,iC⟩:=dO w3 61 (z:=#[.bool false,.slice none 0 0,.bool false,.slice none 0 0,.bool false,.slice none 0 0,.bool false,.slice none 0 0,.bool false,.slice none 0 0,.bool false,.slice none 0 0,.bool false,.slice none 0 0,.bool false,.slice none 0 0,.bool false,.slice none 0 0,.bool false,.slice none 0 0,.bool false,.slice none 0 0,.bool false,.slice none 0 0,.bool false,.slice none 0 0,.bool false,.slice none 0 0,.bool false,.slice none 0 0,.bool false,.slice none 0 0,.bool false,.slice none 0 0,.bool false,.slice none 0 0,.bool false,.slice none 0 0,.bool false,.slice none 0 0,.bool false,.slice none 0 0,.bool false,.slice none 0 0]) (cP h) rfl (by kernel_rfl) rfl;have hQ:=Lib.hid (And.intro dY iC);clear dY iC
  go_upto_region 8 with(first|refine cC hst rfl rfl rfl rfl ?_)
  clear hst
  obtain⟨gR,pg⟩:∃g,g=w3.heap.size:=⟨_,rfl⟩
  have WC:w.heap.size<gR:=by rw[pg];exact(hE.h11).lt
  rw[<-pg] at hQ⊢;have dY:=hQ.out.1;rw[pg] at dY;replace hE:=(hE.step dY).af (show ak 61 gR #[.bool (h 0).s,.slice (h 0).A (h 0).n (h 0).c,.bool (h 0).t,.slice (h 0).B (h 0).m (h 0).d,.bool (h 1).s,.slice (h 1).A (h 1).n (h 1).c,.bool (h 1).t,.slice (h 1).B (h 1).m (h 1).d,.bool (h 2).s,.slice (h 2).A (h 2).n (h 2).c,.bool (h 2).t,.slice (h 2).B (h 2).m (h 2).d,.bool (h 3).s,.slice (h 3).A (h 3).n (h 3).c,.bool (h 3).t,.slice (h 3).B (h 3).m (h 3).d,.bool (h 4).s,.slice (h 4).A (h 4).n (h 4).c,.bool (h 4).t,.slice (h 4).B (h 4).m (h 4).d,.bool (h 5).s,.slice (h 5).A (h 5).n (h 5).c,.bool (h 5).t,.slice (h 5).B (h 5).m (h 5).d,.bool (h 6).s,.slice (h 6).A (h 6).n (h 6).c,.bool (h 6).t,.slice (h 6).B (h 6).m (h 6).d,.bool (h 7).s,.slice (h 7).A (h 7).n (h 7).c,.bool (h 7).t,.slice (h 7).B (h 7).m (h 7).d,.bool (h 8).s,.slice (h 8).A (h 8).n (h 8).c,.bool (h 8).t,.slice (h 8).B (h 8).m (h 8).d,.bool (h 9).s,.slice (h 9).A (h 9).n (h 9).c,.bool (h 9).t,.slice (h 9).B (h 9).m (h 9).d,.bool (h 10).s,.slice (h 10).A (h 10).n (h 10).c,.bool (h 10).t,.slice (h 10).B (h 10).m (h 10).d] VR from hQ.out.2);clear dY pg hQ;have dH:(Instr.loadAt 61 (.pointer (some ⟨gR,0,none⟩))).run Tryz.prog VR= .ok (.agg (cP h).toArray) VR:=run_loadAt_mid _ _ _ _ (cP h) _ (ak.mid (hE.here.2) 0 rfl) Tryz.underlying61 rfl (by kernel_rfl);go_wp2_with (first|refine aK dH rfl rfl rfl ?_|refine bC dH (by rfl) rfl rfl ?_)
  clear dH;refine hE.fr (tI (h:=h) (hE.h4) (hE.h3) (hE.h2) (nQ.out.l 7) (nQ.out.l 8) (nQ.out.l 9) nQ.out.src.1 nQ.out.src.2) ?_;clear hE;intro ss As ns cs ts Bs ms ds w4 hE
  go_upto_region 9 with(fail)
  obtain⟨g5,mT⟩:∃g5,g5=w4.heap.size:=⟨_,rfl⟩
  have Me:w.heap.size<g5:=by rw[mT];exact(hE.bZ).lt
  have amy:gR<g5:=by rw[mT];exact(hE.here.1.2).lt
  replace hE:=hE.blk 29 (az ss As ns cs ts Bs ms ds) (g:=g5) mT.symm;generalize w4.alloc (.cells (az ss As ns cs ts Bs ms ds) 29)=W5 at hE⊢;rw[<-mT];clear mT;have hfu:=nQ.out.amz;have hsp:=nQ.out.fI;have Cz:=Lib.hid hfu;clear hfu;have tX:=Lib.hid hsp;clear hsp;replace hE:=hE.drew;refine wp_region_held_drew (S:=fun V=>ak 61 (gR) #[.bool (h 0).s,.slice (h 0).A (h 0).n (h 0).c,.bool (h 0).t,.slice (h 0).B (h 0).m (h 0).d,.bool (h 1).s,.slice (h 1).A (h 1).n (h 1).c,.bool (h 1).t,.slice (h 1).B (h 1).m (h 1).d,.bool (h 2).s,.slice (h 2).A (h 2).n (h 2).c,.bool (h 2).t,.slice (h 2).B (h 2).m (h 2).d,.bool (h 3).s,.slice (h 3).A (h 3).n (h 3).c,.bool (h 3).t,.slice (h 3).B (h 3).m (h 3).d,.bool (h 4).s,.slice (h 4).A (h 4).n (h 4).c,.bool (h 4).t,.slice (h 4).B (h 4).m (h 4).d,.bool (h 5).s,.slice (h 5).A (h 5).n (h 5).c,.bool (h 5).t,.slice (h 5).B (h 5).m (h 5).d,.bool (h 6).s,.slice (h 6).A (h 6).n (h 6).c,.bool (h 6).t,.slice (h 6).B (h 6).m (h 6).d,.bool (h 7).s,.slice (h 7).A (h 7).n (h 7).c,.bool (h 7).t,.slice (h 7).B (h 7).m (h 7).d,.bool (h 8).s,.slice (h 8).A (h 8).n (h 8).c,.bool (h 8).t,.slice (h 8).B (h 8).m (h 8).d,.bool (h 9).s,.slice (h 9).A (h 9).n (h 9).c,.bool (h 9).t,.slice (h 9).B (h 9).m (h 9).d,.bool (h 10).s,.slice (h 10).A (h 10).n (h 10).c,.bool (h 10).t,.slice (h 10).B (h 10).m (h 10).d] V) (by kernel_rfl) (hE.h2) (fun hHeld=> ?_)
  generalize W5.drew=wd at*
  refine tk 0 ?_
  refine tk 1 ?_ (hy:=by
   intro w ay;have iM:=(ay).cell 0;have iP:=(ay).cell 1;have jb:=(ay).cell 2;have jc:=(ay).cell 3;clear ay
   first|(go_simp;done)|(go_simp;with_reducible rfl))
  try simp only[PL]
  refine tk 2 ?_
  refine tk 3 ?_ (hy:=by
   intro w ay;have IX:=(ay).cell 4;have IY:=(ay).cell 5;have IZ:=(ay).cell 6;have VZ:=(ay).cell 7;clear ay
   first|(go_simp;done)|(go_simp;with_reducible rfl))
  try simp only[PL]
  refine tk 5 ?_
  refine tk 6 ?_ (hy:=by
   intro w ay;have SZ:=(ay).cell 12;have Mh:=(ay).cell 13;have Mi:=(ay).cell 14;have Mj:=(ay).cell 15;clear ay
   first|(go_simp;done)|(go_simp;with_reducible rfl))
  try simp only[PL]
  refine tk 8 ?_
  refine tk 9 ?_ (hy:=by
   intro w ay;have QI:=(ay).cell 8;have Rt:=(ay).cell 9;have uX:=(ay).cell 10;have MN:=(ay).cell 11;clear ay
   first|(go_simp;done)|(go_simp;with_reducible rfl))
  try simp only[PL]
  refine tk 10 ?_
  refine tk 11 ?_ (hy:=by
   intro w ay;have Zm:=(ay).cell 16;have Zn:=(ay).cell 17;have I4:=(ay).cell 18;have Zo:=(ay).cell 19;clear ay
   first|(go_simp;done)|(go_simp;with_reducible rfl))
  try simp only[PL]
  obtain⟨B9,jS⟩:∃B,B=wd.heap.size:=⟨_,rfl⟩
  have hw9:w.heap.size<=B9:=by rw[jS];exact hE.av.size
  have M0:w.heap.size<B9:=by rw[jS];exact(hE.e8.1.1.1.1.1.1.2).lt
  have amA:gR<B9:=by rw[jS];exact(hE.h2).lt
  have M1:g5<B9:=by rw[jS];exact(hE.here.2).lt
  refine dP (I:=cN w _ _ B9 [⟨4,31,eH (X 0+X 1)⟩,⟨7,34,eH (X 0+X 1+X 3)⟩,⟨12,39,eH (X 2+X 4)⟩,⟨13,40,eH (X 0+X 1+X 3-(X 2+X 4))⟩,⟨14,7,jv 29 aY B9⟩]) [4,7,12,13,14] (f1:=1) (by kernel_rfl) (by kernel_rfl) (by kernel_rfl) rfl (by kernel_rfl) (by kernel_rfl) (by rfl) (cN.start hE jS (by kernel_rfl)) ?tP ?aej
  case tP=>
   have hst:∀g∈([⟨4,31,eH (X 0+X 1)⟩,⟨7,34,eH (X 0+X 1+X 3)⟩,⟨12,39,eH (X 2+X 4)⟩,⟨13,40,eH (X 0+X 1+X 3-(X 2+X 4))⟩,⟨14,7,jv 29 aY B9⟩]:List bz),∀x,bq (g.R x):=(fun g hg=>by simp only[List.mem_cons,List.not_mem_nil,or_false] at hg;rcases hg with rfl|rfl|rfl|rfl|rfl<;>first|exact eH.stable _|exact jv.stable _ _ _|exact Kv.stable _|exact Kw.stable _)
   clear hE hHeld jS;refine aH.cons (ds:=[1,3]) rfl (by kernel_rfl) (fun D a W0 hI hD K hK=> ?_) ?_
   ·
    have hE:=hI.here;obtain⟨xs,rfl,-,hF,-,-⟩:=id hI;obtain⟨Oc,xs,rfl,CA,hF⟩:=hF.ag;obtain⟨Od,xs,rfl,CB,hF⟩:=hF.ag;obtain⟨CC,xs,rfl,rH,hF⟩:=hF.ag;obtain⟨CD,xs,rfl,ud,hF⟩:=hF.ag;obtain⟨CE,xs,rfl,ue,hF⟩:=hF.ag;obtain rfl:=hF.nil;clear hF;try simp only[aT,Act.put,List.setIfInBounds_toArray,List.set_cons_zero,List.set_cons_succ,List.getElem_toArray,List.getElem_cons_succ,List.getElem_cons_zero]
    go_simp;refine(oB (ca:=(h 0).c) (da:=(h 0).d) (cb:=(h 1).c) (db:=(h 1).d) (hE.bZ) (hE.h12) (nQ.out.l 0) (nQ.out.l 1) ((nQ.out.fI).1)).mono ?_
    rintro e W1 ⟨sa,Aa,na,ca,ta,Ba,ma,da,rfl,hv,hb⟩
    have bG:=hE.step hb;go_wp2_with fail
    refine hK.out _ _ (bG.here.1.1.2) ?_;exact hI.call (c:=ca) (d:=da) 0 hst rfl (by kernel_rfl) (by kernel_rfl) (by kernel_rfl) hb hv
   refine aH.cons (ds:=[4,6,4]) rfl (by kernel_rfl) (fun D a W0 hI hD K hK=> ?_) ?_
   ·
    have hE:=hI.here;obtain⟨xs,rfl,-,hF,-,-⟩:=id hI;obtain⟨Oc,xs,rfl,CA,hF⟩:=hF.ag;obtain⟨Od,xs,rfl,CB,hF⟩:=hF.ag;obtain⟨CC,xs,rfl,rH,hF⟩:=hF.ag;obtain⟨CD,xs,rfl,ud,hF⟩:=hF.ag;obtain⟨CE,xs,rfl,ue,hF⟩:=hF.ag;obtain rfl:=hF.nil;clear hF;try simp only[aT,Act.put,List.setIfInBounds_toArray,List.set_cons_zero,List.set_cons_succ,List.getElem_toArray,List.getElem_cons_succ,List.getElem_cons_zero]
    obtain⟨sa,Aa,na,ca,ta,Ba,ma,da,rfl,hq⟩:=CA (hD 4 (by simp));replace hE:=hE.fv hq;clear hq;go_simp;refine(oB (ca:=ca) (da:=da) (cb:=(h 3).c) (db:=(h 3).d) (hE.here.2) (hE.h11) ((nQ.out.fI).1) (nQ.out.l 3) (Cz.out.1)).mono ?_
    rintro e W1 ⟨sb,Ab,nb,cb,tb,Bb,mb,db,rfl,hv,hb⟩
    have bG:=hE.step hb;go_wp2_with fail
    refine hK.out _ _ (bG.here.1.1.1.2) ?_;exact hI.call (c:=cb) (d:=db) 1 hst rfl (by kernel_rfl) (by kernel_rfl) (by kernel_rfl) hb hv
   refine aH.cons (ds:=[9,11,7]) rfl (by kernel_rfl) (fun D a W0 hI hD K hK=> ?_) ?_
   ·
    have hE:=hI.here;obtain⟨xs,rfl,-,hF,-,-⟩:=id hI;obtain⟨Oc,xs,rfl,CA,hF⟩:=hF.ag;obtain⟨Od,xs,rfl,CB,hF⟩:=hF.ag;obtain⟨CC,xs,rfl,rH,hF⟩:=hF.ag;obtain⟨CD,xs,rfl,ud,hF⟩:=hF.ag;obtain⟨CE,xs,rfl,ue,hF⟩:=hF.ag;obtain rfl:=hF.nil;clear hF;try simp only[aT,Act.put,List.setIfInBounds_toArray,List.set_cons_zero,List.set_cons_succ,List.getElem_toArray,List.getElem_cons_succ,List.getElem_cons_zero]
    go_simp;refine(oB (ca:=(h 2).c) (da:=(h 2).d) (cb:=(h 4).c) (db:=(h 4).d) (hE.h11) (hE.h9) (nQ.out.l 2) (nQ.out.l 4) (Cz.out.2.1)).mono ?_
    rintro e W1 ⟨sc,Ac,nc,cc,tc,Bc,mc,dc,rfl,hv,hb⟩
    have bG:=hE.step hb;go_wp2_with fail
    refine hK.out _ _ (bG.here.1.1.2) ?_;exact hI.call (c:=cc) (d:=dc) 2 hst rfl (by kernel_rfl) (by kernel_rfl) (by kernel_rfl) hb hv
   refine aH.cons (ds:=[7,12,12]) rfl (by kernel_rfl) (fun D a W0 hI hD K hK=> ?_) ?_
   ·
    have hE:=hI.here;obtain⟨xs,rfl,-,hF,-,-⟩:=id hI;obtain⟨Oc,xs,rfl,CA,hF⟩:=hF.ag;obtain⟨Od,xs,rfl,CB,hF⟩:=hF.ag;obtain⟨CC,xs,rfl,rH,hF⟩:=hF.ag;obtain⟨CD,xs,rfl,ud,hF⟩:=hF.ag;obtain⟨CE,xs,rfl,ue,hF⟩:=hF.ag;obtain rfl:=hF.nil;clear hF;try simp only[aT,Act.put,List.setIfInBounds_toArray,List.set_cons_zero,List.set_cons_succ,List.getElem_toArray,List.getElem_cons_succ,List.getElem_cons_zero]
    obtain⟨sb,Ab,nb,cb,tb,Bb,mb,db,rfl,hq⟩:=CB (hD 7 (by simp));replace hE:=hE.fv hq;clear hq;obtain⟨sc,Ac,nc,cc,tc,Bc,mc,dc,rfl,hq⟩:=rH (hD 12 (by simp));replace hE:=hE.fv hq;clear hq;go_simp;refine(sS (ca:=cb) (da:=db) (cb:=cc) (db:=dc) (hE.here.1.2) (hE.here.2) (Cz.out.1) (Cz.out.2.1) (Cz.out.2.2.1)).mono ?_
    rintro e W1 ⟨sd,Ad,nd,cd,td,Bd,md,dd,rfl,hv,hb⟩
    have bG:=hE.step hb;go_wp2_with fail
    refine hK.out _ _ (bG.here.1.1.1.1.2) ?_;exact hI.call (c:=cd) (d:=dd) 3 hst rfl (by kernel_rfl) (by kernel_rfl) (by kernel_rfl) hb hv
   refine aH.cons (ds:=[]) rfl (by kernel_rfl) (fun D a W0 hI hD K hK=> ?_) ?_
   ·
    have hE:=hI.here;obtain⟨xs,rfl,-,hF,-,-⟩:=id hI;obtain⟨Oc,xs,rfl,CA,hF⟩:=hF.ag;obtain⟨Od,xs,rfl,CB,hF⟩:=hF.ag;obtain⟨CC,xs,rfl,rH,hF⟩:=hF.ag;obtain⟨CD,xs,rfl,ud,hF⟩:=hF.ag;obtain⟨CE,xs,rfl,ue,hF⟩:=hF.ag;obtain rfl:=hF.nil;clear hF;try simp only[aT,Act.put,List.setIfInBounds_toArray,List.set_cons_zero,List.set_cons_succ,List.getElem_toArray,List.getElem_cons_succ,List.getElem_cons_zero]
    go_simp;have bG:=hE.alloc (.cells aY 29);refine hK.out _ _ (bG.here.1.1.2) ?_;exact hI.alloc 4 hst rfl (by kernel_rfl) (by kernel_rfl) (by kernel_rfl)
   exact aH.nil
  clear hE hHeld jS;intro D a W9 hI hD;have hE:=hI.here;obtain⟨xs,rfl,-,hF,hA,-⟩:=id hI;clear hI;obtain⟨Oc,xs,rfl,CA,hF⟩:=hF.ag;obtain⟨Od,xs,rfl,CB,hF⟩:=hF.ag;obtain⟨CC,xs,rfl,rH,hF⟩:=hF.ag;obtain⟨CD,xs,rfl,ud,hF⟩:=hF.ag;obtain⟨CE,xs,rfl,ue,hF⟩:=hF.ag;obtain rfl:=hF.nil;clear hF;obtain⟨sa,Aa,na,ca,ta,Ba,ma,da,rfl,NB⟩:=CA (hD 4 (by simp));obtain⟨sb,Ab,nb,cb,tb,Bb,mb,db,rfl,Nh⟩:=CB (hD 7 (by simp));obtain⟨sc,Ac,nc,cc,tc,Bc,mc,dc,rfl,MC⟩:=rH (hD 12 (by simp));obtain⟨sd,Ad,nd,cd,td,Bd,md,dd,rfl,MD⟩:=ud (hD 13 (by simp));obtain⟨wB,rfl,amB,Cy⟩:=ue (hD 14 (by simp));replace hE:=(((((hE.fv NB).fv Nh).fv MC).fv MD).af Cy);clear hA hD NB CA Nh CB MC rH MD ud Cy ue;try simp only[aT,Act.put,List.setIfInBounds_toArray,List.set_cons_zero,List.set_cons_succ,List.getElem_toArray,List.getElem_cons_succ,List.getElem_cons_zero]
  have hHeld:(fun V=>ak 61 (gR) #[.bool (h 0).s,.slice (h 0).A (h 0).n (h 0).c,.bool (h 0).t,.slice (h 0).B (h 0).m (h 0).d,.bool (h 1).s,.slice (h 1).A (h 1).n (h 1).c,.bool (h 1).t,.slice (h 1).B (h 1).m (h 1).d,.bool (h 2).s,.slice (h 2).A (h 2).n (h 2).c,.bool (h 2).t,.slice (h 2).B (h 2).m (h 2).d,.bool (h 3).s,.slice (h 3).A (h 3).n (h 3).c,.bool (h 3).t,.slice (h 3).B (h 3).m (h 3).d,.bool (h 4).s,.slice (h 4).A (h 4).n (h 4).c,.bool (h 4).t,.slice (h 4).B (h 4).m (h 4).d,.bool (h 5).s,.slice (h 5).A (h 5).n (h 5).c,.bool (h 5).t,.slice (h 5).B (h 5).m (h 5).d,.bool (h 6).s,.slice (h 6).A (h 6).n (h 6).c,.bool (h 6).t,.slice (h 6).B (h 6).m (h 6).d,.bool (h 7).s,.slice (h 7).A (h 7).n (h 7).c,.bool (h 7).t,.slice (h 7).B (h 7).m (h 7).d,.bool (h 8).s,.slice (h 8).A (h 8).n (h 8).c,.bool (h 8).t,.slice (h 8).B (h 8).m (h 8).d,.bool (h 9).s,.slice (h 9).A (h 9).n (h 9).c,.bool (h 9).t,.slice (h 9).B (h 9).m (h 9).d,.bool (h 10).s,.slice (h 10).A (h 10).n (h 10).c,.bool (h 10).t,.slice (h 10).B (h 10).m (h 10).d] V) W9:=hE.h7;refine r1 15 (fun K hK=> ?_)
  have tK:w.heap.size<=wB:=by omega
  obtain⟨En,Mk,Ml,Mm⟩:=(hE.here.2).c4;obtain⟨Eo,Mn,Mo,Mp⟩:=hE.here.2.f4;replace hE:=(((((((((((((((((((((Env.again (ck hE.av tK (.bool sd) (.slice Ad nd cd) (.bool td) (.slice Bd md dd))).af ((hE.au.1.1.1.2).ai (by omega) _ _ _ _)).fv ((hE.au.1.1.2).aq hE.here.2 rfl _ _ _ _ rfl rfl rfl)).fv ((hE.au.1.2).aq hE.here.2 rfl _ _ _ _ rfl rfl rfl)).fv ((hE.au.2).aq hE.here.2 rfl _ _ _ _ rfl rfl rfl)).fv ((hE.e8.1.1.1.1.1.1.1.2).aq hE.here.2 rfl _ _ _ _ rfl rfl rfl)).fv ((hE.e8.1.1.1.1.1.1.2).aq hE.here.2 rfl _ _ _ _ rfl rfl rfl)).fv ((hE.bZ).aq hE.here.2 rfl _ _ _ _ rfl rfl rfl)).fv ((hE.h12).aq hE.here.2 rfl _ _ _ _ rfl rfl rfl)).fv ((hE.h11).aq hE.here.2 rfl _ _ _ _ rfl rfl rfl)).fv ((hE.h10).aq hE.here.2 rfl _ _ _ _ rfl rfl rfl)).fv ((hE.h9).aq hE.here.2 rfl _ _ _ _ rfl rfl rfl)).fv ((hE.h8).aq hE.here.2 rfl _ _ _ _ rfl rfl rfl)).af ((hE.h7).ai (by omega) _ _ _ _)).fv ((hE.h6).aq hE.here.2 rfl _ _ _ _ rfl rfl rfl)).af ((hE.h5).ai (by omega) _ _ _ _)).fv ((hE.h4).aq hE.here.2 rfl _ _ _ _ rfl rfl rfl)).fv ((hE.h3).aq hE.here.2 rfl _ _ _ _ rfl rfl rfl)).fv ((hE.h2).aq hE.here.2 rfl _ _ _ _ rfl rfl rfl)).fv ((hE.here.1.2).aq hE.here.2 rfl _ _ _ _ rfl rfl rfl)).af ((hE.here.2).s4 _ _ _ _));go_simp;clear En Mk Ml Mm Eo Mn Mo Mp tK;generalize ((((W9.setCell ⟨wB,0,none⟩ (.bool sd)).setCell ⟨wB,1,none⟩ (.slice Ad nd cd)).setCell ⟨wB,2,none⟩ (.bool td)).setCell ⟨wB,3,none⟩ (.slice Bd md dd))=W6 at hE⊢;refine hK.out _ _ (hE.h7) (fun hHeld=> ?_);clear hK K;try simp only[PL]
  refine wpAnyH_done (by kernel_rfl) ?_ _;skip;have hs5:fl (fI X)<=256:=tX.out.2.2.2.2
  have hsf:X 0+X 1+X 3-(X 2+X 4)-X 5=fI X:=by unfold fI;grind
  go_upto_region 10 with(fail)
  replace hE:=hE.drew;refine wp_region_held_drew (S:=fun V=>ak 61 (gR) #[.bool (h 0).s,.slice (h 0).A (h 0).n (h 0).c,.bool (h 0).t,.slice (h 0).B (h 0).m (h 0).d,.bool (h 1).s,.slice (h 1).A (h 1).n (h 1).c,.bool (h 1).t,.slice (h 1).B (h 1).m (h 1).d,.bool (h 2).s,.slice (h 2).A (h 2).n (h 2).c,.bool (h 2).t,.slice (h 2).B (h 2).m (h 2).d,.bool (h 3).s,.slice (h 3).A (h 3).n (h 3).c,.bool (h 3).t,.slice (h 3).B (h 3).m (h 3).d,.bool (h 4).s,.slice (h 4).A (h 4).n (h 4).c,.bool (h 4).t,.slice (h 4).B (h 4).m (h 4).d,.bool (h 5).s,.slice (h 5).A (h 5).n (h 5).c,.bool (h 5).t,.slice (h 5).B (h 5).m (h 5).d,.bool (h 6).s,.slice (h 6).A (h 6).n (h 6).c,.bool (h 6).t,.slice (h 6).B (h 6).m (h 6).d,.bool (h 7).s,.slice (h 7).A (h 7).n (h 7).c,.bool (h 7).t,.slice (h 7).B (h 7).m (h 7).d,.bool (h 8).s,.slice (h 8).A (h 8).n (h 8).c,.bool (h 8).t,.slice (h 8).B (h 8).m (h 8).d,.bool (h 9).s,.slice (h 9).A (h 9).n (h 9).c,.bool (h 9).t,.slice (h 9).B (h 9).m (h 9).d,.bool (h 10).s,.slice (h 10).A (h 10).n (h 10).c,.bool (h 10).t,.slice (h 10).B (h 10).m (h 10).d] V/\ak 29 (g5) (az ss As ns cs ts Bs ms ds) V/\ak 29 (wB) (az sd Ad nd cd td Bd md dd) V) (by kernel_rfl) (⟨hE.h7,hE.h5,hE.here.2⟩) (fun hHeld=> ?_)
  generalize W6.drew=wd at*
  refine tk 0 ?_;refine tk 1 ?_;refine tk 2 ?_
  refine tk 3 ?_ (hy:=by
   intro w ay;have iM:=(ay.2.1).cell 0;have iP:=(ay.2.1).cell 1;have jb:=(ay.2.1).cell 2;have jc:=(ay.2.1).cell 3;clear ay
   first|(go_simp;done)|(go_simp;with_reducible rfl))
  try simp only[PL]
  refine tk 4 ?_
  refine tk 5 ?_ (hy:=by
   intro w ay;have amC:=(ay.1).cell 40;have amD:=(ay.1).cell 41;have amE:=(ay.1).cell 42;have amF:=(ay.1).cell 43;clear ay
   first|(go_simp;done)|(go_simp;with_reducible rfl))
  try simp only[PL]
  refine r1 6 (fun K hK=> ?_);go_simp;refine hE.br (ec (v:=true) (ca:=cs) (da:=ds) (cb:=(h 10).c) (db:=(h 10).d) (hE.h6) (hE.h8) nQ.out.src.2 hs5 (decide_eq_true amx.out.symm)) ?_;clear hE;intro w7 hE;go_wp2_with fail
  refine hK.out _ _ (⟨hE.h7,hE.h5,hE.here.2⟩) (fun hHeld=> ?_);clear hK K;try simp only[PL]
  refine tk 7 ?_;refine tk 8 ?_
  refine tk 9 ?_ (hy:=by
   intro w ay;have iM:=(ay.2.2).cell 0;have iP:=(ay.2.2).cell 1;have jb:=(ay.2.2).cell 2;have jc:=(ay.2.2).cell 3;clear ay
   first|(go_simp;done)|(go_simp;with_reducible rfl))
  try simp only[PL]
  refine tk 10 ?_
  refine tk 11 ?_ (hy:=by
   intro w ay;have ak5:=(ay.1).cell 20;have ak6:=(ay.1).cell 21;have ak7:=(ay.1).cell 22;have ak8:=(ay.1).cell 23;clear ay
   first|(go_simp;done)|(go_simp;with_reducible rfl))
  try simp only[PL]
  refine tk 13 ?_
  refine tk 14 ?_ (hy:=by
   intro w ay;have amC:=(ay.1).cell 40;have amD:=(ay.1).cell 41;have amE:=(ay.1).cell 42;have amF:=(ay.1).cell 43;clear ay
   first|(go_simp;done)|(go_simp;with_reducible rfl))
  try simp only[PL]
  refine r1 12 (fun K hK=> ?_);go_simp;refine hE.fr (sS (ca:=cd) (da:=dd) (cb:=(h 5).c) (db:=(h 5).d) (hE.here.1.2) (hE.bZ) (Cz.out.2.2.1) (nQ.out.l 5) (Cz.out.2.2.2)) ?_;clear hE;intro sf Af nf cf tf Bf mf df w8 hE;go_wp2_with fail
  refine hK.out _ _ (⟨hE.h8,hE.h6,hE.here.1.2⟩) (fun hHeld=> ?_);clear hK K;try simp only[PL]
  refine r1 15 (fun K hK=> ?_);go_simp;refine hE.br (ec (v:=true) (ca:=cf) (da:=df) (cb:=(h 10).c) (db:=(h 10).d) (hE.here.2) (hE.h9) (Cz.out.2.2.2) hs5 (decide_eq_true hsf)) ?_;clear hE;intro w9 hE;go_wp2_with fail
  refine hK.out _ _ (⟨hE.h8,hE.h6,hE.here.1.2⟩) (fun hHeld=> ?_);clear hK K;try simp only[PL]
  refine tk 16 ?_;refine tk 17 ?_;refine wpAnyH_done (by kernel_rfl) ?_ _;go_wp2_with fail
  go_ret
  exact⟨rfl,hE.av⟩
end Go.Proofs.YtclbiihcbfnjmaaGreat
