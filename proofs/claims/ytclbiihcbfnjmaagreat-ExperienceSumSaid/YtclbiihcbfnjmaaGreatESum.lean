/-
  Parts.
-/
import Derived.Test.YtclbiihcbfnjmaaGreatK2
import Derived.Test.YtclbiihcbfnjmaaGreatK8
import Derived.Test.YtclbiihcbfnjmaaGreatE9
import Derived.Test.YtclbiihcbfnjmaaGreatE10
set_option linter.unusedSimpArgs false
set_option maxRecDepth 100000
set_option maxHeartbeats 8000000
namespace Go.Proofs.YtclbiihcbfnjmaaGreat
open Go.RowKit

theorem esum_walk (y:Yh)(w:World)(hY:y.rd w)(hi:y.i)(h64:y.n<=9223372036854775807):
  Calls Tryz.prog 9 #[.agg #[.int .i64 y.b.F,.int .i64 y.b.S,.slice y.b.A y.b.n y.b.c,.bool y.b.i.s,.slice y.b.i.A y.b.i.n y.b.i.c,.bool y.b.i.t,.slice y.b.i.B y.b.i.m y.b.i.d,.int .i64 y.d.F,.int .i64 y.d.S,.slice y.d.A y.d.n y.d.c,.bool y.d.i.s,.slice y.d.i.A y.d.i.n y.d.i.c,.bool y.d.i.t,.slice y.d.i.B y.d.i.m y.d.i.d,.bool y.j.s,.slice y.j.A y.j.n y.j.c,.bool y.j.t,.slice y.j.B y.j.m y.j.d,.slice y.A y.n y.c]] w (fun e w'=>e= .returned (.bool true)/\Below w.heap.size w w'):=by
 have HhY:=Lib.hid hY;clear hY;have Hhi:=Lib.hid hi;clear hi;have Hh64:=Lib.hid h64;clear h64;have hE:=(Env.start w).blk 67 #[.int .i64 y.b.F,.int .i64 y.b.S,.slice y.b.A y.b.n y.b.c,.bool y.b.i.s,.slice y.b.i.A y.b.i.n y.b.i.c,.bool y.b.i.t,.slice y.b.i.B y.b.i.m y.b.i.d,.int .i64 y.d.F,.int .i64 y.d.S,.slice y.d.A y.d.n y.d.c,.bool y.d.i.s,.slice y.d.i.A y.d.i.n y.d.i.c,.bool y.d.i.t,.slice y.d.i.B y.d.i.m y.d.i.d,.bool y.j.s,.slice y.j.A y.j.n y.j.c,.bool y.j.t,.slice y.j.B y.j.m y.j.d,.slice y.A y.n y.c] (g:=w.heap.size) rfl
 obtain⟨W0,hW0⟩:∃W0,W0=(w.alloc (.cells #[.int .i64 y.b.F,.int .i64 y.b.S,.slice y.b.A y.b.n y.b.c,.bool y.b.i.s,.slice y.b.i.A y.b.i.n y.b.i.c,.bool y.b.i.t,.slice y.b.i.B y.b.i.m y.b.i.d,.int .i64 y.d.F,.int .i64 y.d.S,.slice y.d.A y.d.n y.d.c,.bool y.d.i.s,.slice y.d.i.A y.d.i.n y.d.i.c,.bool y.d.i.t,.slice y.d.i.B y.d.i.m y.d.i.d,.bool y.j.s,.slice y.j.A y.j.n y.j.c,.bool y.j.t,.slice y.j.B y.j.m y.j.d,.slice y.A y.n y.c] 67)):=⟨_,rfl⟩
 rw[<-hW0] at hE;have HW0:=Lib.hid hW0;clear hW0
 go_enter Tryz.func9,Tryz.ntmps9
 go_upto_region 1 with(fail)
 rw[<-HW0.out];go_wp2_with fail
 refine hE.br (eawake_t _) ?_;clear hE;intro w1 hE;have hld:(Instr.loadAt 67 (.pointer (some ⟨w.heap.size,0,none⟩))).run Tryz.prog w1= .ok (.agg #[.int .i64 y.b.F,.int .i64 y.b.S,.slice y.b.A y.b.n y.b.c,.bool y.b.i.s,.slice y.b.i.A y.b.i.n y.b.i.c,.bool y.b.i.t,.slice y.b.i.B y.b.i.m y.b.i.d,.int .i64 y.d.F,.int .i64 y.d.S,.slice y.d.A y.d.n y.d.c,.bool y.d.i.s,.slice y.d.i.A y.d.i.n y.d.i.c,.bool y.d.i.t,.slice y.d.i.B y.d.i.m y.d.i.d,.bool y.j.s,.slice y.j.A y.j.n y.j.c,.bool y.j.t,.slice y.j.B y.j.m y.j.d,.slice y.A y.n y.c]) w1:=run_loadAt_mid _ _ _ _ [.int .i64 y.b.F,.int .i64 y.b.S,.slice y.b.A y.b.n y.b.c,.bool y.b.i.s,.slice y.b.i.A y.b.i.n y.b.i.c,.bool y.b.i.t,.slice y.b.i.B y.b.i.m y.b.i.d,.int .i64 y.d.F,.int .i64 y.d.S,.slice y.d.A y.d.n y.d.c,.bool y.d.i.s,.slice y.d.i.A y.d.i.n y.d.i.c,.bool y.d.i.t,.slice y.d.i.B y.d.i.m y.d.i.d,.bool y.j.s,.slice y.j.A y.j.n y.j.c,.bool y.j.t,.slice y.j.B y.j.m y.j.d,.slice y.A y.n y.c] _ (Blk.mid (hE.here.2) 0 rfl) Tryz.underlying67 rfl (by kernel_rfl);go_wp2_with (first|refine wpList_ldP hld rfl rfl rfl ?_|refine wpList_ldG hld (by rfl) rfl rfl ?_)
 clear hld;refine(eusable_any (y:=y) (Yh.rd_below HhY.out hE.bel) Hhi.out Hh64.out).mono ?_
 rintro e w2 ⟨v,rfl,hv,hb⟩
 replace hE:=hE.step hb;clear hb
 cases v with
 |false=>
  clear hv;go_wp2_with fail
  go_ret
  exact⟨rfl,hE.bel⟩
 |true=>
  have hU:=hv.1 rfl;clear hv;have hyS:=hU.ys;have hyb:=hU.1.bd (by decide) Hhi.out;have HhU:=Lib.hid hU;clear hU;have HhyS:=Lib.hid hyS;clear hyS;have Hhyb:=Lib.hid hyb;clear hyb;have hrp:RpS (rep y.it y.n):=(HhyS.out).rep HhY.out y.n (Nat.le_refl _);have hsm:=(HhyS.out).sum HhY.out;have hld:(Instr.loadAt 67 (.pointer (some ⟨w.heap.size,0,none⟩))).run Tryz.prog w2= .ok (.agg #[.int .i64 y.b.F,.int .i64 y.b.S,.slice y.b.A y.b.n y.b.c,.bool y.b.i.s,.slice y.b.i.A y.b.i.n y.b.i.c,.bool y.b.i.t,.slice y.b.i.B y.b.i.m y.b.i.d,.int .i64 y.d.F,.int .i64 y.d.S,.slice y.d.A y.d.n y.d.c,.bool y.d.i.s,.slice y.d.i.A y.d.i.n y.d.i.c,.bool y.d.i.t,.slice y.d.i.B y.d.i.m y.d.i.d,.bool y.j.s,.slice y.j.A y.j.n y.j.c,.bool y.j.t,.slice y.j.B y.j.m y.j.d,.slice y.A y.n y.c]) w2:=run_loadAt_mid _ _ _ _ [.int .i64 y.b.F,.int .i64 y.b.S,.slice y.b.A y.b.n y.b.c,.bool y.b.i.s,.slice y.b.i.A y.b.i.n y.b.i.c,.bool y.b.i.t,.slice y.b.i.B y.b.i.m y.b.i.d,.int .i64 y.d.F,.int .i64 y.d.S,.slice y.d.A y.d.n y.d.c,.bool y.d.i.s,.slice y.d.i.A y.d.i.n y.d.i.c,.bool y.d.i.t,.slice y.d.i.B y.d.i.m y.d.i.d,.bool y.j.s,.slice y.j.A y.j.n y.j.c,.bool y.j.t,.slice y.j.B y.j.m y.j.d,.slice y.A y.n y.c] _ (Blk.mid (hE.here.2) 0 rfl) Tryz.underlying67 rfl (by kernel_rfl);go_wp2_with (first|refine wpList_ldP hld rfl rfl rfl ?_|refine wpList_ldG hld (by rfl) rfl rfl ?_)
  clear hld;refine(eanalyse_v (y:=y) (Yh.rd_below HhY.out hE.bel) Hhyb.out Hhi.out HhyS.out).mono ?_
  rintro e w3 ⟨h,rfl,hF,hb⟩
  replace hE:=hE.step hb;clear hb
  obtain⟨X,hX⟩:∃X,X=rep y.it y.n:=⟨_,rfl⟩
  rw[<-hX] at hF hrp hsm;clear hX
  have f0:FV w3 (X 0) (h 0).s (h 0).A (h 0).n (h 0).t (h 0).B (h 0).m:=by have h9:=hF 0 (by decide);dsimp only at h9;rw[if_neg (by decide)] at h9;exact h9
  replace hE:=hE.fv f0;clear f0
  have f1:FV w3 (X 1) (h 1).s (h 1).A (h 1).n (h 1).t (h 1).B (h 1).m:=by have h9:=hF 1 (by decide);dsimp only at h9;rw[if_neg (by decide)] at h9;exact h9
  replace hE:=hE.fv f1;clear f1
  have f2:FV w3 (X 2) (h 2).s (h 2).A (h 2).n (h 2).t (h 2).B (h 2).m:=by have h9:=hF 2 (by decide);dsimp only at h9;rw[if_neg (by decide)] at h9;exact h9
  replace hE:=hE.fv f2;clear f2
  have f3:FV w3 (X 3) (h 3).s (h 3).A (h 3).n (h 3).t (h 3).B (h 3).m:=by have h9:=hF 3 (by decide);dsimp only at h9;rw[if_neg (by decide)] at h9;exact h9
  replace hE:=hE.fv f3;clear f3
  have f4:FV w3 (X 4) (h 4).s (h 4).A (h 4).n (h 4).t (h 4).B (h 4).m:=by have h9:=hF 4 (by decide);dsimp only at h9;rw[if_neg (by decide)] at h9;exact h9
  replace hE:=hE.fv f4;clear f4
  have f5:FV w3 (X 5) (h 5).s (h 5).A (h 5).n (h 5).t (h 5).B (h 5).m:=by have h9:=hF 5 (by decide);dsimp only at h9;rw[if_neg (by decide)] at h9;exact h9
  replace hE:=hE.fv f5;clear f5
  have f6:FV w3 (X 6) (h 6).s (h 6).A (h 6).n (h 6).t (h 6).B (h 6).m:=by have h9:=hF 6 (by decide);dsimp only at h9;rw[if_neg (by decide)] at h9;exact h9
  replace hE:=hE.fv f6;clear f6
  have f7:FV w3 (X 7) (h 7).s (h 7).A (h 7).n (h 7).t (h 7).B (h 7).m:=by have h9:=hF 7 (by decide);dsimp only at h9;rw[if_neg (by decide)] at h9;exact h9
  replace hE:=hE.fv f7;clear f7
  have f8:FV w3 (X 8) (h 8).s (h 8).A (h 8).n (h 8).t (h 8).B (h 8).m:=by have h9:=hF 8 (by decide);dsimp only at h9;rw[if_neg (by decide)] at h9;exact h9
  replace hE:=hE.fv f8;clear f8
  have f9:FV w3 (X 9) (h 9).s (h 9).A (h 9).n (h 9).t (h 9).B (h 9).m:=by have h9:=hF 9 (by decide);dsimp only at h9;rw[if_neg (by decide)] at h9;exact h9
  replace hE:=hE.fv f9;clear f9
  have f10:FV w3 (spl X) (h 10).s (h 10).A (h 10).n (h 10).t (h 10).B (h 10).m:=by have h9:=hF 10 (by decide);dsimp only at h9;rw[if_pos rfl] at h9;exact h9
  replace hE:=hE.fv f10;clear f10;clear hF;have Hhrp:=Lib.hid hrp;clear hrp;have Hhsm:=Lib.hid hsm;clear hsm;obtain⟨VR,hst,hbV,hBk⟩:=new_store w3 61 (z:=#[.bool false,.slice none 0 0,.bool false,.slice none 0 0,.bool false,.slice none 0 0,.bool false,.slice none 0 0,.bool false,.slice none 0 0,.bool false,.slice none 0 0,.bool false,.slice none 0 0,.bool false,.slice none 0 0,.bool false,.slice none 0 0,.bool false,.slice none 0 0,.bool false,.slice none 0 0,.bool false,.slice none 0 0,.bool false,.slice none 0 0,.bool false,.slice none 0 0,.bool false,.slice none 0 0,.bool false,.slice none 0 0,.bool false,.slice none 0 0,.bool false,.slice none 0 0,.bool false,.slice none 0 0,.bool false,.slice none 0 0,.bool false,.slice none 0 0,.bool false,.slice none 0 0]) (repC h) rfl (by kernel_rfl) rfl;have hQ:=Lib.hid (And.intro hbV hBk);clear hbV hBk
  go_upto_region 8 with(first|refine wpList_stP hst rfl rfl rfl rfl ?_)
  clear hst
  obtain⟨gR,hgR⟩:∃g,g=w3.heap.size:=⟨_,rfl⟩
  have hlR_0:w.heap.size<gR:=by rw[hgR];exact(hE.h11).lt
  rw[<-hgR] at hQ⊢;have hbV:=hQ.out.1;rw[hgR] at hbV;replace hE:=(hE.step hbV).blkI (show Blk 61 gR #[.bool (h 0).s,.slice (h 0).A (h 0).n (h 0).c,.bool (h 0).t,.slice (h 0).B (h 0).m (h 0).d,.bool (h 1).s,.slice (h 1).A (h 1).n (h 1).c,.bool (h 1).t,.slice (h 1).B (h 1).m (h 1).d,.bool (h 2).s,.slice (h 2).A (h 2).n (h 2).c,.bool (h 2).t,.slice (h 2).B (h 2).m (h 2).d,.bool (h 3).s,.slice (h 3).A (h 3).n (h 3).c,.bool (h 3).t,.slice (h 3).B (h 3).m (h 3).d,.bool (h 4).s,.slice (h 4).A (h 4).n (h 4).c,.bool (h 4).t,.slice (h 4).B (h 4).m (h 4).d,.bool (h 5).s,.slice (h 5).A (h 5).n (h 5).c,.bool (h 5).t,.slice (h 5).B (h 5).m (h 5).d,.bool (h 6).s,.slice (h 6).A (h 6).n (h 6).c,.bool (h 6).t,.slice (h 6).B (h 6).m (h 6).d,.bool (h 7).s,.slice (h 7).A (h 7).n (h 7).c,.bool (h 7).t,.slice (h 7).B (h 7).m (h 7).d,.bool (h 8).s,.slice (h 8).A (h 8).n (h 8).c,.bool (h 8).t,.slice (h 8).B (h 8).m (h 8).d,.bool (h 9).s,.slice (h 9).A (h 9).n (h 9).c,.bool (h 9).t,.slice (h 9).B (h 9).m (h 9).d,.bool (h 10).s,.slice (h 10).A (h 10).n (h 10).c,.bool (h 10).t,.slice (h 10).B (h 10).m (h 10).d] VR from hQ.out.2);clear hbV hgR hQ;have hld:(Instr.loadAt 61 (.pointer (some ⟨gR,0,none⟩))).run Tryz.prog VR= .ok (.agg (repC h).toArray) VR:=run_loadAt_mid _ _ _ _ (repC h) _ (Blk.mid (hE.here.2) 0 rfl) Tryz.underlying61 rfl (by kernel_rfl);go_wp2_with (first|refine wpList_ldP hld rfl rfl rfl ?_|refine wpList_ldG hld (by rfl) rfl rfl ?_)
  clear hld;refine hE.fr (esources_v (h:=h) (hE.h4) (hE.h3) (hE.h2) (Hhrp.out.l 7) (Hhrp.out.l 8) (Hhrp.out.l 9) Hhrp.out.src.1 Hhrp.out.src.2) ?_;clear hE;intro ss As ns cs ts Bs ms ds w4 hE
  go_upto_region 9 with(fail)
  obtain⟨g5,hg5⟩:∃g5,g5=w4.heap.size:=⟨_,rfl⟩
  have hl5_0:w.heap.size<g5:=by rw[hg5];exact(hE.h13).lt
  have hl5_12:gR<g5:=by rw[hg5];exact(hE.here.1.2).lt
  replace hE:=hE.blk 29 (qf4 ss As ns cs ts Bs ms ds) (g:=g5) hg5.symm;generalize w4.alloc (.cells (qf4 ss As ns cs ts Bs ms ds) 29)=W5 at hE⊢;rw[<-hg5];clear hg5;have hfu:=Hhrp.out.fund;have hsp:=Hhrp.out.spl;have Hhfu:=Lib.hid hfu;clear hfu;have Hhsp:=Lib.hid hsp;clear hsp;replace hE:=hE.drew;refine wp_region_held_drew (S:=fun V=>Blk 61 (gR) #[.bool (h 0).s,.slice (h 0).A (h 0).n (h 0).c,.bool (h 0).t,.slice (h 0).B (h 0).m (h 0).d,.bool (h 1).s,.slice (h 1).A (h 1).n (h 1).c,.bool (h 1).t,.slice (h 1).B (h 1).m (h 1).d,.bool (h 2).s,.slice (h 2).A (h 2).n (h 2).c,.bool (h 2).t,.slice (h 2).B (h 2).m (h 2).d,.bool (h 3).s,.slice (h 3).A (h 3).n (h 3).c,.bool (h 3).t,.slice (h 3).B (h 3).m (h 3).d,.bool (h 4).s,.slice (h 4).A (h 4).n (h 4).c,.bool (h 4).t,.slice (h 4).B (h 4).m (h 4).d,.bool (h 5).s,.slice (h 5).A (h 5).n (h 5).c,.bool (h 5).t,.slice (h 5).B (h 5).m (h 5).d,.bool (h 6).s,.slice (h 6).A (h 6).n (h 6).c,.bool (h 6).t,.slice (h 6).B (h 6).m (h 6).d,.bool (h 7).s,.slice (h 7).A (h 7).n (h 7).c,.bool (h 7).t,.slice (h 7).B (h 7).m (h 7).d,.bool (h 8).s,.slice (h 8).A (h 8).n (h 8).c,.bool (h 8).t,.slice (h 8).B (h 8).m (h 8).d,.bool (h 9).s,.slice (h 9).A (h 9).n (h 9).c,.bool (h 9).t,.slice (h 9).B (h 9).m (h 9).d,.bool (h 10).s,.slice (h 10).A (h 10).n (h 10).c,.bool (h 10).t,.slice (h 10).B (h 10).m (h 10).d] V) (by kernel_rfl) (hE.h2) (fun hHeld=> ?_)
  generalize W5.drew=wd at*
  refine tk 0 ?_
  refine tk 1 ?_ (hy:=by
   intro w hSw;have kc0:=(hSw).cell 0;have kc1:=(hSw).cell 1;have kc2:=(hSw).cell 2;have kc3:=(hSw).cell 3;clear hSw
   first|(go_simp;done)|(go_simp;with_reducible rfl))
  try simp only[PL]
  refine tk 2 ?_
  refine tk 3 ?_ (hy:=by
   intro w hSw;have kc4:=(hSw).cell 4;have kc5:=(hSw).cell 5;have kc6:=(hSw).cell 6;have kc7:=(hSw).cell 7;clear hSw
   first|(go_simp;done)|(go_simp;with_reducible rfl))
  try simp only[PL]
  refine tk 5 ?_
  refine tk 6 ?_ (hy:=by
   intro w hSw;have kc12:=(hSw).cell 12;have kc13:=(hSw).cell 13;have kc14:=(hSw).cell 14;have kc15:=(hSw).cell 15;clear hSw
   first|(go_simp;done)|(go_simp;with_reducible rfl))
  try simp only[PL]
  refine tk 8 ?_
  refine tk 9 ?_ (hy:=by
   intro w hSw;have kc8:=(hSw).cell 8;have kc9:=(hSw).cell 9;have kc10:=(hSw).cell 10;have kc11:=(hSw).cell 11;clear hSw
   first|(go_simp;done)|(go_simp;with_reducible rfl))
  try simp only[PL]
  refine tk 10 ?_
  refine tk 11 ?_ (hy:=by
   intro w hSw;have kc16:=(hSw).cell 16;have kc17:=(hSw).cell 17;have kc18:=(hSw).cell 18;have kc19:=(hSw).cell 19;clear hSw
   first|(go_simp;done)|(go_simp;with_reducible rfl))
  try simp only[PL]
  obtain⟨B9,hB9⟩:∃B,B=wd.heap.size:=⟨_,rfl⟩
  have hw9:w.heap.size<=B9:=by rw[hB9];exact hE.bel.size
  have hl9_0:w.heap.size<B9:=by rw[hB9];exact(hE.e8.1.1.1.1.1.1.2).lt
  have hl9_12:gR<B9:=by rw[hB9];exact(hE.h2).lt
  have hl9_14:g5<B9:=by rw[hB9];exact(hE.here.2).lt
  refine iv_region (I:=IvInv w _ _ B9 [⟨4,31,RFq (X 0+X 1)⟩,⟨7,34,RFq (X 0+X 1+X 3)⟩,⟨12,39,RFq (X 2+X 4)⟩,⟨13,40,RFq (X 0+X 1+X 3-(X 2+X 4))⟩,⟨14,7,ALq 29 qz4 B9⟩]) [4,7,12,13,14] (f1:=1) (by kernel_rfl) (by kernel_rfl) (by kernel_rfl) rfl (by kernel_rfl) (by kernel_rfl) (by rfl) (IvInv.start hE hB9 (by kernel_rfl)) ?steps4 ?end4
  case steps4=>
   have hst:∀g∈([⟨4,31,RFq (X 0+X 1)⟩,⟨7,34,RFq (X 0+X 1+X 3)⟩,⟨12,39,RFq (X 2+X 4)⟩,⟨13,40,RFq (X 0+X 1+X 3-(X 2+X 4))⟩,⟨14,7,ALq 29 qz4 B9⟩]:List IvSlot),∀x,Stable (g.R x):=(fun g hg=>by simp only[List.mem_cons,List.not_mem_nil,or_false] at hg;rcases hg with rfl|rfl|rfl|rfl|rfl<;>first|exact RFq.stable _|exact ALq.stable _ _ _|exact TUq.stable _|exact ERq.stable _)
   clear hE hHeld hB9;refine IvSteps.cons (ds:=[1,3]) rfl (by kernel_rfl) (fun D a W0 hI hD K hK=> ?_) ?_
   ·
    have hE:=hI.here;obtain⟨xs,rfl,-,hF,-,-⟩:=id hI;obtain⟨x9_4,xs,rfl,h9_4,hF⟩:=hF.uncons;obtain⟨x9_7,xs,rfl,h9_7,hF⟩:=hF.uncons;obtain⟨x9_12,xs,rfl,h9_12,hF⟩:=hF.uncons;obtain⟨x9_13,xs,rfl,h9_13,hF⟩:=hF.uncons;obtain⟨x9_14,xs,rfl,h9_14,hF⟩:=hF.uncons;obtain rfl:=hF.nil;clear hF;try simp only[ivPut,Act.put,List.setIfInBounds_toArray,List.set_cons_zero,List.set_cons_succ,List.getElem_toArray,List.getElem_cons_succ,List.getElem_cons_zero]
    go_simp;refine(ew_sum (ca:=(h 0).c) (da:=(h 0).d) (cb:=(h 1).c) (db:=(h 1).d) (hE.h13) (hE.h12) (Hhrp.out.l 0) (Hhrp.out.l 1) ((Hhrp.out.spl).1)).mono ?_
    rintro e W1 ⟨sa,Aa,na,ca,ta,Ba,ma,da,rfl,hv,hb⟩
    have hE2:=hE.step hb;go_wp2_with fail
    refine hK.out _ _ (hE2.here.1.1.2) ?_;exact hI.call (c:=ca) (d:=da) 0 hst rfl (by kernel_rfl) (by kernel_rfl) (by kernel_rfl) hb hv
   refine IvSteps.cons (ds:=[4,6,4]) rfl (by kernel_rfl) (fun D a W0 hI hD K hK=> ?_) ?_
   ·
    have hE:=hI.here;obtain⟨xs,rfl,-,hF,-,-⟩:=id hI;obtain⟨x9_4,xs,rfl,h9_4,hF⟩:=hF.uncons;obtain⟨x9_7,xs,rfl,h9_7,hF⟩:=hF.uncons;obtain⟨x9_12,xs,rfl,h9_12,hF⟩:=hF.uncons;obtain⟨x9_13,xs,rfl,h9_13,hF⟩:=hF.uncons;obtain⟨x9_14,xs,rfl,h9_14,hF⟩:=hF.uncons;obtain rfl:=hF.nil;clear hF;try simp only[ivPut,Act.put,List.setIfInBounds_toArray,List.set_cons_zero,List.set_cons_succ,List.getElem_toArray,List.getElem_cons_succ,List.getElem_cons_zero]
    obtain⟨sa,Aa,na,ca,ta,Ba,ma,da,rfl,hq⟩:=h9_4 (hD 4 (by simp));replace hE:=hE.fv hq;clear hq;go_simp;refine(ew_sum (ca:=ca) (da:=da) (cb:=(h 3).c) (db:=(h 3).d) (hE.here.2) (hE.h11) ((Hhrp.out.spl).1) (Hhrp.out.l 3) (Hhfu.out.1)).mono ?_
    rintro e W1 ⟨sb,Ab,nb,cb,tb,Bb,mb,db,rfl,hv,hb⟩
    have hE2:=hE.step hb;go_wp2_with fail
    refine hK.out _ _ (hE2.here.1.1.1.2) ?_;exact hI.call (c:=cb) (d:=db) 1 hst rfl (by kernel_rfl) (by kernel_rfl) (by kernel_rfl) hb hv
   refine IvSteps.cons (ds:=[9,11,7]) rfl (by kernel_rfl) (fun D a W0 hI hD K hK=> ?_) ?_
   ·
    have hE:=hI.here;obtain⟨xs,rfl,-,hF,-,-⟩:=id hI;obtain⟨x9_4,xs,rfl,h9_4,hF⟩:=hF.uncons;obtain⟨x9_7,xs,rfl,h9_7,hF⟩:=hF.uncons;obtain⟨x9_12,xs,rfl,h9_12,hF⟩:=hF.uncons;obtain⟨x9_13,xs,rfl,h9_13,hF⟩:=hF.uncons;obtain⟨x9_14,xs,rfl,h9_14,hF⟩:=hF.uncons;obtain rfl:=hF.nil;clear hF;try simp only[ivPut,Act.put,List.setIfInBounds_toArray,List.set_cons_zero,List.set_cons_succ,List.getElem_toArray,List.getElem_cons_succ,List.getElem_cons_zero]
    go_simp;refine(ew_sum (ca:=(h 2).c) (da:=(h 2).d) (cb:=(h 4).c) (db:=(h 4).d) (hE.h11) (hE.h9) (Hhrp.out.l 2) (Hhrp.out.l 4) (Hhfu.out.2.1)).mono ?_
    rintro e W1 ⟨sc,Ac,nc,cc,tc,Bc,mc,dc,rfl,hv,hb⟩
    have hE2:=hE.step hb;go_wp2_with fail
    refine hK.out _ _ (hE2.here.1.1.2) ?_;exact hI.call (c:=cc) (d:=dc) 2 hst rfl (by kernel_rfl) (by kernel_rfl) (by kernel_rfl) hb hv
   refine IvSteps.cons (ds:=[7,12,12]) rfl (by kernel_rfl) (fun D a W0 hI hD K hK=> ?_) ?_
   ·
    have hE:=hI.here;obtain⟨xs,rfl,-,hF,-,-⟩:=id hI;obtain⟨x9_4,xs,rfl,h9_4,hF⟩:=hF.uncons;obtain⟨x9_7,xs,rfl,h9_7,hF⟩:=hF.uncons;obtain⟨x9_12,xs,rfl,h9_12,hF⟩:=hF.uncons;obtain⟨x9_13,xs,rfl,h9_13,hF⟩:=hF.uncons;obtain⟨x9_14,xs,rfl,h9_14,hF⟩:=hF.uncons;obtain rfl:=hF.nil;clear hF;try simp only[ivPut,Act.put,List.setIfInBounds_toArray,List.set_cons_zero,List.set_cons_succ,List.getElem_toArray,List.getElem_cons_succ,List.getElem_cons_zero]
    obtain⟨sb,Ab,nb,cb,tb,Bb,mb,db,rfl,hq⟩:=h9_7 (hD 7 (by simp));replace hE:=hE.fv hq;clear hq;obtain⟨sc,Ac,nc,cc,tc,Bc,mc,dc,rfl,hq⟩:=h9_12 (hD 12 (by simp));replace hE:=hE.fv hq;clear hq;go_simp;refine(ew_less (ca:=cb) (da:=db) (cb:=cc) (db:=dc) (hE.here.1.2) (hE.here.2) (Hhfu.out.1) (Hhfu.out.2.1) (Hhfu.out.2.2.1)).mono ?_
    rintro e W1 ⟨sd,Ad,nd,cd,td,Bd,md,dd,rfl,hv,hb⟩
    have hE2:=hE.step hb;go_wp2_with fail
    refine hK.out _ _ (hE2.here.1.1.1.1.2) ?_;exact hI.call (c:=cd) (d:=dd) 3 hst rfl (by kernel_rfl) (by kernel_rfl) (by kernel_rfl) hb hv
   refine IvSteps.cons (ds:=[]) rfl (by kernel_rfl) (fun D a W0 hI hD K hK=> ?_) ?_
   ·
    have hE:=hI.here;obtain⟨xs,rfl,-,hF,-,-⟩:=id hI;obtain⟨x9_4,xs,rfl,h9_4,hF⟩:=hF.uncons;obtain⟨x9_7,xs,rfl,h9_7,hF⟩:=hF.uncons;obtain⟨x9_12,xs,rfl,h9_12,hF⟩:=hF.uncons;obtain⟨x9_13,xs,rfl,h9_13,hF⟩:=hF.uncons;obtain⟨x9_14,xs,rfl,h9_14,hF⟩:=hF.uncons;obtain rfl:=hF.nil;clear hF;try simp only[ivPut,Act.put,List.setIfInBounds_toArray,List.set_cons_zero,List.set_cons_succ,List.getElem_toArray,List.getElem_cons_succ,List.getElem_cons_zero]
    go_simp;have hE2:=hE.alloc (.cells qz4 29);refine hK.out _ _ (hE2.here.1.1.2) ?_;exact hI.alloc 4 hst rfl (by kernel_rfl) (by kernel_rfl) (by kernel_rfl)
   exact IvSteps.nil
  clear hE hHeld hB9;intro D a W9 hI hD;have hE:=hI.here;obtain⟨xs,rfl,-,hF,hA,-⟩:=id hI;clear hI;obtain⟨x9_4,xs,rfl,h9_4,hF⟩:=hF.uncons;obtain⟨x9_7,xs,rfl,h9_7,hF⟩:=hF.uncons;obtain⟨x9_12,xs,rfl,h9_12,hF⟩:=hF.uncons;obtain⟨x9_13,xs,rfl,h9_13,hF⟩:=hF.uncons;obtain⟨x9_14,xs,rfl,h9_14,hF⟩:=hF.uncons;obtain rfl:=hF.nil;clear hF;obtain⟨sa,Aa,na,ca,ta,Ba,ma,da,rfl,hq4⟩:=h9_4 (hD 4 (by simp));obtain⟨sb,Ab,nb,cb,tb,Bb,mb,db,rfl,hq7⟩:=h9_7 (hD 7 (by simp));obtain⟨sc,Ac,nc,cc,tc,Bc,mc,dc,rfl,hq12⟩:=h9_12 (hD 12 (by simp));obtain⟨sd,Ad,nd,cd,td,Bd,md,dd,rfl,hq13⟩:=h9_13 (hD 13 (by simp));obtain⟨G9_14,rfl,hg9_14,hq14⟩:=h9_14 (hD 14 (by simp));replace hE:=(((((hE.fv hq4).fv hq7).fv hq12).fv hq13).blkI hq14);clear hA hD hq4 h9_4 hq7 h9_7 hq12 h9_12 hq13 h9_13 hq14 h9_14;try simp only[ivPut,Act.put,List.setIfInBounds_toArray,List.set_cons_zero,List.set_cons_succ,List.getElem_toArray,List.getElem_cons_succ,List.getElem_cons_zero]
  have hHeld:(fun V=>Blk 61 (gR) #[.bool (h 0).s,.slice (h 0).A (h 0).n (h 0).c,.bool (h 0).t,.slice (h 0).B (h 0).m (h 0).d,.bool (h 1).s,.slice (h 1).A (h 1).n (h 1).c,.bool (h 1).t,.slice (h 1).B (h 1).m (h 1).d,.bool (h 2).s,.slice (h 2).A (h 2).n (h 2).c,.bool (h 2).t,.slice (h 2).B (h 2).m (h 2).d,.bool (h 3).s,.slice (h 3).A (h 3).n (h 3).c,.bool (h 3).t,.slice (h 3).B (h 3).m (h 3).d,.bool (h 4).s,.slice (h 4).A (h 4).n (h 4).c,.bool (h 4).t,.slice (h 4).B (h 4).m (h 4).d,.bool (h 5).s,.slice (h 5).A (h 5).n (h 5).c,.bool (h 5).t,.slice (h 5).B (h 5).m (h 5).d,.bool (h 6).s,.slice (h 6).A (h 6).n (h 6).c,.bool (h 6).t,.slice (h 6).B (h 6).m (h 6).d,.bool (h 7).s,.slice (h 7).A (h 7).n (h 7).c,.bool (h 7).t,.slice (h 7).B (h 7).m (h 7).d,.bool (h 8).s,.slice (h 8).A (h 8).n (h 8).c,.bool (h 8).t,.slice (h 8).B (h 8).m (h 8).d,.bool (h 9).s,.slice (h 9).A (h 9).n (h 9).c,.bool (h 9).t,.slice (h 9).B (h 9).m (h 9).d,.bool (h 10).s,.slice (h 10).A (h 10).n (h 10).c,.bool (h 10).t,.slice (h 10).B (h 10).m (h 10).d] V) W9:=hE.h7;refine r1 15 (fun K hK=> ?_)
  have hgl6:w.heap.size<=G9_14:=by omega
  obtain⟨x6_0,x6_1,x6_2,x6_3⟩:=(hE.here.2).c4;obtain⟨f6_0,f6_1,f6_2,f6_3⟩:=hE.here.2.f4;replace hE:=(((((((((((((((((((((Env.again (bel4 hE.bel hgl6 (.bool sd) (.slice Ad nd cd) (.bool td) (.slice Bd md dd))).blkI ((hE.e16.1.1.1.2).far4 (by omega) _ _ _ _)).fv ((hE.e16.1.1.2).sep4 hE.here.2 rfl _ _ _ _ rfl rfl rfl)).fv ((hE.e16.1.2).sep4 hE.here.2 rfl _ _ _ _ rfl rfl rfl)).fv ((hE.e16.2).sep4 hE.here.2 rfl _ _ _ _ rfl rfl rfl)).fv ((hE.e8.1.1.1.1.1.1.1.2).sep4 hE.here.2 rfl _ _ _ _ rfl rfl rfl)).fv ((hE.e8.1.1.1.1.1.1.2).sep4 hE.here.2 rfl _ _ _ _ rfl rfl rfl)).fv ((hE.h13).sep4 hE.here.2 rfl _ _ _ _ rfl rfl rfl)).fv ((hE.h12).sep4 hE.here.2 rfl _ _ _ _ rfl rfl rfl)).fv ((hE.h11).sep4 hE.here.2 rfl _ _ _ _ rfl rfl rfl)).fv ((hE.h10).sep4 hE.here.2 rfl _ _ _ _ rfl rfl rfl)).fv ((hE.h9).sep4 hE.here.2 rfl _ _ _ _ rfl rfl rfl)).fv ((hE.h8).sep4 hE.here.2 rfl _ _ _ _ rfl rfl rfl)).blkI ((hE.h7).far4 (by omega) _ _ _ _)).fv ((hE.h6).sep4 hE.here.2 rfl _ _ _ _ rfl rfl rfl)).blkI ((hE.h5).far4 (by omega) _ _ _ _)).fv ((hE.h4).sep4 hE.here.2 rfl _ _ _ _ rfl rfl rfl)).fv ((hE.h3).sep4 hE.here.2 rfl _ _ _ _ rfl rfl rfl)).fv ((hE.h2).sep4 hE.here.2 rfl _ _ _ _ rfl rfl rfl)).fv ((hE.here.1.2).sep4 hE.here.2 rfl _ _ _ _ rfl rfl rfl)).blkI ((hE.here.2).s4 _ _ _ _));go_simp;clear x6_0 x6_1 x6_2 x6_3 f6_0 f6_1 f6_2 f6_3 hgl6;generalize ((((W9.setCell ⟨G9_14,0,none⟩ (.bool sd)).setCell ⟨G9_14,1,none⟩ (.slice Ad nd cd)).setCell ⟨G9_14,2,none⟩ (.bool td)).setCell ⟨G9_14,3,none⟩ (.slice Bd md dd))=W6 at hE⊢;refine hK.out _ _ (hE.h7) (fun hHeld=> ?_);clear hK K;try simp only[PL]
  refine wpAnyH_done (by kernel_rfl) ?_ _;skip;have hs5:fl (spl X)<=256:=Hhsp.out.2.2.2.2
  have hsf:X 0+X 1+X 3-(X 2+X 4)-X 5=spl X:=by unfold spl;grind
  go_upto_region 10 with(fail)
  replace hE:=hE.drew;refine wp_region_held_drew (S:=fun V=>Blk 61 (gR) #[.bool (h 0).s,.slice (h 0).A (h 0).n (h 0).c,.bool (h 0).t,.slice (h 0).B (h 0).m (h 0).d,.bool (h 1).s,.slice (h 1).A (h 1).n (h 1).c,.bool (h 1).t,.slice (h 1).B (h 1).m (h 1).d,.bool (h 2).s,.slice (h 2).A (h 2).n (h 2).c,.bool (h 2).t,.slice (h 2).B (h 2).m (h 2).d,.bool (h 3).s,.slice (h 3).A (h 3).n (h 3).c,.bool (h 3).t,.slice (h 3).B (h 3).m (h 3).d,.bool (h 4).s,.slice (h 4).A (h 4).n (h 4).c,.bool (h 4).t,.slice (h 4).B (h 4).m (h 4).d,.bool (h 5).s,.slice (h 5).A (h 5).n (h 5).c,.bool (h 5).t,.slice (h 5).B (h 5).m (h 5).d,.bool (h 6).s,.slice (h 6).A (h 6).n (h 6).c,.bool (h 6).t,.slice (h 6).B (h 6).m (h 6).d,.bool (h 7).s,.slice (h 7).A (h 7).n (h 7).c,.bool (h 7).t,.slice (h 7).B (h 7).m (h 7).d,.bool (h 8).s,.slice (h 8).A (h 8).n (h 8).c,.bool (h 8).t,.slice (h 8).B (h 8).m (h 8).d,.bool (h 9).s,.slice (h 9).A (h 9).n (h 9).c,.bool (h 9).t,.slice (h 9).B (h 9).m (h 9).d,.bool (h 10).s,.slice (h 10).A (h 10).n (h 10).c,.bool (h 10).t,.slice (h 10).B (h 10).m (h 10).d] V/\Blk 29 (g5) (qf4 ss As ns cs ts Bs ms ds) V/\Blk 29 (G9_14) (qf4 sd Ad nd cd td Bd md dd) V) (by kernel_rfl) (⟨hE.h7,hE.h5,hE.here.2⟩) (fun hHeld=> ?_)
  generalize W6.drew=wd at*
  refine tk 0 ?_;refine tk 1 ?_;refine tk 2 ?_
  refine tk 3 ?_ (hy:=by
   intro w hSw;have kc0:=(hSw.2.1).cell 0;have kc1:=(hSw.2.1).cell 1;have kc2:=(hSw.2.1).cell 2;have kc3:=(hSw.2.1).cell 3;clear hSw
   first|(go_simp;done)|(go_simp;with_reducible rfl))
  try simp only[PL]
  refine tk 4 ?_
  refine tk 5 ?_ (hy:=by
   intro w hSw;have kc40:=(hSw.1).cell 40;have kc41:=(hSw.1).cell 41;have kc42:=(hSw.1).cell 42;have kc43:=(hSw.1).cell 43;clear hSw
   first|(go_simp;done)|(go_simp;with_reducible rfl))
  try simp only[PL]
  refine r1 6 (fun K hK=> ?_);go_simp;refine hE.br (ew_equal (v:=true) (ca:=cs) (da:=ds) (cb:=(h 10).c) (db:=(h 10).d) (hE.h6) (hE.h8) Hhrp.out.src.2 hs5 (decide_eq_true Hhsm.out.symm)) ?_;clear hE;intro w7 hE;go_wp2_with fail
  refine hK.out _ _ (⟨hE.h7,hE.h5,hE.here.2⟩) (fun hHeld=> ?_);clear hK K;try simp only[PL]
  refine tk 7 ?_;refine tk 8 ?_
  refine tk 9 ?_ (hy:=by
   intro w hSw;have kc0:=(hSw.2.2).cell 0;have kc1:=(hSw.2.2).cell 1;have kc2:=(hSw.2.2).cell 2;have kc3:=(hSw.2.2).cell 3;clear hSw
   first|(go_simp;done)|(go_simp;with_reducible rfl))
  try simp only[PL]
  refine tk 10 ?_
  refine tk 11 ?_ (hy:=by
   intro w hSw;have kc20:=(hSw.1).cell 20;have kc21:=(hSw.1).cell 21;have kc22:=(hSw.1).cell 22;have kc23:=(hSw.1).cell 23;clear hSw
   first|(go_simp;done)|(go_simp;with_reducible rfl))
  try simp only[PL]
  refine tk 13 ?_
  refine tk 14 ?_ (hy:=by
   intro w hSw;have kc40:=(hSw.1).cell 40;have kc41:=(hSw.1).cell 41;have kc42:=(hSw.1).cell 42;have kc43:=(hSw.1).cell 43;clear hSw
   first|(go_simp;done)|(go_simp;with_reducible rfl))
  try simp only[PL]
  refine r1 12 (fun K hK=> ?_);go_simp;refine hE.fr (ew_less (ca:=cd) (da:=dd) (cb:=(h 5).c) (db:=(h 5).d) (hE.here.1.2) (hE.h13) (Hhfu.out.2.2.1) (Hhrp.out.l 5) (Hhfu.out.2.2.2)) ?_;clear hE;intro sf Af nf cf tf Bf mf df w8 hE;go_wp2_with fail
  refine hK.out _ _ (⟨hE.h8,hE.h6,hE.here.1.2⟩) (fun hHeld=> ?_);clear hK K;try simp only[PL]
  refine r1 15 (fun K hK=> ?_);go_simp;refine hE.br (ew_equal (v:=true) (ca:=cf) (da:=df) (cb:=(h 10).c) (db:=(h 10).d) (hE.here.2) (hE.h9) (Hhfu.out.2.2.2) hs5 (decide_eq_true hsf)) ?_;clear hE;intro w9 hE;go_wp2_with fail
  refine hK.out _ _ (⟨hE.h8,hE.h6,hE.here.1.2⟩) (fun hHeld=> ?_);clear hK K;try simp only[PL]
  refine tk 16 ?_;refine tk 17 ?_;refine wpAnyH_done (by kernel_rfl) ?_ _;go_wp2_with fail
  go_ret
  exact⟨rfl,hE.bel⟩
end Go.Proofs.YtclbiihcbfnjmaaGreat
