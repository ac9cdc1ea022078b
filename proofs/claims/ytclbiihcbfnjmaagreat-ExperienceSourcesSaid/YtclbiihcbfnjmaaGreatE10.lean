/-
  Parts.
-/
import Derived.Test.YtclbiihcbfnjmaaGreatE6
import Derived.Test.YtclbiihcbfnjmaaGreatE7
import Derived.Test.YtclbiihcbfnjmaaGreatE8
set_option linter.unusedSimpArgs false
set_option maxRecDepth 100000
set_option maxHeartbeats 8000000
namespace Go.Proofs.YtclbiihcbfnjmaaGreat
open Go.RowKit

theorem uw {a:Rat}{sa ta:Bool}{Aa Ba:Option Addr}{na ca ma da:Nat}{w:World}{n:Int}(ha:FV w a sa Aa na ta Ba ma)(la:fl a<=256)(h1:-9223372036854775808<=n)(h2:n<=9223372036854775807)(h:a=Rat.divInt n 1):
  Calls Tryz.prog 90 #[.agg (az sa Aa na ca ta Ba ma da),.int .i64 n] w (fun e w'=>e= .returned (.bool true)/\Below w.heap.size w w'):=by
 have l1:=ha.ln la;have hE:=((Env.start w).fv ha).blk 29 (az sa Aa na ca ta Ba ma da) (g:=w.heap.size) rfl
 obtain⟨W0,aC⟩:∃W0,W0=(w.alloc (.cells (az sa Aa na ca ta Ba ma da) 29)):=⟨_,rfl⟩
 rw[<-aC] at hE;have aZ:=af aC;clear aC
 go_enter Tryz.func90,Tryz.ntmps90
 go_upto_region 1 with(fail)
 rw[<-aZ.out];replace hE:=hE.drew;refine bH (S:=fun V=>au 29 (w.heap.size) (az sa Aa na ca ta Ba ma da) V) (by kernel_rfl) (hE.g0) (fun hHeld=> ?_)
 generalize W0.drew=wd at*
 refine tk 0 ?_ (hy:=by
  intro w aG;have nR:=(aG).cell 0;have qL:=(aG).cell 1;have rS:=(aG).cell 2;have qR:=(aG).cell 3;clear aG
  first|(go_simp;done)|(go_simp;with_reducible rfl))
 try simp only[PL]
 refine tk 1 ?_;refine r1 2 (fun K hK=> ?_);go_simp;refine hE.fr (gK n 1 _ h1 h2 (by decide) (by decide) (by decide)) ?_;clear hE;intro sf Af nf cf tf Bf mf df w1 hE;go_wp2_with fail
 refine hK.out _ _ (hE.g1) (fun hHeld=> ?_);clear hK K;try simp only[PL]
 refine r1 3 (fun K hK=> ?_);go_simp;have l2:=(hE.g0).ln (show fl (Rat.divInt n 1)<=256 by rw[<-h];exact la);have hc:=CP (ca:=ca) (da:=da) (cb:=cf) (db:=df) (hE.h2) (hE.g0) (by omega) (by omega) (by omega) (by omega);rw[aL h] at hc;refine hE.br hc ?_;clear hE hc;intro w9 hE;go_wp2_with fail
 refine hK.out _ _ (hE.g1) (fun hHeld=> ?_);clear hK K;try simp only[PL]
 refine tk 4 ?_;refine aX (by kernel_rfl) ?_ _;go_wp2_with fail
 go_ret
 exact⟨rfl,hE.ax⟩
theorem qS (w:World):
  Calls Tryz.prog 36 #[] w (fun e w'=>e= .returned (.bool true)/\Below w.heap.size w w'):=by
 have hE:=Env.start w
 go_enter Tryz.func36,Tryz.ntmps36
 go_wp2_with fail
 refine(KK _).mono ?_
 rintro e w1 ⟨y,rfl,hy,hyb,hyi,hyS,hv,hb⟩
 replace hE:=hE.step hb;clear hb;go_wp2_with fail
 refine(Ga hy hyb hyi hyS).mono ?_
 rintro e w2 ⟨h,rfl,hF,hb⟩
 replace hE:=hE.step hb;clear hb
 have hsp:KL (rep y.it y.n)=1496:=by unfold KL;obtain⟨v0,v1,v2,v3,v4,v5,-⟩:=hv;rw[v0,v1,v2,v3,v4,v5];decide+kernel
 obtain⟨v0,v1,v2,v3,v4,v5,v6,v7,v8,v9⟩:=hv
 have f0:FV w2 (Rat.divInt (5704) 1) (h 0).s (h 0).A (h 0).n (h 0).t (h 0).B (h 0).m:=by have h9:=hF 0 (by decide);dsimp only at h9;rw[if_neg (by decide)] at h9;rw[v0] at h9;have e9:(5704:Rat)=Rat.divInt (5704) 1:=(by decide+kernel);rw[e9] at h9;exact h9
 replace hE:=hE.fv f0;clear f0
 have f1:FV w2 (Rat.divInt (1000) 1) (h 1).s (h 1).A (h 1).n (h 1).t (h 1).B (h 1).m:=by have h9:=hF 1 (by decide);dsimp only at h9;rw[if_neg (by decide)] at h9;rw[v1] at h9;have e9:(1000:Rat)=Rat.divInt (1000) 1:=(by decide+kernel);rw[e9] at h9;exact h9
 replace hE:=hE.fv f1;clear f1
 have f2:FV w2 (Rat.divInt (0) 1) (h 2).s (h 2).A (h 2).n (h 2).t (h 2).B (h 2).m:=by have h9:=hF 2 (by decide);dsimp only at h9;rw[if_neg (by decide)] at h9;rw[v2] at h9;have e9:(0:Rat)=Rat.divInt (0) 1:=(by decide+kernel);rw[e9] at h9;exact h9
 replace hE:=hE.fv f2;clear f2
 have f3:FV w2 (Rat.divInt (3352) 1) (h 3).s (h 3).A (h 3).n (h 3).t (h 3).B (h 3).m:=by have h9:=hF 3 (by decide);dsimp only at h9;rw[if_neg (by decide)] at h9;rw[v3] at h9;have e9:(3352:Rat)=Rat.divInt (3352) 1:=(by decide+kernel);rw[e9] at h9;exact h9
 replace hE:=hE.fv f3;clear f3
 have f4:FV w2 (Rat.divInt (2000) 1) (h 4).s (h 4).A (h 4).n (h 4).t (h 4).B (h 4).m:=by have h9:=hF 4 (by decide);dsimp only at h9;rw[if_neg (by decide)] at h9;rw[v4] at h9;have e9:(2000:Rat)=Rat.divInt (2000) 1:=(by decide+kernel);rw[e9] at h9;exact h9
 replace hE:=hE.fv f4;clear f4
 have f5:FV w2 (Rat.divInt (6560) 1) (h 5).s (h 5).A (h 5).n (h 5).t (h 5).B (h 5).m:=by have h9:=hF 5 (by decide);dsimp only at h9;rw[if_neg (by decide)] at h9;rw[v5] at h9;have e9:(6560:Rat)=Rat.divInt (6560) 1:=(by decide+kernel);rw[e9] at h9;exact h9
 replace hE:=hE.fv f5;clear f5
 have f6:FV w2 (Rat.divInt (2676) 1) (h 6).s (h 6).A (h 6).n (h 6).t (h 6).B (h 6).m:=by have h9:=hF 6 (by decide);dsimp only at h9;rw[if_neg (by decide)] at h9;rw[v6] at h9;have e9:(2676:Rat)=Rat.divInt (2676) 1:=(by decide+kernel);rw[e9] at h9;exact h9
 replace hE:=hE.fv f6;clear f6
 have f7:FV w2 (Rat.divInt (1676) 1) (h 7).s (h 7).A (h 7).n (h 7).t (h 7).B (h 7).m:=by have h9:=hF 7 (by decide);dsimp only at h9;rw[if_neg (by decide)] at h9;rw[v7] at h9;have e9:(1676:Rat)=Rat.divInt (1676) 1:=(by decide+kernel);rw[e9] at h9;exact h9
 replace hE:=hE.fv f7;clear f7
 have f8:FV w2 (Rat.divInt (-180) 1) (h 8).s (h 8).A (h 8).n (h 8).t (h 8).B (h 8).m:=by have h9:=hF 8 (by decide);dsimp only at h9;rw[if_neg (by decide)] at h9;rw[v8] at h9;have e9:(-180:Rat)=Rat.divInt (-180) 1:=(by decide+kernel);rw[e9] at h9;exact h9
 replace hE:=hE.fv f8;clear f8
 have f9:FV w2 (Rat.divInt (0) 1) (h 9).s (h 9).A (h 9).n (h 9).t (h 9).B (h 9).m:=by have h9:=hF 9 (by decide);dsimp only at h9;rw[if_neg (by decide)] at h9;rw[v9] at h9;have e9:(0:Rat)=Rat.divInt (0) 1:=(by decide+kernel);rw[e9] at h9;exact h9
 replace hE:=hE.fv f9;clear f9
 have f10:FV w2 (Rat.divInt (1496) 1) (h 10).s (h 10).A (h 10).n (h 10).t (h 10).B (h 10).m:=by have h9:=hF 10 (by decide);dsimp only at h9;rw[if_pos rfl] at h9;rw[hsp] at h9;have e9:(1496:Rat)=Rat.divInt (1496) 1:=(by decide+kernel);rw[e9] at h9;exact h9
 replace hE:=hE.fv f10;clear f10;clear hF hsp v0 v1 v2 v3 v4 v5 v6 v7 v8 v9 hy hyb hyi hyS;obtain⟨VR,hst,KM,vk⟩:=xS w2 61 (z:=#[.bool false,.slice none 0 0,.bool false,.slice none 0 0,.bool false,.slice none 0 0,.bool false,.slice none 0 0,.bool false,.slice none 0 0,.bool false,.slice none 0 0,.bool false,.slice none 0 0,.bool false,.slice none 0 0,.bool false,.slice none 0 0,.bool false,.slice none 0 0,.bool false,.slice none 0 0,.bool false,.slice none 0 0,.bool false,.slice none 0 0,.bool false,.slice none 0 0,.bool false,.slice none 0 0,.bool false,.slice none 0 0,.bool false,.slice none 0 0,.bool false,.slice none 0 0,.bool false,.slice none 0 0,.bool false,.slice none 0 0,.bool false,.slice none 0 0,.bool false,.slice none 0 0]) (nM h) rfl (by kernel_rfl) rfl;have hQ:=af (And.intro KM vk);clear KM vk
 go_upto_region 2 with(first|refine mE hst rfl rfl rfl rfl ?_)
 clear hst
 obtain⟨gR,hgR⟩:∃g,g=w2.heap.size:=⟨_,rfl⟩
 rw[<-hgR] at hQ⊢;have KM:=hQ.out.1;rw[hgR] at KM;replace hE:=(hE.step KM).ag (show au 61 gR #[.bool (h 0).s,.slice (h 0).A (h 0).n (h 0).c,.bool (h 0).t,.slice (h 0).B (h 0).m (h 0).d,.bool (h 1).s,.slice (h 1).A (h 1).n (h 1).c,.bool (h 1).t,.slice (h 1).B (h 1).m (h 1).d,.bool (h 2).s,.slice (h 2).A (h 2).n (h 2).c,.bool (h 2).t,.slice (h 2).B (h 2).m (h 2).d,.bool (h 3).s,.slice (h 3).A (h 3).n (h 3).c,.bool (h 3).t,.slice (h 3).B (h 3).m (h 3).d,.bool (h 4).s,.slice (h 4).A (h 4).n (h 4).c,.bool (h 4).t,.slice (h 4).B (h 4).m (h 4).d,.bool (h 5).s,.slice (h 5).A (h 5).n (h 5).c,.bool (h 5).t,.slice (h 5).B (h 5).m (h 5).d,.bool (h 6).s,.slice (h 6).A (h 6).n (h 6).c,.bool (h 6).t,.slice (h 6).B (h 6).m (h 6).d,.bool (h 7).s,.slice (h 7).A (h 7).n (h 7).c,.bool (h 7).t,.slice (h 7).B (h 7).m (h 7).d,.bool (h 8).s,.slice (h 8).A (h 8).n (h 8).c,.bool (h 8).t,.slice (h 8).B (h 8).m (h 8).d,.bool (h 9).s,.slice (h 9).A (h 9).n (h 9).c,.bool (h 9).t,.slice (h 9).B (h 9).m (h 9).d,.bool (h 10).s,.slice (h 10).A (h 10).n (h 10).c,.bool (h 10).t,.slice (h 10).B (h 10).m (h 10).d] VR from hQ.out.2);clear KM hgR hQ;have Zh:(Instr.loadAt 61 (.pointer (some ⟨gR,0,none⟩))).run Tryz.prog VR= .ok (.agg (nM h).toArray) VR:=mF _ _ _ _ (nM h) _ (au.mid (hE.g0) 0 rfl) Tryz.underlying61 rfl (by kernel_rfl);go_wp2_with (first|refine gQ Zh rfl rfl rfl ?_|refine Gb Zh (by rfl) rfl rfl ?_)
 clear Zh;refine hE.fr (vm (h:=h) (hE.h4) (hE.h3) (hE.h2) (by rw[dA];decide+kernel) (by rw[dA];decide+kernel) (by rw[dA];decide+kernel) (by rw[dA];decide+kernel) (by rw[dA];decide+kernel)) ?_;clear hE;intro ss As ns cs ts Bs ms ds w1 hE
 go_upto_region 3 with(fail)
 obtain⟨g2,zX⟩:∃g2,g2=w1.heap.size:=⟨_,rfl⟩
 replace hE:=hE.blk 29 (az ss As ns cs ts Bs ms ds) (g:=g2) zX.symm;generalize w1.alloc (.cells (az ss As ns cs ts Bs ms ds) 29)=W2 at hE⊢;rw[<-zX];clear zX;have k3:=(hE.h2).cell 0;have k4:=(hE.h2).cell 1;have k5:=(hE.h2).cell 2;have k6:=(hE.h2).cell 3;go_wp2_with fail
 refine hE.br (uw (ca:=(h 0).c) (da:=(h 0).d) (n:=5704) (hE.dN) (by rw[dA];decide+kernel) (by decide) (by decide) rfl) ?_;clear hE k3 k4 k5 k6;intro w7 hE;have k8:=(hE.h2).cell 4;have k9:=(hE.h2).cell 5;have fU:=(hE.h2).cell 6;have dX:=(hE.h2).cell 7;go_wp2_with fail
 refine hE.br (uw (ca:=(h 1).c) (da:=(h 1).d) (n:=1000) (hE.h12) (by rw[dA];decide+kernel) (by decide) (by decide) rfl) ?_;clear hE k8 k9 fU dX;intro On hE;have eu:=(hE.h2).cell 8;have eF:=(hE.h2).cell 9;have iA:=(hE.h2).cell 10;have kz:=(hE.h2).cell 11;go_wp2_with fail
 refine hE.br (uw (ca:=(h 2).c) (da:=(h 2).d) (n:=0) (hE.h11) (by rw[dA];decide+kernel) (by decide) (by decide) rfl) ?_;clear hE eu eF iA kz;intro Gc hE;have jS:=(hE.h2).cell 12;have kT:=(hE.h2).cell 13;have kB:=(hE.h2).cell 14;have lV:=(hE.h2).cell 15;go_wp2_with fail
 refine hE.br (uw (ca:=(h 3).c) (da:=(h 3).d) (n:=3352) (hE.h10) (by rw[dA];decide+kernel) (by decide) (by decide) rfl) ?_;clear hE jS kT kB lV;intro w22 hE;have nC:=(hE.h2).cell 16;have rP:=(hE.h2).cell 17;have pU:=(hE.h2).cell 18;have nQ:=(hE.h2).cell 19;go_wp2_with fail
 refine hE.br (uw (ca:=(h 4).c) (da:=(h 4).d) (n:=2000) (hE.h9) (by rw[dA];decide+kernel) (by decide) (by decide) rfl) ?_;clear hE nC rP pU nQ;intro w27 hE;have pM:=(hE.h2).cell 20;have Fy:=(hE.h2).cell 21;have wW:=(hE.h2).cell 22;have uG:=(hE.h2).cell 23;go_wp2_with fail
 refine hE.br (uw (ca:=(h 5).c) (da:=(h 5).d) (n:=6560) (hE.h8) (by rw[dA];decide+kernel) (by decide) (by decide) rfl) ?_;clear hE pM Fy wW uG;intro w32 hE;have tD:=(hE.h2).cell 24;have Oo:=(hE.h2).cell 25;have Un:=(hE.h2).cell 26;have KN:=(hE.h2).cell 27;go_wp2_with fail
 refine hE.br (uw (ca:=(h 6).c) (da:=(h 6).d) (n:=2676) (hE.h7) (by rw[dA];decide+kernel) (by decide) (by decide) rfl) ?_;clear hE tD Oo Un KN;intro w37 hE;have xj:=(hE.h2).cell 28;have xP:=(hE.h2).cell 29;have Cq:=(hE.h2).cell 30;have Fz:=(hE.h2).cell 31;go_wp2_with fail
 refine hE.br (uw (ca:=(h 7).c) (da:=(h 7).d) (n:=1676) (hE.h6) (by rw[dA];decide+kernel) (by decide) (by decide) rfl) ?_;clear hE xj xP Cq Fz;intro w42 hE;have zl:=(hE.h2).cell 32;have CC:=(hE.h2).cell 33;have zm:=(hE.h2).cell 34;have CM:=(hE.h2).cell 35;go_wp2_with fail
 refine hE.br (uw (ca:=(h 8).c) (da:=(h 8).d) (n:=-180) (hE.h5) (by rw[dA];decide+kernel) (by decide) (by decide) rfl) ?_;clear hE zl CC zm CM;intro w47 hE;have MX:=(hE.h2).cell 36;have MB:=(hE.h2).cell 37;have TH:=(hE.h2).cell 38;have MY:=(hE.h2).cell 39;go_wp2_with fail
 refine hE.br (uw (ca:=(h 9).c) (da:=(h 9).d) (n:=0) (hE.h4) (by rw[dA];decide+kernel) (by decide) (by decide) rfl) ?_;clear hE MX MB TH MY;intro w52 hE;have Zb:=(hE.h2).cell 40;have k54:=(hE.h2).cell 41;have k55:=(hE.h2).cell 42;have k56:=(hE.h2).cell 43;go_wp2_with fail
 refine hE.br (uw (ca:=(h 10).c) (da:=(h 10).d) (n:=1496) (hE.h3) (by rw[dA];decide+kernel) (by decide) (by decide) rfl) ?_;clear hE Zb k54 k55 k56;intro w57 hE;obtain⟨k58,k59,k60,k61⟩:=(hE.g0).c4;go_wp2_with fail
 refine hE.br (uw (ca:=cs) (da:=ds) (n:=1496) (hE.g1) (by rw[dA];decide+kernel) (by decide) (by decide) (by decide+kernel)) ?_;clear hE k58 k59 k60 k61;intro w62 hE;go_wp2_with fail
 go_ret
 exact⟨rfl,hE.ax⟩
end Go.Proofs.YtclbiihcbfnjmaaGreat
