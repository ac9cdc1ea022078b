/-
  Parts.
-/
import Derived.Test.YtclbiihcbfnjmaaGreatK2
import Derived.Test.YtclbiihcbfnjmaaGreatK8
import Derived.Test.YtclbiihcbfnjmaaGreatEH
import Derived.Test.YtclbiihcbfnjmaaGreatE6A
import Derived.Test.YtclbiihcbfnjmaaGreatK20
set_option linter.unusedSimpArgs false
set_option maxRecDepth 100000
set_option maxHeartbeats 8000000
namespace Go.Proofs.YtclbiihcbfnjmaaGreat
open Go.RowKit

def smL3 (k:Nat):Int:=if k=2 then 500 else 0
def smK3 (_:Nat):Int:=1000
theorem store_one {cs:List Value}(h:cs.all (fun v=>v.oneCell')=true):∀v∈cs,v.oneCell'=true:=List.all_eq_true.1 h
def SampY (w:World)(e:Ending)(w':World):Prop:=∃y:Yh,e= .returned (.agg y.C.toArray)/\y.rd w'/\y.bd/\y.i/\YS y/\(rep y.it y.n 0=5704/\rep y.it y.n 1=1000/\rep y.it y.n 2=0/\rep y.it y.n 3=3352/\rep y.it y.n 4=2000/\rep y.it y.n 5=6560/\rep y.it y.n 6=2676/\rep y.it y.n 7=1676/\rep y.it y.n 8=-180/\rep y.it y.n 9=0)/\Below w.heap.size w w'
theorem va_extE {v:Rat}{f g L K:Nat->Rat}(h:∀k,k<3->f k=g k){t:Nat}(ht:t<=3):va v f 3 L K t=va v g 3 L K t:=by
 unfold va;rw[dd_ext h t ht,sf_congr (g:=yr v f L K) (h:=yr v g L K) (fun j hj=>by unfold yr;rw[dd_ext h j (by omega),cc_ext h j hj]) t ht]
theorem ex_valE :va exv exf 3 (fun k=>amt smL3 3 k-pay 2 (Rat.divInt 100 1) k) (amt smK3 3) 0=Rat.divInt 2852 5/\va exv exf 3 (fun k=>amt smL3 3 k-pay 2 (Rat.divInt 100 1) k) (amt smK3 3) 1=Rat.divInt 820 1:=by decide+kernel
theorem prem_okE {q:Rat}{s t:Bool}{A B:Option Addr}{n m k:Nat}{W:World}(h:FV W q s A n t B m)(h0:0<=q)(hl:fl q<=k)(hk:k<=256)(c d:Nat):okF s n (FHof q s A n c t B m d).f t m (FHof q s A n c t B m d).g=true/\s=false/\n<=k/\m<=k:=by
 obtain⟨l1,l2⟩:=h.ln hl
 have hs:s=false:=by rw[h.1.sgn];exact decide_eq_false (by have:=Rat.num_nonneg.2 h0;omega)
 exact⟨okF_of h (Nat.le_trans hl hk),hs,l1,l2⟩
theorem samp_done {w U:World}{A:Option Addr}{c:Nat}{r:Nat->RH}{sp tp si ti sj tj:Bool}{Ap Bp Ai Bi Aj Bj:Option Addr}{np cp mp dp ni ci mi di nj cj mj dj ga gb G5:Nat}(hT:TabM U A 3 r)(hok:TOK 60 1 3 r)
  (hq:((r 0).h 0).q=Rat.divInt 1 10/\((r 0).h 1).q=Rat.divInt 1 5/\((r 1).h 0).q=Rat.divInt 1 8/\((r 1).h 1).q=Rat.divInt 1 2/\((r 2).h 0).q=Rat.divInt 1 4/\((r 2).h 1).q=Rat.divInt 1 1)
  (hp:FV U (Rat.divInt 100 1) sp Ap np tp Bp mp) (hfv:FV U (Rat.divInt 1 4) si Ai ni ti Bi mi) (hj:FV U (Rat.divInt 1 2) sj Aj nj tj Bj mj) (hLi:RdI (some ⟨ga,0,none⟩) 3 smL3 U) (hDe:RdI (some ⟨gb,0,none⟩) 3 smK3 U)
  (hG:Blk 72 G5 #[.int .i64 60,.int .i64 0,.int .i64 2,.bool sp,.slice Ap np cp,.bool tp,.slice Bp mp dp,.slice (some ⟨ga,0,none⟩) 3 3,.slice (some ⟨gb,0,none⟩) 3 3,.int .i64 0,.int .i64 10,.int .i64 2] U) (hbel:Below w.heap.size w U):
  SampY w (.returned (.agg #[.int .i64 60,.int .i64 1,.slice A 3 c,.bool si,.slice Ai ni ci,.bool ti,.slice Bi mi di,.int .i64 60,.int .i64 1,.slice A 3 c,.bool si,.slice Ai ni ci,.bool ti,.slice Bi mi di,.bool sj,.slice Aj nj cj,.bool tj,.slice Bj mj dj,.slice (some ⟨G5,0,none⟩) 1 1])) U:=by
 have hB:=hok.small (by decide) rfl;have hR:RightP 60 1 3 r 60 0:=⟨hok,by decide,by decide,by decide,by decide⟩;have hri:Rti (Rat.divInt 1 4):=⟨by decide+kernel,by decide+kernel,by decide+kernel⟩;obtain⟨hn1,hm1⟩:=hfv.ln hri.fl;have hfx:=exf_eq hq;have hpo:=prem_okE (k:=4) hp (by decide+kernel) (by rw[fl_le];decide+kernel) (by decide) cp dp;have hjo:=prem_okE (k:=1) hj (by decide+kernel) (by rw[fl_le];decide+kernel) (by decide) cj dj;have hpq:(FHof (Rat.divInt 100 1) sp Ap np cp tp Bp mp dp).q=Rat.divInt 100 1:=FHof.q_eq hp;have hjq:(FHof (Rat.divInt 1 2) sj Aj nj cj tj Bj mj dj).q=Rat.divInt 1 2:=FHof.q_eq hj;have hiq:(FHof (Rat.divInt 1 4) si Ai ni ci ti Bi mi di).q=Rat.divInt 1 4:=FHof.q_eq hfv
 obtain⟨b,hb⟩:∃b:Bh,b=⟨60,1,A,3,c,r,FHof (Rat.divInt 1 4) si Ai ni ci ti Bi mi di⟩:=⟨_,rfl⟩
 obtain⟨x,hx⟩:∃x:Ct,x=⟨60,0,2,FHof (Rat.divInt 100 1) sp Ap np cp tp Bp mp dp,some ⟨ga,0,none⟩,3,3,smL3,some ⟨gb,0,none⟩,3,3,smK3⟩:=⟨_,rfl⟩
 obtain⟨y,hy⟩:∃y:Yh,y=⟨b,b,FHof (Rat.divInt 1 2) sj Aj nj cj tj Bj mj dj,some ⟨G5,0,none⟩,1,1,fun _=>⟨x,0,10,2⟩⟩:=⟨_,rfl⟩
 have hbr:b.rd U:=by rw[hb];exact⟨hT,hfv.rd⟩
 have hbb:b.bd:=by rw[hb];exact⟨hB,by show ni<=1000000;omega,by show mi<=1000000;omega⟩
 have hxr:x.rd U:=by rw[hx];exact⟨hp.rd,hLi,hDe⟩
 have hxb:x.bd:=by rw[hx];exact⟨show(-9223372036854775808:Int)<=2/\(2:Int)<=9223372036854775807 by decide,⟨Nat.le_trans hpo.2.2.1 (by decide),Nat.le_trans hpo.2.2.2 (by decide)⟩,show 3<=1000000/\3<=1000000 by decide⟩
 have hamt:Amts 3 smL3/\Amts 3 smK3:=⟨⟨by decide,fun k _=>by unfold smL3;split<;>decide⟩,⟨by decide,fun k _=>by unfold smK3;decide⟩⟩
 have hxo:x.ok b:=by rw[hx,hb];exact⟨⟨hok,intB_of hfv hri⟩,hR,show(0:Int)<=2/\(2:Int)<=120 by decide,hpo,hamt.1,hamt.2⟩
 have hbv:b.v=exv:=by rw[hb];show 1/(1+(FHof (Rat.divInt 1 4) si Ai ni ci ti Bi mi di).q)=exv;rw[hiq];rfl
 have hrt:b.rt x.E x.Y=fr 60 1 3 r 60 0:=by rw[hb,hx];rfl
 have hN:Cnt b.v (b.rt x.E x.Y) 3:=by rw[hbv,hrt];exact⟨by rw[dd_ext hfx 3 (by decide)];exact ex_cnt.1,fun k hk=>by rw[dd_ext hfx k (by omega)];exact ex_cnt.2 k hk⟩
 have hcn:b.cnt x=3:=Bh.cnt_is hN (by decide)
 have hLx:x.L=fun k=>amt smL3 3 k-pay 2 (Rat.divInt 100 1) k:=by
  have e1:x.p.q=Rat.divInt 100 1:=by rw[hx];exact hpq
  funext k
  unfold Ct.L;rw[e1,hx];rfl
 have hKx:x.K=amt smK3 3:=by rw[hx];rfl
 have v4:b.val x 3 0=Rat.divInt 2852 5:=by rw[<-ex_valE.1,<-va_extE hfx (by decide)];unfold Bh.val;rw[hbv,hrt,hLx,hKx]
 have v5:b.val x 3 1=Rat.divInt 820 1:=by rw[<-ex_valE.2,<-va_extE hfx (by decide)];unfold Bh.val;rw[hbv,hrt,hLx,hKx]
 have hpr:=(Cnt.pr (Bh.dis hbr hxo.1).1).1 hN;have hgo:GrOK b b ⟨x,0,10,2⟩:=⟨⟨hxo,hxo⟩,⟨Int.le_refl 0,hpr.2 0 (by decide)⟩,⟨show(0:Int)<=10 by decide,show(10:Int)<=1099511627776 by decide,show(0:Int)<=2 by decide,show(2:Int)<=10 by decide⟩,.inr ⟨hpr.2 1 (by decide),hpr.2 1 (by decide)⟩⟩
 have hyo:YOK y:=by rw[hy];exact⟨show 1<=32 by decide,hxo.1,hxo.1,⟨hjo.1,hjo.2.1,hjo.2.2.1,hjo.2.2.2⟩,fun _ _=>hgo⟩
 have hn3:b.n=3:=by rw[hb]
 have hyn:y.n=1:=by rw[hy]
 have hyS:YS y:=⟨hyo,by rw[hyn];decide,by rw[hy];show b.n<=10;omega,by rw[hy];show b.n<=10;omega⟩
 have hyr:y.rd U:=by
  rw[hy];refine⟨hbr,hbr,hj.rd,fun _=>⟨G5,0,rfl,hG.lt,fun k hk=> ?_⟩⟩
  obtain rfl:k=0:=by have:k<1:=hk;omega
  exact⟨fun j v hv=>by
   have h1:=hG.cell j;rw[show 0+0*12+j=j by omega,h1];rw[hx] at hv;rw[List.getElem?_toArray]
   exact hv,hxr⟩
 have hit:∀k,rep y.it y.n k=grI b b (Rat.divInt 1 2) ⟨x,0,10,2⟩ k:=fun k=>by
  rw[hyn,hy];show 0+grI b b (FHof (Rat.divInt 1 2) sj Aj nj cj tj Bj mj dj).q ⟨x,0,10,2⟩ k=_;rw[hjq]
  grind
 have e1:b.i.q=Rat.divInt 1 4:=by rw[hb];exact hiq
 have e2:pay x.T.toNat x.p.q 0=Rat.divInt 100 1:=by rw[hx];show pay 2 (FHof (Rat.divInt 100 1) sp Ap np cp tp Bp mp dp).q 0=_;rw[hpq];rfl
 have e3:amt x.l x.n 0=0:=by rw[hx];show amt smL3 3 0=0;decide+kernel
 have e4:amt x.k x.m 0=Rat.divInt 1000 1:=by rw[hx];show amt smK3 3 0=Rat.divInt 1000 1;decide+kernel
 have e5:b.rt x.E x.Y 0=Rat.divInt 1 10:=by rw[hrt,hfx 0 (by decide)];rfl
 have hall:∀k,grI b b (Rat.divInt 1 2) ⟨x,0,10,2⟩ k=itm (Rat.divInt 2852 5) (Rat.divInt 820 1) (Rat.divInt 820 1) (Rat.divInt 100 1) 0 (Rat.divInt 1000 1) (Rat.divInt 1 4) (Rat.divInt 1 2) (Rat.divInt 1 10) 10 2 k:=fun k=>by
  unfold grI;show itm (b.val x (b.cnt x) 0) (b.val x (b.cnt x) 1) (b.val x (b.cnt x) 1) (pay x.T.toNat x.p.q 0) (amt x.l x.n 0) (amt x.k x.m 0) b.i.q (Rat.divInt 1 2) (b.rt x.E x.Y 0) ((10:Int):Rat) ((2:Int):Rat) k=_;rw[hcn,v4,v5,e1,e2,e3,e4,e5];rfl
 have hyi:y.i:=by rw[hy];exact fun _ _=>⟨⟨show(-9223372036854775808:Int)<=0 by decide,show(0:Int)<=9223372036854775807 by decide⟩,⟨show(-9223372036854775808:Int)<=10 by decide,show(10:Int)<=9223372036854775807 by decide⟩,⟨show(-9223372036854775808:Int)<=2 by decide,show(2:Int)<=9223372036854775807 by decide⟩,hxb.1⟩
 have hyb:y.bd:=by rw[hy];exact⟨hbb,hbb,⟨Nat.le_trans hjo.2.2.1 (by decide),Nat.le_trans hjo.2.2.2 (by decide)⟩,fun _ _=>hxb⟩
 refine⟨y, ?_,hyr,hyb,hyi,hyS, ?_,hbel⟩
 ·rw[hy,hb];rfl
 ·
  simp only[hit,hall]
  decide+kernel
theorem esample_v (w:World):
  Calls Tryz.prog 89 #[] w (SampY w):=by
 have hE:=(Env.start w).blk 67 #[.int .i64 0,.int .i64 0,.slice none 0 0,.bool false,.slice none 0 0,.bool false,.slice none 0 0,.int .i64 0,.int .i64 0,.slice none 0 0,.bool false,.slice none 0 0,.bool false,.slice none 0 0,.bool false,.slice none 0 0,.bool false,.slice none 0 0,.slice none 0 0] (g:=w.heap.size) rfl
 obtain⟨W0,hW0⟩:∃W0,W0=w.alloc (.cells #[.int .i64 0,.int .i64 0,.slice none 0 0,.bool false,.slice none 0 0,.bool false,.slice none 0 0,.int .i64 0,.int .i64 0,.slice none 0 0,.bool false,.slice none 0 0,.bool false,.slice none 0 0,.bool false,.slice none 0 0,.bool false,.slice none 0 0,.slice none 0 0] 67):=⟨_,rfl⟩
 rw[<-hW0] at hE;have HW0:=Lib.hid hW0;clear hW0
 go_enter Tryz.func89,Tryz.ntmps89
 go_upto_region 1 with(fail)
 rw[<-HW0.out];go_wp2_with fail
 refine hE.fr (e_quick 1 10 W0 (by decide) (by decide) (by decide) (by decide) (by decide)) ?_;clear hE;intro sa Aa na ca ta Ba ma da w1 hE;go_wp2_with fail
 refine hE.fr (e_quick 1 5 w1 (by decide) (by decide) (by decide) (by decide) (by decide)) ?_;clear hE;intro sb Ab nb cb tb Bb mb db w2 hE;go_wp2_with fail
 obtain⟨g3,hg3⟩:∃g3,g3=w2.heap.size:=⟨_,rfl⟩
 have hl3_0:w.heap.size<g3:=by rw[hg3];exact(hE.h2).lt
 replace hE:=hE.blk 29 #[.bool sa,.slice Aa na ca,.bool ta,.slice Ba ma da,.bool sb,.slice Ab nb cb,.bool tb,.slice Bb mb db] (g:=g3) hg3.symm;generalize w2.alloc (.cells #[.bool sa,.slice Aa na ca,.bool ta,.slice Ba ma da,.bool sb,.slice Ab nb cb,.bool tb,.slice Bb mb db] 29)=W3 at hE⊢;rw[<-hg3];clear hg3;refine hE.fr (e_quick 1 8 W3 (by decide) (by decide) (by decide) (by decide) (by decide)) ?_;clear hE;intro sc Ac nc cc tc Bc mc dc w4 hE;go_wp2_with fail
 refine hE.fr (e_quick 1 2 w4 (by decide) (by decide) (by decide) (by decide) (by decide)) ?_;clear hE;intro sd Ad nd cd td Bd md dd w5 hE;go_wp2_with fail
 obtain⟨g6,hg6⟩:∃g6,g6=w5.heap.size:=⟨_,rfl⟩
 have hl6_0:w.heap.size<g6:=by rw[hg6];exact(hE.h5).lt
 have hl6_3:g3<g6:=by rw[hg6];exact(hE.h2).lt
 replace hE:=hE.blk 29 #[.bool sc,.slice Ac nc cc,.bool tc,.slice Bc mc dc,.bool sd,.slice Ad nd cd,.bool td,.slice Bd md dd] (g:=g6) hg6.symm;generalize w5.alloc (.cells #[.bool sc,.slice Ac nc cc,.bool tc,.slice Bc mc dc,.bool sd,.slice Ad nd cd,.bool td,.slice Bd md dd] 29)=W6 at hE⊢;rw[<-hg6];clear hg6;refine hE.fr (e_quick 1 4 W6 (by decide) (by decide) (by decide) (by decide) (by decide)) ?_;clear hE;intro se Ae ne ce te Be me de w7 hE;go_wp2_with fail
 refine hE.fr (e_quick 1 1 w7 (by decide) (by decide) (by decide) (by decide) (by decide)) ?_;clear hE;intro sf Af nf cf tf Bf mf df w8 hE
 go_upto_region 2 with(fail)
 obtain⟨g9,hg9⟩:∃g,g=w8.heap.size:=⟨_,rfl⟩
 have hl9_0:w.heap.size<g9:=by rw[hg9];exact(hE.h8).lt
 have hl9_3:g3<g9:=by rw[hg9];exact(hE.h5).lt
 have hl9_6:g6<g9:=by rw[hg9];exact(hE.h2).lt
 replace hE:=(((hE.blk 29 #[.bool se,.slice Ae ne ce,.bool te,.slice Be me de,.bool sf,.slice Af nf cf,.bool tf,.slice Bf mf df] (g:=g9) hg9.symm).blk 39 #[.slice (some ⟨g3,0,none⟩) 2 2,.slice (some ⟨g6,0,none⟩) 2 2,.slice (some ⟨w8.heap.size,0,none⟩) 2 2] (g:=g9+1) (by simp[hg9])).blk 24 #[.int .i64 60,.int .i64 1,.slice (some ⟨w8.heap.size+1,0,none⟩) 3 3] (g:=g9+1+1) (by simp[hg9]));generalize (((w8.alloc (.cells #[.bool se,.slice Ae ne ce,.bool te,.slice Be me de,.bool sf,.slice Af nf cf,.bool tf,.slice Bf mf df] 29)).alloc (.cells #[.slice (some ⟨g3,0,none⟩) 2 2,.slice (some ⟨g6,0,none⟩) 2 2,.slice (some ⟨w8.heap.size,0,none⟩) 2 2] 39)).alloc (.cells #[.int .i64 60,.int .i64 1,.slice (some ⟨w8.heap.size+1,0,none⟩) 3 3] 24))=V9 at hE⊢;rw[<-hg9] at hE⊢;clear hg9;go_wp2_with fail
 refine hE.fr (e_quick 100 1 V9 (by decide) (by decide) (by decide) (by decide) (by decide)) ?_;clear hE;intro sp Ap np cp tp Bp mp dp w10 hE
 go_upto_region 3 with(fail)
 obtain⟨g11,hg11⟩:∃g,g=w10.heap.size:=⟨_,rfl⟩
 have hl11_0:w.heap.size<g11:=by rw[hg11];exact(hE.h12).lt
 have hl11_3:g3<g11:=by rw[hg11];exact(hE.h9).lt
 have hl11_6:g6<g11:=by rw[hg11];exact(hE.h6).lt
 have hl11_9:g9<g11:=by rw[hg11];exact(hE.h3).lt
 have hl11_10:g9+1<g11:=by rw[hg11];exact(hE.h2).lt
 have hl11_11:g9+1+1<g11:=by rw[hg11];exact(hE.here.1.2).lt
 replace hE:=(((hE.blk 3 #[.int .i64 0,.int .i64 0,.int .i64 500] (g:=g11) hg11.symm).blk 3 #[.int .i64 1000,.int .i64 1000,.int .i64 1000] (g:=g11+1) (by simp[hg11])).blk 36 #[.int .i64 60,.int .i64 0,.int .i64 2,.bool sp,.slice Ap np cp,.bool tp,.slice Bp mp dp,.slice (some ⟨w10.heap.size,0,none⟩) 3 3,.slice (some ⟨w10.heap.size+1,0,none⟩) 3 3] (g:=g11+1+1) (by simp[hg11]));generalize (((w10.alloc (.cells #[.int .i64 0,.int .i64 0,.int .i64 500] 3)).alloc (.cells #[.int .i64 1000,.int .i64 1000,.int .i64 1000] 3)).alloc (.cells #[.int .i64 60,.int .i64 0,.int .i64 2,.bool sp,.slice Ap np cp,.bool tp,.slice Bp mp dp,.slice (some ⟨w10.heap.size,0,none⟩) 3 3,.slice (some ⟨w10.heap.size+1,0,none⟩) 3 3] 36))=V11 at hE⊢;rw[<-hg11] at hE⊢;clear hg11;replace hE:=hE.drew;refine wp_region_held_drew (S:=fun V=>Blk 24 (g9+1+1) #[.int .i64 60,.int .i64 1,.slice (some ⟨g9+1,0,none⟩) 3 3] V) (by kernel_rfl) (hE.h4) (fun hHeld=> ?_)
 generalize V11.drew=wd at*
 apply viaKey;intro hk3_0
 ·
  refine tk 0 ?_ (hy:=by
   intro w hSw;have kc0:=(hSw).cell 0;have kc1:=(hSw).cell 1;have kc2:=(hSw).cell 2;clear hSw
   first|(go_simp;done)|(go_simp;with_reducible rfl))
  try simp only[PL]
  refine wpAnyH_ready (rs:=[1,3]) (by kernel_rfl) (by simp) (AllReadyH.cons rfl (fun K hK=> ?_) (AllReadyH.cons rfl (fun K hK=> ?_) (AllReadyH.nil)))
  ·
   go_simp;refine hE.fr (e_quick 1 4 _ (by decide) (by decide) (by decide) (by decide) (by decide)) ?_;clear hE;intro si Ai ni ci ti Bi mi di w12 hE;go_wp2_with fail
   refine hK.out _ _ (hE.h5) (fun hHeld=> ?_);clear hK K;try simp only[PL]
   refine tk 2 ?_;refine r1 3 (fun K hK=> ?_);go_simp
   obtain⟨G3,hG⟩:∃g,g=w12.heap.size:=⟨_,rfl⟩
   have hw3:w.heap.size<=G3:=by rw[hG];exact hE.bel.size
   have hb3_0:w.heap.size<G3:=by rw[hG];exact(hE.e16.2).lt
   have hb3_1:g3<G3:=by rw[hG];exact(hE.h13).lt
   have hb3_2:g6<G3:=by rw[hG];exact(hE.h10).lt
   have hb3_3:g9<G3:=by rw[hG];exact(hE.h7).lt
   have hb3_4:g9+1<G3:=by rw[hG];exact(hE.h6).lt
   have hb3_5:g9+1+1<G3:=by rw[hG];exact(hE.h5).lt
   have hb3_6:g11<G3:=by rw[hG];exact(hE.h3).lt
   have hb3_7:g11+1<G3:=by rw[hG];exact(hE.h2).lt
   have hb3_8:g11+1+1<G3:=by rw[hG];exact(hE.here.1.2).lt
   replace hE:=hE.blk 31 #[.int .i64 0,.int .i64 0,.slice none 0 0,.bool false,.slice none 0 0,.bool false,.slice none 0 0] (g:=G3) hG.symm;generalize w12.alloc (.cells #[.int .i64 0,.int .i64 0,.slice none 0 0,.bool false,.slice none 0 0,.bool false,.slice none 0 0] 31)=WA at hE⊢;rw[<-hG];clear hG;refine hK.out _ _ (hE.h6) (fun hHeld=> ?_);clear hK K;try simp only[PL]
   refine r1 4 (fun K hK=> ?_)
   have hgl13:w.heap.size<=G3:=by omega
   have hgr13:=(sets_grown [.int .i64 60,.int .i64 1,.slice (some ⟨g9+1,0,none⟩) 3 3,.bool si,.slice Ai ni ci,.bool ti,.slice Bi mi di] 0 WA ⟨_,hE.here.2,rfl⟩).1;change WA.grownBy (((((((WA.setCell ⟨G3,0,none⟩ (.int .i64 60)).setCell ⟨G3,1,none⟩ (.int .i64 1)).setCell ⟨G3,2,none⟩ (.slice (some ⟨g9+1,0,none⟩) 3 3)).setCell ⟨G3,3,none⟩ (.bool si)).setCell ⟨G3,4,none⟩ (.slice Ai ni ci)).setCell ⟨G3,5,none⟩ (.bool ti)).setCell ⟨G3,6,none⟩ (.slice Bi mi di)) _ at hgr13;have x13_0:=(hE.here.2).cell 0;have f13_0:=(hE.here.2).frozen 0;have x13_1:=(hE.here.2).cell 1;have f13_1:=(hE.here.2).frozen 1;have x13_2:=(hE.here.2).cell 2;have f13_2:=(hE.here.2).frozen 2;have x13_3:=(hE.here.2).cell 3;have f13_3:=(hE.here.2).frozen 3;have x13_4:=(hE.here.2).cell 4;have f13_4:=(hE.here.2).frozen 4;have x13_5:=(hE.here.2).cell 5;have f13_5:=(hE.here.2).frozen 5;have x13_6:=(hE.here.2).cell 6;have f13_6:=(hE.here.2).frozen 6;replace hE:=(((((((((((((((((((Env.again (Go.Proofs.YtclbiihcbfnjmaaGreat.Below.grownB hE.bel hgr13 hE.bel.size hgl13)).blkI (Blk.grownB (hE.e16.1.2) hgr13 (by omega))).fv ((hE.e16.2).grownB (hE.here.2) rfl hgr13)).fv ((hE.e8.1.1.1.1.1.1.1.2).grownB (hE.here.2) rfl hgr13)).blkI (Blk.grownB (hE.e8.1.1.1.1.1.1.2) hgr13 (by omega))).fv ((hE.h13).grownB (hE.here.2) rfl hgr13)).fv ((hE.h12).grownB (hE.here.2) rfl hgr13)).blkI (Blk.grownB (hE.h11) hgr13 (by omega))).fv ((hE.h10).grownB (hE.here.2) rfl hgr13)).fv ((hE.h9).grownB (hE.here.2) rfl hgr13)).blkI (Blk.grownB (hE.h8) hgr13 (by omega))).blkI (Blk.grownB (hE.h7) hgr13 (by omega))).blkI (Blk.grownB (hE.h6) hgr13 (by omega))).fv ((hE.h5).grownB (hE.here.2) rfl hgr13)).blkI (Blk.grownB (hE.h4) hgr13 (by omega))).blkI (Blk.grownB (hE.h3) hgr13 (by omega))).blkI (Blk.grownB (hE.h2) hgr13 (by omega))).fv ((hE.here.1.2).grownB (hE.here.2) rfl hgr13)).blkI (show Blk 31 G3 #[.int .i64 60,.int .i64 1,.slice (some ⟨g9+1,0,none⟩) 3 3,.bool si,.slice Ai ni ci,.bool ti,.slice Bi mi di] _ by simpa using((((((((((((((hE.here.2).set_ 0 (.int .i64 60))).set_ 1 (.int .i64 1))).set_ 2 (.slice (some ⟨g9+1,0,none⟩) 3 3))).set_ 3 (.bool si))).set_ 4 (.slice Ai ni ci))).set_ 5 (.bool ti))).set_ 6 (.slice Bi mi di))));go_simp;clear x13_0 f13_0 x13_1 f13_1 x13_2 f13_2 x13_3 f13_3 x13_4 f13_4 x13_5 f13_5 x13_6 f13_6 hgl13 hgr13;generalize (((((((WA.setCell ⟨G3,0,none⟩ (.int .i64 60)).setCell ⟨G3,1,none⟩ (.int .i64 1)).setCell ⟨G3,2,none⟩ (.slice (some ⟨g9+1,0,none⟩) 3 3)).setCell ⟨G3,3,none⟩ (.bool si)).setCell ⟨G3,4,none⟩ (.slice Ai ni ci)).setCell ⟨G3,5,none⟩ (.bool ti)).setCell ⟨G3,6,none⟩ (.slice Bi mi di))=V13 at hE⊢;refine hK.out _ _ (hE.h6) (fun hHeld=> ?_);clear hK K;try simp only[PL]
   have hE2:=(((((((((((((((((((Env.again hE.bel).blkI (hE.e16.1.2)).fv (hE.e16.2)).fv (hE.e8.1.1.1.1.1.1.1.2)).blkI (hE.e8.1.1.1.1.1.1.2)).fv (hE.h13)).fv (hE.h12)).blkI (hE.h11)).fv (hE.h10)).fv (hE.h9)).blkI (hE.h8)).blkI (hE.h7)).blkI (hE.h6)).fv (hE.h5)).blkI (hE.h4)).blkI (hE.h3)).blkI (hE.h2)).fv (hE.here.1.2)).blkI (hE.here.2));clear hE hHeld
   revert hE2;revert hb3_8;revert hb3_7;revert hb3_6;revert hb3_5;revert hb3_4;revert hb3_3;revert hb3_2;revert hb3_1;revert hb3_0;revert hw3;revert V13;revert G3;revert di;revert mi;revert Bi;revert ti;revert ci;revert ni;revert Ai;revert si
   exact hk3_0.out
  ·
   go_simp
   obtain⟨G3,hG⟩:∃g,g=wd.heap.size:=⟨_,rfl⟩
   have hw3:w.heap.size<=G3:=by rw[hG];exact hE.bel.size
   have hb3_0:w.heap.size<G3:=by rw[hG];exact(hE.e8.1.1.1.1.1.1.1.2).lt
   have hb3_1:g3<G3:=by rw[hG];exact(hE.h12).lt
   have hb3_2:g6<G3:=by rw[hG];exact(hE.h9).lt
   have hb3_3:g9<G3:=by rw[hG];exact(hE.h6).lt
   have hb3_4:g9+1<G3:=by rw[hG];exact(hE.h5).lt
   have hb3_5:g9+1+1<G3:=by rw[hG];exact(hE.h4).lt
   have hb3_6:g11<G3:=by rw[hG];exact(hE.h2).lt
   have hb3_7:g11+1<G3:=by rw[hG];exact(hE.here.1.2).lt
   have hb3_8:g11+1+1<G3:=by rw[hG];exact(hE.here.2).lt
   replace hE:=hE.blk 31 #[.int .i64 0,.int .i64 0,.slice none 0 0,.bool false,.slice none 0 0,.bool false,.slice none 0 0] (g:=G3) hG.symm;generalize wd.alloc (.cells #[.int .i64 0,.int .i64 0,.slice none 0 0,.bool false,.slice none 0 0,.bool false,.slice none 0 0] 31)=WA at hE⊢;rw[<-hG];clear hG;refine hK.out _ _ (hE.h5) (fun hHeld=> ?_);clear hK K;try simp only[PL]
   refine r1 1 (fun K hK=> ?_);go_simp;refine hE.fr (e_quick 1 4 _ (by decide) (by decide) (by decide) (by decide) (by decide)) ?_;clear hE;intro si Ai ni ci ti Bi mi di w14 hE;go_wp2_with fail
   refine hK.out _ _ (hE.h6) (fun hHeld=> ?_);clear hK K;try simp only[PL]
   refine tk 2 ?_;refine r1 4 (fun K hK=> ?_)
   have hgl15:w.heap.size<=G3:=by omega
   have hgr15:=(sets_grown [.int .i64 60,.int .i64 1,.slice (some ⟨g9+1,0,none⟩) 3 3,.bool si,.slice Ai ni ci,.bool ti,.slice Bi mi di] 0 w14 ⟨_,hE.here.1.2,rfl⟩).1;change w14.grownBy (((((((w14.setCell ⟨G3,0,none⟩ (.int .i64 60)).setCell ⟨G3,1,none⟩ (.int .i64 1)).setCell ⟨G3,2,none⟩ (.slice (some ⟨g9+1,0,none⟩) 3 3)).setCell ⟨G3,3,none⟩ (.bool si)).setCell ⟨G3,4,none⟩ (.slice Ai ni ci)).setCell ⟨G3,5,none⟩ (.bool ti)).setCell ⟨G3,6,none⟩ (.slice Bi mi di)) _ at hgr15;have x15_0:=(hE.here.1.2).cell 0;have f15_0:=(hE.here.1.2).frozen 0;have x15_1:=(hE.here.1.2).cell 1;have f15_1:=(hE.here.1.2).frozen 1;have x15_2:=(hE.here.1.2).cell 2;have f15_2:=(hE.here.1.2).frozen 2;have x15_3:=(hE.here.1.2).cell 3;have f15_3:=(hE.here.1.2).frozen 3;have x15_4:=(hE.here.1.2).cell 4;have f15_4:=(hE.here.1.2).frozen 4;have x15_5:=(hE.here.1.2).cell 5;have f15_5:=(hE.here.1.2).frozen 5;have x15_6:=(hE.here.1.2).cell 6;have f15_6:=(hE.here.1.2).frozen 6;replace hE:=(((((((((((((((((((Env.again (Go.Proofs.YtclbiihcbfnjmaaGreat.Below.grownB hE.bel hgr15 hE.bel.size hgl15)).blkI (Blk.grownB (hE.e16.1.2) hgr15 (by omega))).fv ((hE.e16.2).grownB (hE.here.1.2) rfl hgr15)).fv ((hE.e8.1.1.1.1.1.1.1.2).grownB (hE.here.1.2) rfl hgr15)).blkI (Blk.grownB (hE.e8.1.1.1.1.1.1.2) hgr15 (by omega))).fv ((hE.h13).grownB (hE.here.1.2) rfl hgr15)).fv ((hE.h12).grownB (hE.here.1.2) rfl hgr15)).blkI (Blk.grownB (hE.h11) hgr15 (by omega))).fv ((hE.h10).grownB (hE.here.1.2) rfl hgr15)).fv ((hE.h9).grownB (hE.here.1.2) rfl hgr15)).blkI (Blk.grownB (hE.h8) hgr15 (by omega))).blkI (Blk.grownB (hE.h7) hgr15 (by omega))).blkI (Blk.grownB (hE.h6) hgr15 (by omega))).fv ((hE.h5).grownB (hE.here.1.2) rfl hgr15)).blkI (Blk.grownB (hE.h4) hgr15 (by omega))).blkI (Blk.grownB (hE.h3) hgr15 (by omega))).blkI (Blk.grownB (hE.h2) hgr15 (by omega))).blkI (show Blk 31 G3 #[.int .i64 60,.int .i64 1,.slice (some ⟨g9+1,0,none⟩) 3 3,.bool si,.slice Ai ni ci,.bool ti,.slice Bi mi di] _ by simpa using((((((((((((((hE.here.1.2).set_ 0 (.int .i64 60))).set_ 1 (.int .i64 1))).set_ 2 (.slice (some ⟨g9+1,0,none⟩) 3 3))).set_ 3 (.bool si))).set_ 4 (.slice Ai ni ci))).set_ 5 (.bool ti))).set_ 6 (.slice Bi mi di)))).fv ((hE.here.2).grownB (hE.here.1.2) rfl hgr15));go_simp;clear x15_0 f15_0 x15_1 f15_1 x15_2 f15_2 x15_3 f15_3 x15_4 f15_4 x15_5 f15_5 x15_6 f15_6 hgl15 hgr15;generalize (((((((w14.setCell ⟨G3,0,none⟩ (.int .i64 60)).setCell ⟨G3,1,none⟩ (.int .i64 1)).setCell ⟨G3,2,none⟩ (.slice (some ⟨g9+1,0,none⟩) 3 3)).setCell ⟨G3,3,none⟩ (.bool si)).setCell ⟨G3,4,none⟩ (.slice Ai ni ci)).setCell ⟨G3,5,none⟩ (.bool ti)).setCell ⟨G3,6,none⟩ (.slice Bi mi di))=V15 at hE⊢;refine hK.out _ _ (hE.h6) (fun hHeld=> ?_);clear hK K;try simp only[PL]
   have hE2:=(((((((((((((((((((Env.again hE.bel).blkI (hE.e16.1.2)).fv (hE.e16.2)).fv (hE.e8.1.1.1.1.1.1.1.2)).blkI (hE.e8.1.1.1.1.1.1.2)).fv (hE.h13)).fv (hE.h12)).blkI (hE.h11)).fv (hE.h10)).fv (hE.h9)).blkI (hE.h8)).blkI (hE.h7)).blkI (hE.h6)).fv (hE.h5)).blkI (hE.h4)).blkI (hE.h3)).blkI (hE.h2)).fv (hE.here.2)).blkI (hE.here.1.2));clear hE hHeld;exact hk3_0.out si Ai ni ci ti Bi mi di G3 V15 hw3 hb3_0 hb3_1 hb3_2 hb3_3 hb3_4 hb3_5 hb3_6 hb3_7 hb3_8 hE2
 ·
  intro si Ai ni ci ti Bi mi di G3 wJ hw3 hb3_0 hb3_1 hb3_2 hb3_3 hb3_4 hb3_5 hb3_6 hb3_7 hb3_8 hE;have hHeld:(fun V=>Blk 24 (g9+1+1) #[.int .i64 60,.int .i64 1,.slice (some ⟨g9+1,0,none⟩) 3 3] V) wJ:=hE.h6;refine wpAnyH_done (by kernel_rfl) ?_ _
  go_upto_region 4 with(fail)
  replace hE:=hE.drew;refine wp_region_held_drew (S:=fun V=>Blk 31 (G3) #[.int .i64 60,.int .i64 1,.slice (some ⟨g9+1,0,none⟩) 3 3,.bool si,.slice Ai ni ci,.bool ti,.slice Bi mi di] V/\Blk 36 (g11+1+1) #[.int .i64 60,.int .i64 0,.int .i64 2,.bool sp,.slice Ap np cp,.bool tp,.slice Bp mp dp,.slice (some ⟨g11,0,none⟩) 3 3,.slice (some ⟨g11+1,0,none⟩) 3 3] V) (by kernel_rfl) (⟨hE.here.2,hE.h2⟩) (fun hHeld=> ?_)
  generalize wJ.drew=wd at*
  apply viaKey;intro hk4_0
  ·
   refine tk 0 ?_ (hy:=by
    intro w hSw;have kc0:=(hSw.1).cell 0;have kc1:=(hSw.1).cell 1;have kc2:=(hSw.1).cell 2;have kc3:=(hSw.1).cell 3;have kc4:=(hSw.1).cell 4;have kc5:=(hSw.1).cell 5;have kc6:=(hSw.1).cell 6;clear hSw
    first|(go_simp;done)|(go_simp;with_reducible rfl))
   try simp only[PL]
   refine tk 1 ?_ (hy:=by
    intro w hSw;have kc0:=(hSw.1).cell 0;have kc1:=(hSw.1).cell 1;have kc2:=(hSw.1).cell 2;have kc3:=(hSw.1).cell 3;have kc4:=(hSw.1).cell 4;have kc5:=(hSw.1).cell 5;have kc6:=(hSw.1).cell 6;clear hSw
    first|(go_simp;done)|(go_simp;with_reducible rfl))
   try simp only[PL]
   refine tk 3 ?_ (hy:=by
    intro w hSw;have kc0:=(hSw.2).cell 0;have kc1:=(hSw.2).cell 1;have kc2:=(hSw.2).cell 2;have kc3:=(hSw.2).cell 3;have kc4:=(hSw.2).cell 4;have kc5:=(hSw.2).cell 5;have kc6:=(hSw.2).cell 6;have kc7:=(hSw.2).cell 7;have kc8:=(hSw.2).cell 8;clear hSw
    first|(go_simp;done)|(go_simp;with_reducible rfl))
   try simp only[PL]
   refine tk 4 ?_;refine wpAnyH_ready (rs:=[2,5]) (by kernel_rfl) (by simp) (AllReadyH.cons rfl (fun K hK=> ?_) (AllReadyH.cons rfl (fun K hK=> ?_) (AllReadyH.nil)))
   ·
    go_simp;refine hE.fr (e_quick 1 2 _ (by decide) (by decide) (by decide) (by decide) (by decide)) ?_;clear hE;intro sj Aj nj cj tj Bj mj dj w16 hE;go_wp2_with fail
    refine hK.out _ _ (⟨hE.here.1.2,hE.h3⟩) (fun hHeld=> ?_);clear hK K;try simp only[PL]
    refine r1 5 (fun K hK=> ?_);go_simp
    obtain⟨G5,hG⟩:∃g,g=w16.heap.size:=⟨_,rfl⟩
    have hw5:w.heap.size<=G5:=by rw[hG];exact hE.bel.size
    have hb5_0:w.heap.size<G5:=by rw[hG];exact(hE.e16.1.1.2).lt
    have hb5_1:g3<G5:=by rw[hG];exact(hE.e8.1.1.1.1.1.1.1.2).lt
    have hb5_2:g6<G5:=by rw[hG];exact(hE.h12).lt
    have hb5_3:g9<G5:=by rw[hG];exact(hE.h9).lt
    have hb5_4:g9+1<G5:=by rw[hG];exact(hE.h8).lt
    have hb5_5:g9+1+1<G5:=by rw[hG];exact(hE.h7).lt
    have hb5_6:g11<G5:=by rw[hG];exact(hE.h5).lt
    have hb5_7:g11+1<G5:=by rw[hG];exact(hE.h4).lt
    have hb5_8:g11+1+1<G5:=by rw[hG];exact(hE.h3).lt
    have hb5_9:G3<G5:=by rw[hG];exact(hE.here.1.2).lt
    replace hE:=hE.blk 72 #[.int .i64 60,.int .i64 0,.int .i64 2,.bool sp,.slice Ap np cp,.bool tp,.slice Bp mp dp,.slice (some ⟨g11,0,none⟩) 3 3,.slice (some ⟨g11+1,0,none⟩) 3 3,.int .i64 0,.int .i64 10,.int .i64 2] (g:=G5) hG.symm;generalize w16.alloc (.cells #[.int .i64 60,.int .i64 0,.int .i64 2,.bool sp,.slice Ap np cp,.bool tp,.slice Bp mp dp,.slice (some ⟨g11,0,none⟩) 3 3,.slice (some ⟨g11+1,0,none⟩) 3 3,.int .i64 0,.int .i64 10,.int .i64 2] 72)=WA at hE⊢;rw[<-hG];clear hG;refine hK.out _ _ (⟨hE.h2,hE.h4⟩) (fun hHeld=> ?_);clear hK K;try simp only[PL]
    have hE2:=(((((((((((((((((((((Env.again hE.bel).blkI (hE.e16.1.1.1.2)).fv (hE.e16.1.1.2)).fv (hE.e16.1.2)).blkI (hE.e16.2)).fv (hE.e8.1.1.1.1.1.1.1.2)).fv (hE.e8.1.1.1.1.1.1.2)).blkI (hE.h13)).fv (hE.h12)).fv (hE.h11)).blkI (hE.h10)).blkI (hE.h9)).blkI (hE.h8)).fv (hE.h7)).blkI (hE.h6)).blkI (hE.h5)).blkI (hE.h4)).fv (hE.h3)).blkI (hE.h2)).fv (hE.here.1.2)).blkI (hE.here.2));clear hE hHeld
    revert hE2;revert hb5_9;revert hb5_8;revert hb5_7;revert hb5_6;revert hb5_5;revert hb5_4;revert hb5_3;revert hb5_2;revert hb5_1;revert hb5_0;revert hw5;revert WA;revert G5;revert dj;revert mj;revert Bj;revert tj;revert cj;revert nj;revert Aj;revert sj
    exact hk4_0.out
   ·
    go_simp
    obtain⟨G5,hG⟩:∃g,g=wd.heap.size:=⟨_,rfl⟩
    have hw5:w.heap.size<=G5:=by rw[hG];exact hE.bel.size
    have hb5_0:w.heap.size<G5:=by rw[hG];exact(hE.e16.1.2).lt
    have hb5_1:g3<G5:=by rw[hG];exact(hE.e8.1.1.1.1.1.1.2).lt
    have hb5_2:g6<G5:=by rw[hG];exact(hE.h11).lt
    have hb5_3:g9<G5:=by rw[hG];exact(hE.h8).lt
    have hb5_4:g9+1<G5:=by rw[hG];exact(hE.h7).lt
    have hb5_5:g9+1+1<G5:=by rw[hG];exact(hE.h6).lt
    have hb5_6:g11<G5:=by rw[hG];exact(hE.h4).lt
    have hb5_7:g11+1<G5:=by rw[hG];exact(hE.h3).lt
    have hb5_8:g11+1+1<G5:=by rw[hG];exact(hE.h2).lt
    have hb5_9:G3<G5:=by rw[hG];exact(hE.here.2).lt
    replace hE:=hE.blk 72 #[.int .i64 60,.int .i64 0,.int .i64 2,.bool sp,.slice Ap np cp,.bool tp,.slice Bp mp dp,.slice (some ⟨g11,0,none⟩) 3 3,.slice (some ⟨g11+1,0,none⟩) 3 3,.int .i64 0,.int .i64 10,.int .i64 2] (g:=G5) hG.symm;generalize wd.alloc (.cells #[.int .i64 60,.int .i64 0,.int .i64 2,.bool sp,.slice Ap np cp,.bool tp,.slice Bp mp dp,.slice (some ⟨g11,0,none⟩) 3 3,.slice (some ⟨g11+1,0,none⟩) 3 3,.int .i64 0,.int .i64 10,.int .i64 2] 72)=WA at hE⊢;rw[<-hG];clear hG;refine hK.out _ _ (⟨hE.here.1.2,hE.h3⟩) (fun hHeld=> ?_);clear hK K;try simp only[PL]
    refine r1 2 (fun K hK=> ?_);go_simp;refine hE.fr (e_quick 1 2 _ (by decide) (by decide) (by decide) (by decide) (by decide)) ?_;clear hE;intro sj Aj nj cj tj Bj mj dj w17 hE;go_wp2_with fail
    refine hK.out _ _ (⟨hE.h2,hE.h4⟩) (fun hHeld=> ?_);clear hK K;try simp only[PL]
    have hE2:=(((((((((((((((((((((Env.again hE.bel).blkI (hE.e16.1.1.1.2)).fv (hE.e16.1.1.2)).fv (hE.e16.1.2)).blkI (hE.e16.2)).fv (hE.e8.1.1.1.1.1.1.1.2)).fv (hE.e8.1.1.1.1.1.1.2)).blkI (hE.h13)).fv (hE.h12)).fv (hE.h11)).blkI (hE.h10)).blkI (hE.h9)).blkI (hE.h8)).fv (hE.h7)).blkI (hE.h6)).blkI (hE.h5)).blkI (hE.h4)).fv (hE.h3)).blkI (hE.h2)).fv (hE.here.2)).blkI (hE.here.1.2));clear hE hHeld;exact hk4_0.out sj Aj nj cj tj Bj mj dj G5 w17 hw5 hb5_0 hb5_1 hb5_2 hb5_3 hb5_4 hb5_5 hb5_6 hb5_7 hb5_8 hb5_9 hE2
  ·
   intro sj Aj nj cj tj Bj mj dj G5 wJ hw5 hb5_0 hb5_1 hb5_2 hb5_3 hb5_4 hb5_5 hb5_6 hb5_7 hb5_8 hb5_9 hE;have hHeld:(fun V=>Blk 31 (G3) #[.int .i64 60,.int .i64 1,.slice (some ⟨g9+1,0,none⟩) 3 3,.bool si,.slice Ai ni ci,.bool ti,.slice Bi mi di] V/\Blk 36 (g11+1+1) #[.int .i64 60,.int .i64 0,.int .i64 2,.bool sp,.slice Ap np cp,.bool tp,.slice Bp mp dp,.slice (some ⟨g11,0,none⟩) 3 3,.slice (some ⟨g11+1,0,none⟩) 3 3] V) wJ:=⟨hE.h2,hE.h4⟩;refine tk 6 ?_;refine r1 7 (fun K hK=> ?_);have hst:=store_all 67 (hE.e16.1.1.1.2) [.int .i64 60,.int .i64 1,.slice (some ⟨g9+1,0,none⟩) 3 3,.bool si,.slice Ai ni ci,.bool ti,.slice Bi mi di,.int .i64 60,.int .i64 1,.slice (some ⟨g9+1,0,none⟩) 3 3,.bool si,.slice Ai ni ci,.bool ti,.slice Bi mi di,.bool sj,.slice Aj nj cj,.bool tj,.slice Bj mj dj,.slice (some ⟨G5,0,none⟩) 1 1] rfl (by kernel_rfl) (store_one rfl);obtain⟨hgr,hBk⟩:=sets_all (hE.e16.1.1.1.2) [.int .i64 60,.int .i64 1,.slice (some ⟨g9+1,0,none⟩) 3 3,.bool si,.slice Ai ni ci,.bool ti,.slice Bi mi di,.int .i64 60,.int .i64 1,.slice (some ⟨g9+1,0,none⟩) 3 3,.bool si,.slice Ai ni ci,.bool ti,.slice Bi mi di,.bool sj,.slice Aj nj cj,.bool tj,.slice Bj mj dj,.slice (some ⟨G5,0,none⟩) 1 1] rfl;have hBel:=Go.Proofs.YtclbiihcbfnjmaaGreat.Below.grownB hE.bel hgr hE.bel.size (Nat.le_refl _);have hE2:=(((((((((((((((((((((Env.again hBel).blkI hBk).fv (FV.grownB (hE.e16.1.1.2) (hE.e16.1.1.1.2) rfl hgr)).fv (FV.grownB (hE.e16.1.2) (hE.e16.1.1.1.2) rfl hgr)).blkI (Blk.grownB (hE.e16.2) hgr (by omega))).fv (FV.grownB (hE.e8.1.1.1.1.1.1.1.2) (hE.e16.1.1.1.2) rfl hgr)).fv (FV.grownB (hE.e8.1.1.1.1.1.1.2) (hE.e16.1.1.1.2) rfl hgr)).blkI (Blk.grownB (hE.h13) hgr (by omega))).fv (FV.grownB (hE.h12) (hE.e16.1.1.1.2) rfl hgr)).fv (FV.grownB (hE.h11) (hE.e16.1.1.1.2) rfl hgr)).blkI (Blk.grownB (hE.h10) hgr (by omega))).blkI (Blk.grownB (hE.h9) hgr (by omega))).blkI (Blk.grownB (hE.h8) hgr (by omega))).fv (FV.grownB (hE.h7) (hE.e16.1.1.1.2) rfl hgr)).blkI (Blk.grownB (hE.h6) hgr (by omega))).blkI (Blk.grownB (hE.h5) hgr (by omega))).blkI (Blk.grownB (hE.h4) hgr (by omega))).fv (FV.grownB (hE.h3) (hE.e16.1.1.1.2) rfl hgr)).blkI (Blk.grownB (hE.h2) hgr (by omega))).fv (FV.grownB (hE.here.1.2) (hE.e16.1.1.1.2) rfl hgr)).blkI (Blk.grownB (hE.here.2) hgr (by omega)))
   generalize hU:World.setCells _ w.heap.size 0 [.int .i64 60,.int .i64 1,.slice (some ⟨g9+1,0,none⟩) 3 3,.bool si,.slice Ai ni ci,.bool ti,.slice Bi mi di,.int .i64 60,.int .i64 1,.slice (some ⟨g9+1,0,none⟩) 3 3,.bool si,.slice Ai ni ci,.bool ti,.slice Bi mi di,.bool sj,.slice Aj nj cj,.bool tj,.slice Bj mj dj,.slice (some ⟨G5,0,none⟩) 1 1]=U at*
   have HE2:=Lib.hid hE2;clear hE2 hgr hBk hBel hU;refine Eq.mpr (if_pos (by rfl)) ?_;refine st_step hst rfl rfl rfl ?_;replace hE:=HE2.out;clear HE2 hst;refine hK.out _ _ (⟨hE.h2,hE.h4⟩) (fun hHeld=> ?_);clear hK K;try simp only[PL]
   refine wpAnyH_done (by kernel_rfl) ?_ _;go_wp2_with fail
   refine bodyPost_ret (v:= .agg #[.int .i64 60,.int .i64 1,.slice (some ⟨g9+1,0,none⟩) 3 3,.bool si,.slice Ai ni ci,.bool ti,.slice Bi mi di,.int .i64 60,.int .i64 1,.slice (some ⟨g9+1,0,none⟩) 3 3,.bool si,.slice Ai ni ci,.bool ti,.slice Bi mi di,.bool sj,.slice Aj nj cj,.bool tj,.slice Bj mj dj,.slice (some ⟨G5,0,none⟩) 1 1]) (results_cell Tryz.results89 rfl (run_loadVar_mid _ _ 0 _ [.int .i64 60,.int .i64 1,.slice (some ⟨g9+1,0,none⟩) 3 3,.bool si,.slice Ai ni ci,.bool ti,.slice Bi mi di,.int .i64 60,.int .i64 1,.slice (some ⟨g9+1,0,none⟩) 3 3,.bool si,.slice Ai ni ci,.bool ti,.slice Bi mi di,.bool sj,.slice Aj nj cj,.bool tj,.slice Bj mj dj,.slice (some ⟨G5,0,none⟩) 1 1] _ (fun j v hv=>by rw[Nat.zero_add,(hE.e16.1.1.1.2).cell j,List.getElem?_toArray];exact hv) Tryz.underlying67 rfl (by kernel_rfl))) rfl ?_;have hT:TabM U (some ⟨g9+1,0,none⟩) 3 (tab3 (rowOf g3 (FHof (Rat.divInt 1 10) sa Aa na ca ta Ba ma da) (FHof (Rat.divInt 1 5) sb Ab nb cb tb Bb mb db)) (rowOf g6 (FHof (Rat.divInt 1 8) sc Ac nc cc tc Bc mc dc) (FHof (Rat.divInt 1 2) sd Ad nd cd td Bd md dd)) (rowOf g9 (FHof (Rat.divInt 1 4) se Ae ne ce te Be me de) (FHof (Rat.divInt 1 1) sf Af nf cf tf Bf mf df))):=tabM_of (T:= 39) (hE.h9) (rowM_of (hE.e16.2) (FHof.rd_of (hE.e16.1.1.2)) (FHof.rd_of (hE.e16.1.2))) (rowM_of (hE.h13) (FHof.rd_of (hE.e8.1.1.1.1.1.1.1.2)) (FHof.rd_of (hE.e8.1.1.1.1.1.1.2))) (rowM_of (hE.h10) (FHof.rd_of (hE.h12)) (FHof.rd_of (hE.h11)))
   have hok:TOK 60 1 3 (tab3 (rowOf g3 (FHof (Rat.divInt 1 10) sa Aa na ca ta Ba ma da) (FHof (Rat.divInt 1 5) sb Ab nb cb tb Bb mb db)) (rowOf g6 (FHof (Rat.divInt 1 8) sc Ac nc cc tc Bc mc dc) (FHof (Rat.divInt 1 2) sd Ad nd cd td Bd md dd)) (rowOf g9 (FHof (Rat.divInt 1 4) se Ae ne ce te Be me de) (FHof (Rat.divInt 1 1) sf Af nf cf tf Bf mf df))):=by
    refine⟨⟨⟨by decide,by decide⟩,by decide,by decide⟩,⟨by decide,by decide⟩,fun i hi=> ?_, ?_⟩
    ·
     rcases(show i=0\/i=1\/i=2 by omega) with rfl|rfl|rfl
     ·exact rowOK_of (FHof.rate (hE.e16.1.1.2) (rate_small (by decide+kernel)).1 (rate_small (by decide+kernel)).2.1 (rate_small (by decide+kernel)).2.2) (FHof.rate (hE.e16.1.2) (rate_small (by decide+kernel)).1 (rate_small (by decide+kernel)).2.1 (rate_small (by decide+kernel)).2.2)
     ·exact rowOK_of (FHof.rate (hE.e8.1.1.1.1.1.1.1.2) (rate_small (by decide+kernel)).1 (rate_small (by decide+kernel)).2.1 (rate_small (by decide+kernel)).2.2) (FHof.rate (hE.e8.1.1.1.1.1.1.2) (rate_small (by decide+kernel)).1 (rate_small (by decide+kernel)).2.1 (rate_small (by decide+kernel)).2.2)
     ·exact rowOK_of (FHof.rate (hE.h12) (rate_small (by decide+kernel)).1 (rate_small (by decide+kernel)).2.1 (rate_small (by decide+kernel)).2.2) (FHof.rate (hE.h11) (rate_small (by decide+kernel)).1 (rate_small (by decide+kernel)).2.1 (rate_small (by decide+kernel)).2.2)
    ·exact(FHof.q_eq (hE.h11)).trans (by decide+kernel)
   have hrdA:RdI (some ⟨g11,0,none⟩) 3 smL3 U:=fun k hk=>⟨_,_,rfl,by rw[Nat.zero_add];exact At.of_blk (hE.h6) k (by rcases(show k=0\/k=1\/k=2 by omega) with rfl|rfl|rfl<;>rfl)⟩
   have hrdB:RdI (some ⟨g11+1,0,none⟩) 3 smK3 U:=fun k hk=>⟨_,_,rfl,by rw[Nat.zero_add];exact At.of_blk (hE.h5) k (by rcases(show k=0\/k=1\/k=2 by omega) with rfl|rfl|rfl<;>rfl)⟩
   have hG:=hE.here.2;exact samp_done (A:=some ⟨g9+1,0,none⟩) (c:=3) hT hok ⟨FHof.q_eq (hE.e16.1.1.2),FHof.q_eq (hE.e16.1.2),FHof.q_eq (hE.e8.1.1.1.1.1.1.1.2),FHof.q_eq (hE.e8.1.1.1.1.1.1.2),FHof.q_eq (hE.h12),FHof.q_eq (hE.h11)⟩ (hE.h7) (hE.h3) (hE.here.1.2) hrdA hrdB hG hE.bel
end Go.Proofs.YtclbiihcbfnjmaaGreat
