/-
  Parts.
-/
import Derived.Test.YtclbiihcbfnjmaaGreatEH
import Derived.Test.YtclbiihcbfnjmaaGreatE6A
set_option linter.unusedSimpArgs false
set_option maxRecDepth 100000
set_option maxHeartbeats 8000000
namespace Go.Proofs.YtclbiihcbfnjmaaGreat
open Go.RowKit

def yG (k:Nat):Int:=if k=2 then 500 else 0
def yH (_:Nat):Int:=1000
theorem Je {cs:List Value}(h:cs.all (fun v=>v.oneCell')=true):∀v∈cs,v.oneCell'=true:=List.all_eq_true.1 h
def Wy (w:World)(e:Ending)(w':World):Prop:=∃y:Yh,e= .returned (.agg y.C.toArray)/\y.rd w'/\y.bd/\y.i/\YS y/\(rep y.it y.n 0=5704/\rep y.it y.n 1=1000/\rep y.it y.n 2=0/\rep y.it y.n 3=3352/\rep y.it y.n 4=2000/\rep y.it y.n 5=6560/\rep y.it y.n 6=2676/\rep y.it y.n 7=1676/\rep y.it y.n 8=-180/\rep y.it y.n 9=0)/\Below w.heap.size w w'
theorem Gn {v:Rat}{f g L K:Nat->Rat}(h:∀k,k<3->f k=g k){t:Nat}(ht:t<=3):va v f 3 L K t=va v g 3 L K t:=by
 unfold va;rw[tY h t ht,Nw (g:=yr v f L K) (h:=yr v g L K) (fun j hj=>by unfold yr;rw[tY h j (by omega),aal h j hj]) t ht]
theorem Gp :va exv exf 3 (fun k=>jR yG 3 k-mU 2 (Rat.divInt 100 1) k) (jR yH 3) 0=Rat.divInt 2852 5/\va exv exf 3 (fun k=>jR yG 3 k-mU 2 (Rat.divInt 100 1) k) (jR yH 3) 1=Rat.divInt 820 1:=by decide+kernel
theorem Ck {q:Rat}{s t:Bool}{A B:Option Addr}{n m k:Nat}{W:World}(h:FV W q s A n t B m)(h0:0<=q)(hl:fl q<=k)(hk:k<=256)(c d:Nat):okF s n (bD q s A n c t B m d).f t m (bD q s A n c t B m d).g=true/\s=false/\n<=k/\m<=k:=by
 obtain⟨l1,l2⟩:=h.ln hl
 have hs:s=false:=by rw[h.1.EA];exact decide_eq_false (by have:=Rat.num_nonneg.2 h0;omega)
 exact⟨qy h (Nat.le_trans hl hk),hs,l1,l2⟩
theorem Jf {w U:World}{A:Option Addr}{c:Nat}{r:Nat->RH}{sp tp si ti sj tj:Bool}{Ap Bp Ai Bi Aj Bj:Option Addr}{np cp mp dp ni ci mi di nj cj mj dj ga gb G5:Nat}(hT:dA U A 3 r)(hok:Cl 60 1 3 r)
  (hq:((r 0).h 0).q=Rat.divInt 1 10/\((r 0).h 1).q=Rat.divInt 1 5/\((r 1).h 0).q=Rat.divInt 1 8/\((r 1).h 1).q=Rat.divInt 1 2/\((r 2).h 0).q=Rat.divInt 1 4/\((r 2).h 1).q=Rat.divInt 1 1)
  (hp:FV U (Rat.divInt 100 1) sp Ap np tp Bp mp) (mV:FV U (Rat.divInt 1 4) si Ai ni ti Bi mi) (hj:FV U (Rat.divInt 1 2) sj Aj nj tj Bj mj) (hLi:pZ (some ⟨ga,0,none⟩) 3 yG U) (hDe:pZ (some ⟨gb,0,none⟩) 3 yH U)
  (hG:ak 72 G5 #[.int .i64 60,.int .i64 0,.int .i64 2,.bool sp,.slice Ap np cp,.bool tp,.slice Bp mp dp,.slice (some ⟨ga,0,none⟩) 3 3,.slice (some ⟨gb,0,none⟩) 3 3,.int .i64 0,.int .i64 10,.int .i64 2] U) (aV:Below w.heap.size w U):
  Wy w (.returned (.agg #[.int .i64 60,.int .i64 1,.slice A 3 c,.bool si,.slice Ai ni ci,.bool ti,.slice Bi mi di,.int .i64 60,.int .i64 1,.slice A 3 c,.bool si,.slice Ai ni ci,.bool ti,.slice Bi mi di,.bool sj,.slice Aj nj cj,.bool tj,.slice Bj mj dj,.slice (some ⟨G5,0,none⟩) 1 1])) U:=by
 have hB:=hok.small (by decide) rfl;have hR:cB 60 1 3 r 60 0:=⟨hok,by decide,by decide,by decide,by decide⟩;have oy:zJ (Rat.divInt 1 4):=⟨by decide+kernel,by decide+kernel,by decide+kernel⟩;obtain⟨ox,hm1⟩:=mV.ln oy.fl;have hfx:=aam hq;have hpo:=Ck (k:=4) hp (by decide+kernel) (by rw[bV];decide+kernel) (by decide) cp dp;have hjo:=Ck (k:=1) hj (by decide+kernel) (by rw[bV];decide+kernel) (by decide) cj dj;have hpq:(bD (Rat.divInt 100 1) sp Ap np cp tp Bp mp dp).q=Rat.divInt 100 1:=bD.vb hp;have hjq:(bD (Rat.divInt 1 2) sj Aj nj cj tj Bj mj dj).q=Rat.divInt 1 2:=bD.vb hj;have hiq:(bD (Rat.divInt 1 4) si Ai ni ci ti Bi mi di).q=Rat.divInt 1 4:=bD.vb mV
 obtain⟨b,hb⟩:∃b:Bh,b=⟨60,1,A,3,c,r,bD (Rat.divInt 1 4) si Ai ni ci ti Bi mi di⟩:=⟨_,rfl⟩
 obtain⟨x,hx⟩:∃x:Ct,x=⟨60,0,2,bD (Rat.divInt 100 1) sp Ap np cp tp Bp mp dp,some ⟨ga,0,none⟩,3,3,yG,some ⟨gb,0,none⟩,3,3,yH⟩:=⟨_,rfl⟩
 obtain⟨y,hy⟩:∃y:Yh,y=⟨b,b,bD (Rat.divInt 1 2) sj Aj nj cj tj Bj mj dj,some ⟨G5,0,none⟩,1,1,fun _=>⟨x,0,10,2⟩⟩:=⟨_,rfl⟩
 have Nx:b.rd U:=by rw[hb];exact⟨hT,mV.rd⟩
 have lS:b.bd:=by rw[hb];exact⟨hB,by show ni<=1000000;omega,by show mi<=1000000;omega⟩
 have hxr:x.rd U:=by rw[hx];exact⟨hp.rd,hLi,hDe⟩
 have iB:x.bd:=by rw[hx];exact⟨show(-9223372036854775808:Int)<=2/\(2:Int)<=9223372036854775807 by decide,⟨Nat.le_trans hpo.2.2.1 (by decide),Nat.le_trans hpo.2.2.2 (by decide)⟩,show 3<=1000000/\3<=1000000 by decide⟩
 have aff:Cm 3 yG/\Cm 3 yH:=⟨⟨by decide,fun k _=>by unfold yG;split<;>decide⟩,⟨by decide,fun k _=>by unfold yH;decide⟩⟩
 have hxo:x.ok b:=by rw[hx,hb];exact⟨⟨hok,Tj mV oy⟩,hR,show(0:Int)<=2/\(2:Int)<=120 by decide,hpo,aff.1,aff.2⟩
 have hbv:b.v=exv:=by rw[hb];show 1/(1+(bD (Rat.divInt 1 4) si Ai ni ci ti Bi mi di).q)=exv;rw[hiq];rfl
 have hrt:b.rt x.E x.Y=fr 60 1 3 r 60 0:=by rw[hb,hx];rfl
 have hN:kH b.v (b.rt x.E x.Y) 3:=by rw[hbv,hrt];exact⟨by rw[tY hfx 3 (by decide)];exact Ny.1,fun k hk=>by rw[tY hfx k (by omega)];exact Ny.2 k hk⟩
 have hcn:b.cnt x=3:=Bh.EB hN (by decide)
 have hLx:x.L=fun k=>jR yG 3 k-mU 2 (Rat.divInt 100 1) k:=by
  have e1:x.p.q=Rat.divInt 100 1:=by rw[hx];exact hpq
  funext k
  unfold Ct.L;rw[e1,hx];rfl
 have hKx:x.K=jR yH 3:=by rw[hx];rfl
 have v4:b.val x 3 0=Rat.divInt 2852 5:=by rw[<-Gp.1,<-Gn hfx (by decide)];unfold Bh.val;rw[hbv,hrt,hLx,hKx]
 have v5:b.val x 3 1=Rat.divInt 820 1:=by rw[<-Gp.2,<-Gn hfx (by decide)];unfold Bh.val;rw[hbv,hrt,hLx,hKx]
 have hpr:=(kH.pr (Bh.KD Nx hxo.1).1).1 hN;have hgo:oz b b ⟨x,0,10,2⟩:=⟨⟨hxo,hxo⟩,⟨Int.le_refl 0,hpr.2 0 (by decide)⟩,⟨show(0:Int)<=10 by decide,show(10:Int)<=1099511627776 by decide,show(0:Int)<=2 by decide,show(2:Int)<=10 by decide⟩,.inr ⟨hpr.2 1 (by decide),hpr.2 1 (by decide)⟩⟩
 have hyo:Gk y:=by rw[hy];exact⟨show 1<=32 by decide,hxo.1,hxo.1,⟨hjo.1,hjo.2.1,hjo.2.2.1,hjo.2.2.2⟩,fun _ _=>hgo⟩
 have hn3:b.n=3:=by rw[hb]
 have hyn:y.n=1:=by rw[hy]
 have yo:YS y:=⟨hyo,by rw[hyn];decide,by rw[hy];show b.n<=10;omega,by rw[hy];show b.n<=10;omega⟩
 have hyr:y.rd U:=by
  rw[hy];refine⟨Nx,Nx,hj.rd,fun _=>⟨G5,0,rfl,hG.lt,fun k hk=> ?_⟩⟩
  obtain rfl:k=0:=by have:k<1:=hk;omega
  exact⟨fun j v hv=>by
   have h1:=hG.cell j;rw[show 0+0*12+j=j by omega,h1];rw[hx] at hv;rw[List.getElem?_toArray]
   exact hv,hxr⟩
 have hit:∀k,rep y.it y.n k=wq b b (Rat.divInt 1 2) ⟨x,0,10,2⟩ k:=fun k=>by
  rw[hyn,hy];show 0+wq b b (bD (Rat.divInt 1 2) sj Aj nj cj tj Bj mj dj).q ⟨x,0,10,2⟩ k=_;rw[hjq]
  grind
 have e1:b.i.q=Rat.divInt 1 4:=by rw[hb];exact hiq
 have e2:mU x.T.toNat x.p.q 0=Rat.divInt 100 1:=by rw[hx];show mU 2 (bD (Rat.divInt 100 1) sp Ap np cp tp Bp mp dp).q 0=_;rw[hpq];rfl
 have e3:jR x.l x.n 0=0:=by rw[hx];show jR yG 3 0=0;decide+kernel
 have e4:jR x.k x.m 0=Rat.divInt 1000 1:=by rw[hx];show jR yH 3 0=Rat.divInt 1000 1;decide+kernel
 have e5:b.rt x.E x.Y 0=Rat.divInt 1 10:=by rw[hrt,hfx 0 (by decide)];rfl
 have hall:∀k,wq b b (Rat.divInt 1 2) ⟨x,0,10,2⟩ k=p4 (Rat.divInt 2852 5) (Rat.divInt 820 1) (Rat.divInt 820 1) (Rat.divInt 100 1) 0 (Rat.divInt 1000 1) (Rat.divInt 1 4) (Rat.divInt 1 2) (Rat.divInt 1 10) 10 2 k:=fun k=>by
  unfold wq;show p4 (b.val x (b.cnt x) 0) (b.val x (b.cnt x) 1) (b.val x (b.cnt x) 1) (mU x.T.toNat x.p.q 0) (jR x.l x.n 0) (jR x.k x.m 0) b.i.q (Rat.divInt 1 2) (b.rt x.E x.Y 0) ((10:Int):Rat) ((2:Int):Rat) k=_;rw[hcn,v4,v5,e1,e2,e3,e4,e5];rfl
 have hyi:y.i:=by rw[hy];exact fun _ _=>⟨⟨show(-9223372036854775808:Int)<=0 by decide,show(0:Int)<=9223372036854775807 by decide⟩,⟨show(-9223372036854775808:Int)<=10 by decide,show(10:Int)<=9223372036854775807 by decide⟩,⟨show(-9223372036854775808:Int)<=2 by decide,show(2:Int)<=9223372036854775807 by decide⟩,iB.1⟩
 have ym:y.bd:=by rw[hy];exact⟨lS,lS,⟨Nat.le_trans hjo.2.2.1 (by decide),Nat.le_trans hjo.2.2.2 (by decide)⟩,fun _ _=>iB⟩
 refine⟨y, ?_,hyr,ym,hyi,yo, ?_,aV⟩
 ·rw[hy,hb];rfl
 ·
  simp only[hit,hall]
  decide+kernel
theorem IU (w:World):
  Calls Tryz.prog 89 #[] w (Wy w):=by
 have hE:=(Env.start w).blk 67 #[.int .i64 0,.int .i64 0,.slice none 0 0,.bool false,.slice none 0 0,.bool false,.slice none 0 0,.int .i64 0,.int .i64 0,.slice none 0 0,.bool false,.slice none 0 0,.bool false,.slice none 0 0,.bool false,.slice none 0 0,.bool false,.slice none 0 0,.slice none 0 0] (g:=w.heap.size) rfl
 obtain⟨W0,aC⟩:∃W0,W0=w.alloc (.cells #[.int .i64 0,.int .i64 0,.slice none 0 0,.bool false,.slice none 0 0,.bool false,.slice none 0 0,.int .i64 0,.int .i64 0,.slice none 0 0,.bool false,.slice none 0 0,.bool false,.slice none 0 0,.bool false,.slice none 0 0,.bool false,.slice none 0 0,.slice none 0 0] 67):=⟨_,rfl⟩
 rw[<-aC] at hE;have aU:=Lib.hid aC;clear aC
 go_enter Tryz.func89,Tryz.ntmps89
 go_upto_region 1 with(fail)
 rw[<-aU.out];go_wp2_with fail
 have hc:=fB 1 10 W0 (by decide) (by decide) (by decide) (by decide) (by decide);refine hc.mono ?_;clear hc
 rintro e w1 ⟨sa,Aa,na,ca,ta,Ba,ma,da,rfl,ha,hb⟩
 replace hE:=hE.step hb;clear hb;skip;replace hE:=hE.fv ha;clear ha;go_wp2_with fail
 have hc:=fB 1 5 w1 (by decide) (by decide) (by decide) (by decide) (by decide);refine hc.mono ?_;clear hc
 rintro e w2 ⟨sb,Ab,nb,cb,tb,Bb,mb,db,rfl,hb,hb⟩
 replace hE:=hE.step hb;clear hb;skip;replace hE:=hE.fv hb;clear hb;skip;go_wp2_with fail
 obtain⟨g3,kK⟩:∃g3,g3=w2.heap.size:=⟨_,rfl⟩
 have Ak:w.heap.size<g3:=by rw[kK];exact(hE.h2).lt
 replace hE:=hE.blk 29 #[.bool sa,.slice Aa na ca,.bool ta,.slice Ba ma da,.bool sb,.slice Ab nb cb,.bool tb,.slice Bb mb db] (g:=g3) kK.symm;generalize w2.alloc (.cells #[.bool sa,.slice Aa na ca,.bool ta,.slice Ba ma da,.bool sb,.slice Ab nb cb,.bool tb,.slice Bb mb db] 29)=W3 at hE⊢;rw[<-kK];clear kK;have hc:=fB 1 8 W3 (by decide) (by decide) (by decide) (by decide) (by decide);refine hc.mono ?_;clear hc
 rintro e w4 ⟨sc,Ac,nc,cc,tc,Bc,mc,dc,rfl,hc,hb⟩
 replace hE:=hE.step hb;clear hb;skip;replace hE:=hE.fv hc;clear hc;go_wp2_with fail
 have hc:=fB 1 2 w4 (by decide) (by decide) (by decide) (by decide) (by decide);refine hc.mono ?_;clear hc
 rintro e w5 ⟨sd,Ad,nd,cd,td,Bd,md,dd,rfl,hd,hb⟩
 replace hE:=hE.step hb;clear hb;skip;replace hE:=hE.fv hd;clear hd;go_wp2_with fail
 obtain⟨g6,rG⟩:∃g6,g6=w5.heap.size:=⟨_,rfl⟩
 have Wq:w.heap.size<g6:=by rw[rG];exact(hE.h5).lt
 have BB:g3<g6:=by rw[rG];exact(hE.h2).lt
 replace hE:=hE.blk 29 #[.bool sc,.slice Ac nc cc,.bool tc,.slice Bc mc dc,.bool sd,.slice Ad nd cd,.bool td,.slice Bd md dd] (g:=g6) rG.symm;generalize w5.alloc (.cells #[.bool sc,.slice Ac nc cc,.bool tc,.slice Bc mc dc,.bool sd,.slice Ad nd cd,.bool td,.slice Bd md dd] 29)=W6 at hE⊢;rw[<-rG];clear rG;have hc:=fB 1 4 W6 (by decide) (by decide) (by decide) (by decide) (by decide);refine hc.mono ?_;clear hc
 rintro e w7 ⟨se,Ae,ne,ce,te,Be,me,de,rfl,he,hb⟩
 replace hE:=hE.step hb;clear hb;skip;replace hE:=hE.fv he;clear he;go_wp2_with fail
 have hc:=fB 1 1 w7 (by decide) (by decide) (by decide) (by decide) (by decide);refine hc.mono ?_;clear hc
 rintro e w8 ⟨sf,Af,nf,cf,tf,Bf,mf,df,rfl,hf,hb⟩
 replace hE:=hE.step hb;clear hb;skip;replace hE:=hE.fv hf;clear hf
 go_upto_region 2 with(fail)
 obtain⟨g9,DX⟩:∃g,g=w8.heap.size:=⟨_,rfl⟩
 have M0:w.heap.size<g9:=by rw[DX];exact(hE.h8).lt
 have Wv:g3<g9:=by rw[DX];exact(hE.h5).lt
 have aoW:g6<g9:=by rw[DX];exact(hE.h2).lt
 replace hE:=(((hE.blk 29 #[.bool se,.slice Ae ne ce,.bool te,.slice Be me de,.bool sf,.slice Af nf cf,.bool tf,.slice Bf mf df] (g:=g9) DX.symm).blk 39 #[.slice (some ⟨g3,0,none⟩) 2 2,.slice (some ⟨g6,0,none⟩) 2 2,.slice (some ⟨w8.heap.size,0,none⟩) 2 2] (g:=g9+1) (by simp[DX])).blk 24 #[.int .i64 60,.int .i64 1,.slice (some ⟨w8.heap.size+1,0,none⟩) 3 3] (g:=g9+1+1) (by simp[DX]));generalize (((w8.alloc (.cells #[.bool se,.slice Ae ne ce,.bool te,.slice Be me de,.bool sf,.slice Af nf cf,.bool tf,.slice Bf mf df] 29)).alloc (.cells #[.slice (some ⟨g3,0,none⟩) 2 2,.slice (some ⟨g6,0,none⟩) 2 2,.slice (some ⟨w8.heap.size,0,none⟩) 2 2] 39)).alloc (.cells #[.int .i64 60,.int .i64 1,.slice (some ⟨w8.heap.size+1,0,none⟩) 3 3] 24))=V9 at hE⊢;rw[<-DX] at hE⊢;clear DX;go_wp2_with fail
 have hc:=fB 100 1 V9 (by decide) (by decide) (by decide) (by decide) (by decide);refine hc.mono ?_;clear hc
 rintro e yx ⟨sp,Ap,np,cp,tp,Bp,mp,dp,rfl,hp,hb⟩
 replace hE:=hE.step hb;clear hb;skip;replace hE:=hE.fv hp;clear hp
 go_upto_region 3 with(fail)
 obtain⟨g11,mD⟩:∃g,g=yx.heap.size:=⟨_,rfl⟩
 have Mr:w.heap.size<g11:=by rw[mD];exact(hE.h12).lt
 have ZX:g3<g11:=by rw[mD];exact(hE.h9).lt
 have al2:g6<g11:=by rw[mD];exact(hE.h6).lt
 have ZY:g9<g11:=by rw[mD];exact(hE.h3).lt
 have Td:g9+1<g11:=by rw[mD];exact(hE.h2).lt
 have aiL:g9+1+1<g11:=by rw[mD];exact(hE.here.1.2).lt
 replace hE:=(((hE.blk 3 #[.int .i64 0,.int .i64 0,.int .i64 500] (g:=g11) mD.symm).blk 3 #[.int .i64 1000,.int .i64 1000,.int .i64 1000] (g:=g11+1) (by simp[mD])).blk 36 #[.int .i64 60,.int .i64 0,.int .i64 2,.bool sp,.slice Ap np cp,.bool tp,.slice Bp mp dp,.slice (some ⟨yx.heap.size,0,none⟩) 3 3,.slice (some ⟨yx.heap.size+1,0,none⟩) 3 3] (g:=g11+1+1) (by simp[mD]));generalize (((yx.alloc (.cells #[.int .i64 0,.int .i64 0,.int .i64 500] 3)).alloc (.cells #[.int .i64 1000,.int .i64 1000,.int .i64 1000] 3)).alloc (.cells #[.int .i64 60,.int .i64 0,.int .i64 2,.bool sp,.slice Ap np cp,.bool tp,.slice Bp mp dp,.slice (some ⟨yx.heap.size,0,none⟩) 3 3,.slice (some ⟨yx.heap.size+1,0,none⟩) 3 3] 36))=V11 at hE⊢;rw[<-mD] at hE⊢;clear mD;replace hE:=hE.drew;refine wp_region_held_drew (S:=fun V=>ak 24 (g9+1+1) #[.int .i64 60,.int .i64 1,.slice (some ⟨g9+1,0,none⟩) 3 3] V) (by kernel_rfl) (hE.h4) (fun hHeld=> ?_)
 generalize V11.drew=wd at*
 apply yq;intro Wz
 ·
  refine tk 0 ?_ (hy:=by
   intro w ay;have iM:=(ay).cell 0;have iP:=(ay).cell 1;have jb:=(ay).cell 2;clear ay
   first|(go_simp;done)|(go_simp;with_reducible rfl))
  try simp only[PL]
  refine wpAnyH_ready (rs:=[1,3]) (by kernel_rfl) (by simp) (AllReadyH.cons rfl (fun K hK=> ?_) (AllReadyH.cons rfl (fun K hK=> ?_) (AllReadyH.nil)))
  ·
   go_simp;refine(fB 1 4 _ (by decide) (by decide) (by decide) (by decide) (by decide)).mono ?_
   rintro e IV ⟨si,Ai,ni,ci,ti,Bi,mi,di,rfl,hi,hb⟩
   replace hE:=hE.step hb;clear hb;skip;replace hE:=hE.fv hi;clear hi;go_wp2_with fail
   refine hK.out _ _ (hE.h5) (fun hHeld=> ?_);clear hK K;try simp only[PL]
   refine tk 2 ?_;refine r1 3 (fun K hK=> ?_);go_simp
   obtain⟨G3,hG⟩:∃g,g=IV.heap.size:=⟨_,rfl⟩
   have DY:w.heap.size<=G3:=by rw[hG];exact hE.av.size
   have pE:w.heap.size<G3:=by rw[hG];exact(hE.au.2).lt
   have Gq:g3<G3:=by rw[hG];exact(hE.bZ).lt
   have Gs:g6<G3:=by rw[hG];exact(hE.h10).lt
   have Gt:g9<G3:=by rw[hG];exact(hE.h7).lt
   have Gu:g9+1<G3:=by rw[hG];exact(hE.h6).lt
   have Gv:g9+1+1<G3:=by rw[hG];exact(hE.h5).lt
   have Gw:g11<G3:=by rw[hG];exact(hE.h3).lt
   have Gx:g11+1<G3:=by rw[hG];exact(hE.h2).lt
   have Gy:g11+1+1<G3:=by rw[hG];exact(hE.here.1.2).lt
   replace hE:=hE.blk 31 #[.int .i64 0,.int .i64 0,.slice none 0 0,.bool false,.slice none 0 0,.bool false,.slice none 0 0] (g:=G3) hG.symm;generalize IV.alloc (.cells #[.int .i64 0,.int .i64 0,.slice none 0 0,.bool false,.slice none 0 0,.bool false,.slice none 0 0] 31)=WA at hE⊢;rw[<-hG];clear hG;refine hK.out _ _ (hE.h6) (fun hHeld=> ?_);clear hK K;try simp only[PL]
   refine r1 4 (fun K hK=> ?_)
   have ry:w.heap.size<=G3:=by omega
   have fK:=(dU [.int .i64 60,.int .i64 1,.slice (some ⟨g9+1,0,none⟩) 3 3,.bool si,.slice Ai ni ci,.bool ti,.slice Bi mi di] 0 WA ⟨_,hE.here.2,rfl⟩).1;change WA.grownBy (((((((WA.setCell ⟨G3,0,none⟩ (.int .i64 60)).setCell ⟨G3,1,none⟩ (.int .i64 1)).setCell ⟨G3,2,none⟩ (.slice (some ⟨g9+1,0,none⟩) 3 3)).setCell ⟨G3,3,none⟩ (.bool si)).setCell ⟨G3,4,none⟩ (.slice Ai ni ci)).setCell ⟨G3,5,none⟩ (.bool ti)).setCell ⟨G3,6,none⟩ (.slice Bi mi di)) _ at fK;have BC:=(hE.here.2).cell 0;have BH:=(hE.here.2).frozen 0;have BD:=(hE.here.2).cell 1;have BI:=(hE.here.2).frozen 1;have BF:=(hE.here.2).cell 2;have BJ:=(hE.here.2).frozen 2;have BG:=(hE.here.2).cell 3;have BK:=(hE.here.2).frozen 3;have afg:=(hE.here.2).cell 4;have afh:=(hE.here.2).frozen 4;have afi:=(hE.here.2).cell 5;have afj:=(hE.here.2).frozen 5;have afk:=(hE.here.2).cell 6;have afl:=(hE.here.2).frozen 6;replace hE:=(((((((((((((((((((Env.again (Go.Proofs.YtclbiihcbfnjmaaGreat.Below.ax hE.av fK hE.av.size ry)).af (ak.ax (hE.au.1.2) fK (by omega))).fv ((hE.au.2).ax (hE.here.2) rfl fK)).fv ((hE.e8.1.1.1.1.1.1.1.2).ax (hE.here.2) rfl fK)).af (ak.ax (hE.e8.1.1.1.1.1.1.2) fK (by omega))).fv ((hE.bZ).ax (hE.here.2) rfl fK)).fv ((hE.h12).ax (hE.here.2) rfl fK)).af (ak.ax (hE.h11) fK (by omega))).fv ((hE.h10).ax (hE.here.2) rfl fK)).fv ((hE.h9).ax (hE.here.2) rfl fK)).af (ak.ax (hE.h8) fK (by omega))).af (ak.ax (hE.h7) fK (by omega))).af (ak.ax (hE.h6) fK (by omega))).fv ((hE.h5).ax (hE.here.2) rfl fK)).af (ak.ax (hE.h4) fK (by omega))).af (ak.ax (hE.h3) fK (by omega))).af (ak.ax (hE.h2) fK (by omega))).fv ((hE.here.1.2).ax (hE.here.2) rfl fK)).af (show ak 31 G3 #[.int .i64 60,.int .i64 1,.slice (some ⟨g9+1,0,none⟩) 3 3,.bool si,.slice Ai ni ci,.bool ti,.slice Bi mi di] _ by simpa using((((((((((((((hE.here.2).bW 0 (.int .i64 60))).bW 1 (.int .i64 1))).bW 2 (.slice (some ⟨g9+1,0,none⟩) 3 3))).bW 3 (.bool si))).bW 4 (.slice Ai ni ci))).bW 5 (.bool ti))).bW 6 (.slice Bi mi di))));go_simp;clear BC BH BD BI BF BJ BG BK afg afh afi afj afk afl ry fK;generalize (((((((WA.setCell ⟨G3,0,none⟩ (.int .i64 60)).setCell ⟨G3,1,none⟩ (.int .i64 1)).setCell ⟨G3,2,none⟩ (.slice (some ⟨g9+1,0,none⟩) 3 3)).setCell ⟨G3,3,none⟩ (.bool si)).setCell ⟨G3,4,none⟩ (.slice Ai ni ci)).setCell ⟨G3,5,none⟩ (.bool ti)).setCell ⟨G3,6,none⟩ (.slice Bi mi di))=V13 at hE⊢;refine hK.out _ _ (hE.h6) (fun hHeld=> ?_);clear hK K;try simp only[PL]
   have bG:=(((((((((((((((((((Env.again hE.av).af (hE.au.1.2)).fv (hE.au.2)).fv (hE.e8.1.1.1.1.1.1.1.2)).af (hE.e8.1.1.1.1.1.1.2)).fv (hE.bZ)).fv (hE.h12)).af (hE.h11)).fv (hE.h10)).fv (hE.h9)).af (hE.h8)).af (hE.h7)).af (hE.h6)).fv (hE.h5)).af (hE.h4)).af (hE.h3)).af (hE.h2)).fv (hE.here.1.2)).af (hE.here.2));clear hE hHeld
   revert bG;revert Gy;revert Gx;revert Gw;revert Gv;revert Gu;revert Gt;revert Gs;revert Gq;revert pE;revert DY;revert V13;revert G3;revert di;revert mi;revert Bi;revert ti;revert ci;revert ni;revert Ai;revert si
   exact Wz.out
  ·
   go_simp
   obtain⟨G3,hG⟩:∃g,g=wd.heap.size:=⟨_,rfl⟩
   have DY:w.heap.size<=G3:=by rw[hG];exact hE.av.size
   have pE:w.heap.size<G3:=by rw[hG];exact(hE.e8.1.1.1.1.1.1.1.2).lt
   have Gq:g3<G3:=by rw[hG];exact(hE.h12).lt
   have Gs:g6<G3:=by rw[hG];exact(hE.h9).lt
   have Gt:g9<G3:=by rw[hG];exact(hE.h6).lt
   have Gu:g9+1<G3:=by rw[hG];exact(hE.h5).lt
   have Gv:g9+1+1<G3:=by rw[hG];exact(hE.h4).lt
   have Gw:g11<G3:=by rw[hG];exact(hE.h2).lt
   have Gx:g11+1<G3:=by rw[hG];exact(hE.here.1.2).lt
   have Gy:g11+1+1<G3:=by rw[hG];exact(hE.here.2).lt
   replace hE:=hE.blk 31 #[.int .i64 0,.int .i64 0,.slice none 0 0,.bool false,.slice none 0 0,.bool false,.slice none 0 0] (g:=G3) hG.symm;generalize wd.alloc (.cells #[.int .i64 0,.int .i64 0,.slice none 0 0,.bool false,.slice none 0 0,.bool false,.slice none 0 0] 31)=WA at hE⊢;rw[<-hG];clear hG;refine hK.out _ _ (hE.h5) (fun hHeld=> ?_);clear hK K;try simp only[PL]
   refine r1 1 (fun K hK=> ?_);go_simp;refine(fB 1 4 _ (by decide) (by decide) (by decide) (by decide) (by decide)).mono ?_
   rintro e zQ ⟨si,Ai,ni,ci,ti,Bi,mi,di,rfl,hi,hb⟩
   replace hE:=hE.step hb;clear hb;skip;replace hE:=hE.fv hi;clear hi;go_wp2_with fail
   refine hK.out _ _ (hE.h6) (fun hHeld=> ?_);clear hK K;try simp only[PL]
   refine tk 2 ?_;refine r1 4 (fun K hK=> ?_)
   have rz:w.heap.size<=G3:=by omega
   have fL:=(dU [.int .i64 60,.int .i64 1,.slice (some ⟨g9+1,0,none⟩) 3 3,.bool si,.slice Ai ni ci,.bool ti,.slice Bi mi di] 0 zQ ⟨_,hE.here.1.2,rfl⟩).1;change zQ.grownBy (((((((zQ.setCell ⟨G3,0,none⟩ (.int .i64 60)).setCell ⟨G3,1,none⟩ (.int .i64 1)).setCell ⟨G3,2,none⟩ (.slice (some ⟨g9+1,0,none⟩) 3 3)).setCell ⟨G3,3,none⟩ (.bool si)).setCell ⟨G3,4,none⟩ (.slice Ai ni ci)).setCell ⟨G3,5,none⟩ (.bool ti)).setCell ⟨G3,6,none⟩ (.slice Bi mi di)) _ at fL;have BM:=(hE.here.1.2).cell 0;have BO:=(hE.here.1.2).frozen 0;have BN:=(hE.here.1.2).cell 1;have BP:=(hE.here.1.2).frozen 1;have MI:=(hE.here.1.2).cell 2;have MK:=(hE.here.1.2).frozen 2;have MJ:=(hE.here.1.2).cell 3;have ML:=(hE.here.1.2).frozen 3;have afm:=(hE.here.1.2).cell 4;have afn:=(hE.here.1.2).frozen 4;have afo:=(hE.here.1.2).cell 5;have afp:=(hE.here.1.2).frozen 5;have afq:=(hE.here.1.2).cell 6;have afr:=(hE.here.1.2).frozen 6;replace hE:=(((((((((((((((((((Env.again (Go.Proofs.YtclbiihcbfnjmaaGreat.Below.ax hE.av fL hE.av.size rz)).af (ak.ax (hE.au.1.2) fL (by omega))).fv ((hE.au.2).ax (hE.here.1.2) rfl fL)).fv ((hE.e8.1.1.1.1.1.1.1.2).ax (hE.here.1.2) rfl fL)).af (ak.ax (hE.e8.1.1.1.1.1.1.2) fL (by omega))).fv ((hE.bZ).ax (hE.here.1.2) rfl fL)).fv ((hE.h12).ax (hE.here.1.2) rfl fL)).af (ak.ax (hE.h11) fL (by omega))).fv ((hE.h10).ax (hE.here.1.2) rfl fL)).fv ((hE.h9).ax (hE.here.1.2) rfl fL)).af (ak.ax (hE.h8) fL (by omega))).af (ak.ax (hE.h7) fL (by omega))).af (ak.ax (hE.h6) fL (by omega))).fv ((hE.h5).ax (hE.here.1.2) rfl fL)).af (ak.ax (hE.h4) fL (by omega))).af (ak.ax (hE.h3) fL (by omega))).af (ak.ax (hE.h2) fL (by omega))).af (show ak 31 G3 #[.int .i64 60,.int .i64 1,.slice (some ⟨g9+1,0,none⟩) 3 3,.bool si,.slice Ai ni ci,.bool ti,.slice Bi mi di] _ by simpa using((((((((((((((hE.here.1.2).bW 0 (.int .i64 60))).bW 1 (.int .i64 1))).bW 2 (.slice (some ⟨g9+1,0,none⟩) 3 3))).bW 3 (.bool si))).bW 4 (.slice Ai ni ci))).bW 5 (.bool ti))).bW 6 (.slice Bi mi di)))).fv ((hE.here.2).ax (hE.here.1.2) rfl fL));go_simp;clear BM BO BN BP MI MK MJ ML afm afn afo afp afq afr rz fL;generalize (((((((zQ.setCell ⟨G3,0,none⟩ (.int .i64 60)).setCell ⟨G3,1,none⟩ (.int .i64 1)).setCell ⟨G3,2,none⟩ (.slice (some ⟨g9+1,0,none⟩) 3 3)).setCell ⟨G3,3,none⟩ (.bool si)).setCell ⟨G3,4,none⟩ (.slice Ai ni ci)).setCell ⟨G3,5,none⟩ (.bool ti)).setCell ⟨G3,6,none⟩ (.slice Bi mi di))=V15 at hE⊢;refine hK.out _ _ (hE.h6) (fun hHeld=> ?_);clear hK K;try simp only[PL]
   have bG:=(((((((((((((((((((Env.again hE.av).af (hE.au.1.2)).fv (hE.au.2)).fv (hE.e8.1.1.1.1.1.1.1.2)).af (hE.e8.1.1.1.1.1.1.2)).fv (hE.bZ)).fv (hE.h12)).af (hE.h11)).fv (hE.h10)).fv (hE.h9)).af (hE.h8)).af (hE.h7)).af (hE.h6)).fv (hE.h5)).af (hE.h4)).af (hE.h3)).af (hE.h2)).fv (hE.here.2)).af (hE.here.1.2));clear hE hHeld;exact Wz.out si Ai ni ci ti Bi mi di G3 V15 DY pE Gq Gs Gt Gu Gv Gw Gx Gy bG
 ·
  intro si Ai ni ci ti Bi mi di G3 wJ DY pE Gq Gs Gt Gu Gv Gw Gx Gy hE;have hHeld:(fun V=>ak 24 (g9+1+1) #[.int .i64 60,.int .i64 1,.slice (some ⟨g9+1,0,none⟩) 3 3] V) wJ:=hE.h6;refine wpAnyH_done (by kernel_rfl) ?_ _
  go_upto_region 4 with(fail)
  replace hE:=hE.drew;refine wp_region_held_drew (S:=fun V=>ak 31 (G3) #[.int .i64 60,.int .i64 1,.slice (some ⟨g9+1,0,none⟩) 3 3,.bool si,.slice Ai ni ci,.bool ti,.slice Bi mi di] V/\ak 36 (g11+1+1) #[.int .i64 60,.int .i64 0,.int .i64 2,.bool sp,.slice Ap np cp,.bool tp,.slice Bp mp dp,.slice (some ⟨g11,0,none⟩) 3 3,.slice (some ⟨g11+1,0,none⟩) 3 3] V) (by kernel_rfl) (⟨hE.here.2,hE.h2⟩) (fun hHeld=> ?_)
  generalize wJ.drew=wd at*
  apply yq;intro AQ
  ·
   refine tk 0 ?_ (hy:=by
    intro w ay;have iM:=(ay.1).cell 0;have iP:=(ay.1).cell 1;have jb:=(ay.1).cell 2;have jc:=(ay.1).cell 3;have IX:=(ay.1).cell 4;have IY:=(ay.1).cell 5;have IZ:=(ay.1).cell 6;clear ay
    first|(go_simp;done)|(go_simp;with_reducible rfl))
   try simp only[PL]
   refine tk 1 ?_ (hy:=by
    intro w ay;have iM:=(ay.1).cell 0;have iP:=(ay.1).cell 1;have jb:=(ay.1).cell 2;have jc:=(ay.1).cell 3;have IX:=(ay.1).cell 4;have IY:=(ay.1).cell 5;have IZ:=(ay.1).cell 6;clear ay
    first|(go_simp;done)|(go_simp;with_reducible rfl))
   try simp only[PL]
   refine tk 3 ?_ (hy:=by
    intro w ay;have iM:=(ay.2).cell 0;have iP:=(ay.2).cell 1;have jb:=(ay.2).cell 2;have jc:=(ay.2).cell 3;have IX:=(ay.2).cell 4;have IY:=(ay.2).cell 5;have IZ:=(ay.2).cell 6;have VZ:=(ay.2).cell 7;have QI:=(ay.2).cell 8;clear ay
    first|(go_simp;done)|(go_simp;with_reducible rfl))
   try simp only[PL]
   refine tk 4 ?_;refine wpAnyH_ready (rs:=[2,5]) (by kernel_rfl) (by simp) (AllReadyH.cons rfl (fun K hK=> ?_) (AllReadyH.cons rfl (fun K hK=> ?_) (AllReadyH.nil)))
   ·
    go_simp;refine(fB 1 2 _ (by decide) (by decide) (by decide) (by decide) (by decide)).mono ?_
    rintro e EC ⟨sj,Aj,nj,cj,tj,Bj,mj,dj,rfl,hj,hb⟩
    replace hE:=hE.step hb;clear hb;skip;replace hE:=hE.fv hj;clear hj;go_wp2_with fail
    refine hK.out _ _ (⟨hE.here.1.2,hE.h3⟩) (fun hHeld=> ?_);clear hK K;try simp only[PL]
    refine r1 5 (fun K hK=> ?_);go_simp
    obtain⟨G5,hG⟩:∃g,g=EC.heap.size:=⟨_,rfl⟩
    have hw5:w.heap.size<=G5:=by rw[hG];exact hE.av.size
    have Gz:w.heap.size<G5:=by rw[hG];exact(hE.au.1.1.2).lt
    have GA:g3<G5:=by rw[hG];exact(hE.e8.1.1.1.1.1.1.1.2).lt
    have GB:g6<G5:=by rw[hG];exact(hE.h12).lt
    have GD:g9<G5:=by rw[hG];exact(hE.h9).lt
    have GF:g9+1<G5:=by rw[hG];exact(hE.h8).lt
    have GG:g9+1+1<G5:=by rw[hG];exact(hE.h7).lt
    have GH:g11<G5:=by rw[hG];exact(hE.h5).lt
    have GI:g11+1<G5:=by rw[hG];exact(hE.h4).lt
    have GJ:g11+1+1<G5:=by rw[hG];exact(hE.h3).lt
    have GK:G3<G5:=by rw[hG];exact(hE.here.1.2).lt
    replace hE:=hE.blk 72 #[.int .i64 60,.int .i64 0,.int .i64 2,.bool sp,.slice Ap np cp,.bool tp,.slice Bp mp dp,.slice (some ⟨g11,0,none⟩) 3 3,.slice (some ⟨g11+1,0,none⟩) 3 3,.int .i64 0,.int .i64 10,.int .i64 2] (g:=G5) hG.symm;generalize EC.alloc (.cells #[.int .i64 60,.int .i64 0,.int .i64 2,.bool sp,.slice Ap np cp,.bool tp,.slice Bp mp dp,.slice (some ⟨g11,0,none⟩) 3 3,.slice (some ⟨g11+1,0,none⟩) 3 3,.int .i64 0,.int .i64 10,.int .i64 2] 72)=WA at hE⊢;rw[<-hG];clear hG;refine hK.out _ _ (⟨hE.h2,hE.h4⟩) (fun hHeld=> ?_);clear hK K;try simp only[PL]
    have bG:=(((((((((((((((((((((Env.again hE.av).af (hE.au.1.1.1.2)).fv (hE.au.1.1.2)).fv (hE.au.1.2)).af (hE.au.2)).fv (hE.e8.1.1.1.1.1.1.1.2)).fv (hE.e8.1.1.1.1.1.1.2)).af (hE.bZ)).fv (hE.h12)).fv (hE.h11)).af (hE.h10)).af (hE.h9)).af (hE.h8)).fv (hE.h7)).af (hE.h6)).af (hE.h5)).af (hE.h4)).fv (hE.h3)).af (hE.h2)).fv (hE.here.1.2)).af (hE.here.2));clear hE hHeld
    revert bG;revert GK;revert GJ;revert GI;revert GH;revert GG;revert GF;revert GD;revert GB;revert GA;revert Gz;revert hw5;revert WA;revert G5;revert dj;revert mj;revert Bj;revert tj;revert cj;revert nj;revert Aj;revert sj
    exact AQ.out
   ·
    go_simp
    obtain⟨G5,hG⟩:∃g,g=wd.heap.size:=⟨_,rfl⟩
    have hw5:w.heap.size<=G5:=by rw[hG];exact hE.av.size
    have Gz:w.heap.size<G5:=by rw[hG];exact(hE.au.1.2).lt
    have GA:g3<G5:=by rw[hG];exact(hE.e8.1.1.1.1.1.1.2).lt
    have GB:g6<G5:=by rw[hG];exact(hE.h11).lt
    have GD:g9<G5:=by rw[hG];exact(hE.h8).lt
    have GF:g9+1<G5:=by rw[hG];exact(hE.h7).lt
    have GG:g9+1+1<G5:=by rw[hG];exact(hE.h6).lt
    have GH:g11<G5:=by rw[hG];exact(hE.h4).lt
    have GI:g11+1<G5:=by rw[hG];exact(hE.h3).lt
    have GJ:g11+1+1<G5:=by rw[hG];exact(hE.h2).lt
    have GK:G3<G5:=by rw[hG];exact(hE.here.2).lt
    replace hE:=hE.blk 72 #[.int .i64 60,.int .i64 0,.int .i64 2,.bool sp,.slice Ap np cp,.bool tp,.slice Bp mp dp,.slice (some ⟨g11,0,none⟩) 3 3,.slice (some ⟨g11+1,0,none⟩) 3 3,.int .i64 0,.int .i64 10,.int .i64 2] (g:=G5) hG.symm;generalize wd.alloc (.cells #[.int .i64 60,.int .i64 0,.int .i64 2,.bool sp,.slice Ap np cp,.bool tp,.slice Bp mp dp,.slice (some ⟨g11,0,none⟩) 3 3,.slice (some ⟨g11+1,0,none⟩) 3 3,.int .i64 0,.int .i64 10,.int .i64 2] 72)=WA at hE⊢;rw[<-hG];clear hG;refine hK.out _ _ (⟨hE.here.1.2,hE.h3⟩) (fun hHeld=> ?_);clear hK K;try simp only[PL]
    refine r1 2 (fun K hK=> ?_);go_simp;refine(fB 1 2 _ (by decide) (by decide) (by decide) (by decide) (by decide)).mono ?_
    rintro e Mc ⟨sj,Aj,nj,cj,tj,Bj,mj,dj,rfl,hj,hb⟩
    replace hE:=hE.step hb;clear hb;skip;replace hE:=hE.fv hj;clear hj;go_wp2_with fail
    refine hK.out _ _ (⟨hE.h2,hE.h4⟩) (fun hHeld=> ?_);clear hK K;try simp only[PL]
    have bG:=(((((((((((((((((((((Env.again hE.av).af (hE.au.1.1.1.2)).fv (hE.au.1.1.2)).fv (hE.au.1.2)).af (hE.au.2)).fv (hE.e8.1.1.1.1.1.1.1.2)).fv (hE.e8.1.1.1.1.1.1.2)).af (hE.bZ)).fv (hE.h12)).fv (hE.h11)).af (hE.h10)).af (hE.h9)).af (hE.h8)).fv (hE.h7)).af (hE.h6)).af (hE.h5)).af (hE.h4)).fv (hE.h3)).af (hE.h2)).fv (hE.here.2)).af (hE.here.1.2));clear hE hHeld;exact AQ.out sj Aj nj cj tj Bj mj dj G5 Mc hw5 Gz GA GB GD GF GG GH GI GJ GK bG
  ·
   intro sj Aj nj cj tj Bj mj dj G5 wJ hw5 Gz GA GB GD GF GG GH GI GJ GK hE;have hHeld:(fun V=>ak 31 (G3) #[.int .i64 60,.int .i64 1,.slice (some ⟨g9+1,0,none⟩) 3 3,.bool si,.slice Ai ni ci,.bool ti,.slice Bi mi di] V/\ak 36 (g11+1+1) #[.int .i64 60,.int .i64 0,.int .i64 2,.bool sp,.slice Ap np cp,.bool tp,.slice Bp mp dp,.slice (some ⟨g11,0,none⟩) 3 3,.slice (some ⟨g11+1,0,none⟩) 3 3] V) wJ:=⟨hE.h2,hE.h4⟩;refine tk 6 ?_;refine r1 7 (fun K hK=> ?_);have hst:=jm 67 (hE.au.1.1.1.2) [.int .i64 60,.int .i64 1,.slice (some ⟨g9+1,0,none⟩) 3 3,.bool si,.slice Ai ni ci,.bool ti,.slice Bi mi di,.int .i64 60,.int .i64 1,.slice (some ⟨g9+1,0,none⟩) 3 3,.bool si,.slice Ai ni ci,.bool ti,.slice Bi mi di,.bool sj,.slice Aj nj cj,.bool tj,.slice Bj mj dj,.slice (some ⟨G5,0,none⟩) 1 1] rfl (by kernel_rfl) (Je rfl);obtain⟨cX,iC⟩:=jt (hE.au.1.1.1.2) [.int .i64 60,.int .i64 1,.slice (some ⟨g9+1,0,none⟩) 3 3,.bool si,.slice Ai ni ci,.bool ti,.slice Bi mi di,.int .i64 60,.int .i64 1,.slice (some ⟨g9+1,0,none⟩) 3 3,.bool si,.slice Ai ni ci,.bool ti,.slice Bi mi di,.bool sj,.slice Aj nj cj,.bool tj,.slice Bj mj dj,.slice (some ⟨G5,0,none⟩) 1 1] rfl;have aQ:=Go.Proofs.YtclbiihcbfnjmaaGreat.Below.ax hE.av cX hE.av.size (Nat.le_refl _);have bG:=(((((((((((((((((((((Env.again aQ).af iC).fv (FV.ax (hE.au.1.1.2) (hE.au.1.1.1.2) rfl cX)).fv (FV.ax (hE.au.1.2) (hE.au.1.1.1.2) rfl cX)).af (ak.ax (hE.au.2) cX (by omega))).fv (FV.ax (hE.e8.1.1.1.1.1.1.1.2) (hE.au.1.1.1.2) rfl cX)).fv (FV.ax (hE.e8.1.1.1.1.1.1.2) (hE.au.1.1.1.2) rfl cX)).af (ak.ax (hE.bZ) cX (by omega))).fv (FV.ax (hE.h12) (hE.au.1.1.1.2) rfl cX)).fv (FV.ax (hE.h11) (hE.au.1.1.1.2) rfl cX)).af (ak.ax (hE.h10) cX (by omega))).af (ak.ax (hE.h9) cX (by omega))).af (ak.ax (hE.h8) cX (by omega))).fv (FV.ax (hE.h7) (hE.au.1.1.1.2) rfl cX)).af (ak.ax (hE.h6) cX (by omega))).af (ak.ax (hE.h5) cX (by omega))).af (ak.ax (hE.h4) cX (by omega))).fv (FV.ax (hE.h3) (hE.au.1.1.1.2) rfl cX)).af (ak.ax (hE.h2) cX (by omega))).fv (FV.ax (hE.here.1.2) (hE.au.1.1.1.2) rfl cX)).af (ak.ax (hE.here.2) cX (by omega)))
   generalize hU:World.setCells _ w.heap.size 0 [.int .i64 60,.int .i64 1,.slice (some ⟨g9+1,0,none⟩) 3 3,.bool si,.slice Ai ni ci,.bool ti,.slice Bi mi di,.int .i64 60,.int .i64 1,.slice (some ⟨g9+1,0,none⟩) 3 3,.bool si,.slice Ai ni ci,.bool ti,.slice Bi mi di,.bool sj,.slice Aj nj cj,.bool tj,.slice Bj mj dj,.slice (some ⟨G5,0,none⟩) 1 1]=U at*
   have Ex:=Lib.hid bG;clear bG cX iC aQ hU;refine Eq.mpr (if_pos (by rfl)) ?_;refine pq hst rfl rfl rfl ?_;replace hE:=Ex.out;clear Ex hst;refine hK.out _ _ (⟨hE.h2,hE.h4⟩) (fun hHeld=> ?_);clear hK K;try simp only[PL]
   refine wpAnyH_done (by kernel_rfl) ?_ _;go_wp2_with fail
   refine bodyPost_ret (v:= .agg #[.int .i64 60,.int .i64 1,.slice (some ⟨g9+1,0,none⟩) 3 3,.bool si,.slice Ai ni ci,.bool ti,.slice Bi mi di,.int .i64 60,.int .i64 1,.slice (some ⟨g9+1,0,none⟩) 3 3,.bool si,.slice Ai ni ci,.bool ti,.slice Bi mi di,.bool sj,.slice Aj nj cj,.bool tj,.slice Bj mj dj,.slice (some ⟨G5,0,none⟩) 1 1]) (pz Tryz.results89 rfl (run_loadVar_mid _ _ 0 _ [.int .i64 60,.int .i64 1,.slice (some ⟨g9+1,0,none⟩) 3 3,.bool si,.slice Ai ni ci,.bool ti,.slice Bi mi di,.int .i64 60,.int .i64 1,.slice (some ⟨g9+1,0,none⟩) 3 3,.bool si,.slice Ai ni ci,.bool ti,.slice Bi mi di,.bool sj,.slice Aj nj cj,.bool tj,.slice Bj mj dj,.slice (some ⟨G5,0,none⟩) 1 1] _ (fun j v hv=>by rw[Nat.zero_add,(hE.au.1.1.1.2).cell j,List.getElem?_toArray];exact hv) Tryz.underlying67 rfl (by kernel_rfl))) rfl ?_;have hT:dA U (some ⟨g9+1,0,none⟩) 3 (aan (rowOf g3 (bD (Rat.divInt 1 10) sa Aa na ca ta Ba ma da) (bD (Rat.divInt 1 5) sb Ab nb cb tb Bb mb db)) (rowOf g6 (bD (Rat.divInt 1 8) sc Ac nc cc tc Bc mc dc) (bD (Rat.divInt 1 2) sd Ad nd cd td Bd md dd)) (rowOf g9 (bD (Rat.divInt 1 4) se Ae ne ce te Be me de) (bD (Rat.divInt 1 1) sf Af nf cf tf Bf mf df))):=Tk (T:= 39) (hE.h9) (yI (hE.au.2) (bD.wu (hE.au.1.1.2)) (bD.wu (hE.au.1.2))) (yI (hE.bZ) (bD.wu (hE.e8.1.1.1.1.1.1.1.2)) (bD.wu (hE.e8.1.1.1.1.1.1.2))) (yI (hE.h10) (bD.wu (hE.h12)) (bD.wu (hE.h11)))
   have hok:Cl 60 1 3 (aan (rowOf g3 (bD (Rat.divInt 1 10) sa Aa na ca ta Ba ma da) (bD (Rat.divInt 1 5) sb Ab nb cb tb Bb mb db)) (rowOf g6 (bD (Rat.divInt 1 8) sc Ac nc cc tc Bc mc dc) (bD (Rat.divInt 1 2) sd Ad nd cd td Bd md dd)) (rowOf g9 (bD (Rat.divInt 1 4) se Ae ne ce te Be me de) (bD (Rat.divInt 1 1) sf Af nf cf tf Bf mf df))):=by
    refine⟨⟨⟨by decide,by decide⟩,by decide,by decide⟩,⟨by decide,by decide⟩,fun i hi=> ?_, ?_⟩
    ·
     rcases(show i=0\/i=1\/i=2 by omega) with rfl|rfl|rfl
     ·exact tZ (bD.rate (hE.au.1.1.2) (bK (by decide+kernel)).1 (bK (by decide+kernel)).2.1 (bK (by decide+kernel)).2.2) (bD.rate (hE.au.1.2) (bK (by decide+kernel)).1 (bK (by decide+kernel)).2.1 (bK (by decide+kernel)).2.2)
     ·exact tZ (bD.rate (hE.e8.1.1.1.1.1.1.1.2) (bK (by decide+kernel)).1 (bK (by decide+kernel)).2.1 (bK (by decide+kernel)).2.2) (bD.rate (hE.e8.1.1.1.1.1.1.2) (bK (by decide+kernel)).1 (bK (by decide+kernel)).2.1 (bK (by decide+kernel)).2.2)
     ·exact tZ (bD.rate (hE.h12) (bK (by decide+kernel)).1 (bK (by decide+kernel)).2.1 (bK (by decide+kernel)).2.2) (bD.rate (hE.h11) (bK (by decide+kernel)).1 (bK (by decide+kernel)).2.1 (bK (by decide+kernel)).2.2)
    ·exact(bD.vb (hE.h11)).trans (by decide+kernel)
   have al3:pZ (some ⟨g11,0,none⟩) 3 yG U:=fun k hk=>⟨_,_,rfl,by rw[Nat.zero_add];exact At.gn (hE.h6) k (by rcases(show k=0\/k=1\/k=2 by omega) with rfl|rfl|rfl<;>rfl)⟩
   have al4:pZ (some ⟨g11+1,0,none⟩) 3 yH U:=fun k hk=>⟨_,_,rfl,by rw[Nat.zero_add];exact At.gn (hE.h5) k (by rcases(show k=0\/k=1\/k=2 by omega) with rfl|rfl|rfl<;>rfl)⟩
   have hG:=hE.here.2;exact Jf (A:=some ⟨g9+1,0,none⟩) (c:=3) hT hok ⟨bD.vb (hE.au.1.1.2),bD.vb (hE.au.1.2),bD.vb (hE.e8.1.1.1.1.1.1.1.2),bD.vb (hE.e8.1.1.1.1.1.1.2),bD.vb (hE.h12),bD.vb (hE.h11)⟩ (hE.h7) (hE.h3) (hE.here.1.2) al3 al4 hG hE.av
end Go.Proofs.YtclbiihcbfnjmaaGreat
