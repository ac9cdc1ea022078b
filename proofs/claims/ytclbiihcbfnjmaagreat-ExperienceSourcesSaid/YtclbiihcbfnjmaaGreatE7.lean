/-
  Parts.
-/
import Derived.Test.YtclbiihcbfnjmaaGreatEH
import Derived.Test.YtclbiihcbfnjmaaGreatE6A
set_option linter.unusedSimpArgs false
set_option maxRecDepth 100000
set_option maxHeartbeats 8000000
namespace Go.Proofs.YtclbiihcbfnjmaaGreat
open Go.RowKit

def AK (k:Nat):Int:=if k=2 then 500 else 0
def AL (_:Nat):Int:=1000
theorem Li {cs:List Value}(h:cs.all (fun v=>v.oneCell')=true):∀v∈cs,v.oneCell'=true:=jZ.1 h
def ZL (w:World)(e:Ending)(w':World):Prop:=∃y:Yh,e= .returned (.agg y.C.toArray)/\y.rd w'/\y.bd/\y.i/\YS y/\(rep y.it y.n 0=5704/\rep y.it y.n 1=1000/\rep y.it y.n 2=0/\rep y.it y.n 3=3352/\rep y.it y.n 4=2000/\rep y.it y.n 5=6560/\rep y.it y.n 6=2676/\rep y.it y.n 7=1676/\rep y.it y.n 8=-180/\rep y.it y.n 9=0)/\Below w.heap.size w w'
theorem Jf {v:Rat}{f g L K:Nat->Rat}(h:∀k,k<3->f k=g k){t:Nat}(ht:t<=3):va v f 3 L K t=va v g 3 L K t:=by
 unfold va;rw[vJ h t ht,Qa (g:=yr v f L K) (h:=yr v g L K) (fun j hj=>by unfold yr;rw[vJ h j (by omega),adf h j hj]) t ht]
theorem Jg :va exv exf 3 (fun k=>lY AK 3 k-pH 2 (Rat.divInt 100 1) k) (lY AL 3) 0=Rat.divInt 2852 5/\va exv exf 3 (fun k=>lY AK 3 k-pH 2 (Rat.divInt 100 1) k) (lY AL 3) 1=Rat.divInt 820 1:=by decide+kernel
theorem DQ {q:Rat}{s t:Bool}{A B:Option Addr}{n m k:Nat}{W:World}(h:FV W q s A n t B m)(h0:0<=q)(hl:fl q<=k)(hk:k<=256)(c d:Nat):okF s n (bU q s A n c t B m d).f t m (bU q s A n c t B m d).g=true/\s=false/\n<=k/\m<=k:=by
 obtain⟨l1,l2⟩:=h.ln hl
 have hs:s=false:=by rw[h.1.AM];exact aH (by have:=mN.2 h0;omega)
 exact⟨pZ h (ay hl hk),hs,l1,l2⟩
theorem Lj {w U:World}{A:Option Addr}{c:Nat}{r:Nat->RH}{sp tp si ti sj tj:Bool}{Ap Bp Ai Bi Aj Bj:Option Addr}{np cp mp dp ni ci mi di nj cj mj dj ga gb G5:Nat}(hT:eZ U A 3 r)(hok:DR 60 1 3 r)
  (hq:((r 0).h 0).q=Rat.divInt 1 10/\((r 0).h 1).q=Rat.divInt 1 5/\((r 1).h 0).q=Rat.divInt 1 8/\((r 1).h 1).q=Rat.divInt 1 2/\((r 2).h 0).q=Rat.divInt 1 4/\((r 2).h 1).q=Rat.divInt 1 1)
  (hp:FV U (Rat.divInt 100 1) sp Ap np tp Bp mp) (oM:FV U (Rat.divInt 1 4) si Ai ni ti Bi mi) (hj:FV U (Rat.divInt 1 2) sj Aj nj tj Bj mj) (hLi:rR (some ⟨ga,0,none⟩) 3 AK U) (hDe:rR (some ⟨gb,0,none⟩) 3 AL U)
  (hG:au 72 G5 #[.int .i64 60,.int .i64 0,.int .i64 2,.bool sp,.slice Ap np cp,.bool tp,.slice Bp mp dp,.slice (some ⟨ga,0,none⟩) 3 3,.slice (some ⟨gb,0,none⟩) 3 3,.int .i64 0,.int .i64 10,.int .i64 2] U) (bh:Below w.heap.size w U):
  ZL w (.returned (.agg #[.int .i64 60,.int .i64 1,.slice A 3 c,.bool si,.slice Ai ni ci,.bool ti,.slice Bi mi di,.int .i64 60,.int .i64 1,.slice A 3 c,.bool si,.slice Ai ni ci,.bool ti,.slice Bi mi di,.bool sj,.slice Aj nj cj,.bool tj,.slice Bj mj dj,.slice (some ⟨G5,0,none⟩) 1 1])) U:=by
 have hB:=hok.small (by decide) rfl;have hR:dH 60 1 3 r 60 0:=⟨hok,by decide,by decide,by decide,by decide⟩;have uN:Cn (Rat.divInt 1 4):=⟨by decide+kernel,by decide+kernel,by decide+kernel⟩;obtain⟨vu,hm1⟩:=oM.ln uN.fl;have hfx:=adh hq;have hpo:=DQ (k:=4) hp (by decide+kernel) (by rw[dA];decide+kernel) (by decide) cp dp;have hjo:=DQ (k:=1) hj (by decide+kernel) (by rw[dA];decide+kernel) (by decide) cj dj;have hpq:(bU (Rat.divInt 100 1) sp Ap np cp tp Bp mp dp).q=Rat.divInt 100 1:=bU.xw hp;have hjq:(bU (Rat.divInt 1 2) sj Aj nj cj tj Bj mj dj).q=Rat.divInt 1 2:=bU.xw hj;have hiq:(bU (Rat.divInt 1 4) si Ai ni ci ti Bi mi di).q=Rat.divInt 1 4:=bU.xw oM
 obtain⟨b,hb⟩:∃b:Bh,b=⟨60,1,A,3,c,r,bU (Rat.divInt 1 4) si Ai ni ci ti Bi mi di⟩:=⟨_,rfl⟩
 obtain⟨x,hx⟩:∃x:Ct,x=⟨60,0,2,bU (Rat.divInt 100 1) sp Ap np cp tp Bp mp dp,some ⟨ga,0,none⟩,3,3,AK,some ⟨gb,0,none⟩,3,3,AL⟩:=⟨_,rfl⟩
 obtain⟨y,hy⟩:∃y:Yh,y=⟨b,b,bU (Rat.divInt 1 2) sj Aj nj cj tj Bj mj dj,some ⟨G5,0,none⟩,1,1,fun _=>⟨x,0,10,2⟩⟩:=⟨_,rfl⟩
 have Qb:b.rd U:=by rw[hb];exact⟨hT,oM.rd⟩
 have nS:b.bd:=by rw[hb];exact⟨hB,by show ni<=1000000;omega,by show mi<=1000000;omega⟩
 have hxr:x.rd U:=by rw[hx];exact⟨hp.rd,hLi,hDe⟩
 have jw:x.bd:=by rw[hx];exact⟨show(-9223372036854775808:Int)<=2/\(2:Int)<=9223372036854775807 by decide,⟨ay hpo.2.2.1 (by decide),ay hpo.2.2.2 (by decide)⟩,show 3<=1000000/\3<=1000000 by decide⟩
 have ahO:DS 3 AK/\DS 3 AL:=⟨⟨by decide,fun k _=>by unfold AK;split<;>decide⟩,⟨by decide,fun k _=>by unfold AL;decide⟩⟩
 have hxo:x.ok b:=by rw[hx,hb];exact⟨⟨hok,Wl oM uN⟩,hR,show(0:Int)<=2/\(2:Int)<=120 by decide,hpo,ahO.1,ahO.2⟩
 have hbv:b.v=exv:=by rw[hb];show 1/(1+(bU (Rat.divInt 1 4) si Ai ni ci ti Bi mi di).q)=exv;rw[hiq];rfl
 have hrt:b.rt x.E x.Y=fr 60 1 3 r 60 0:=by rw[hb,hx];rfl
 have hN:lT b.v (b.rt x.E x.Y) 3:=by rw[hbv,hrt];exact⟨by rw[vJ hfx 3 (by decide)];exact Qc.1,fun k hk=>by rw[vJ hfx k (by omega)];exact Qc.2 k hk⟩
 have hcn:b.cnt x=3:=Bh.Gm hN (by decide)
 have hLx:x.L=fun k=>lY AK 3 k-pH 2 (Rat.divInt 100 1) k:=by
  have e1:x.p.q=Rat.divInt 100 1:=by rw[hx];exact hpq
  funext k
  unfold Ct.L;rw[e1,hx];rfl
 have hKx:x.K=lY AL 3:=by rw[hx];rfl
 have v4:b.val x 3 0=Rat.divInt 2852 5:=by rw[<-Jg.1,<-Jf hfx (by decide)];unfold Bh.val;rw[hbv,hrt,hLx,hKx]
 have v5:b.val x 3 1=Rat.divInt 820 1:=by rw[<-Jg.2,<-Jf hfx (by decide)];unfold Bh.val;rw[hbv,hrt,hLx,hKx]
 have hpr:=(lT.pr (Bh.MK Qb hxo.1).1).1 hN;have hgo:pX b b ⟨x,0,10,2⟩:=⟨⟨hxo,hxo⟩,⟨Int.le_refl 0,hpr.2 0 (by decide)⟩,⟨show(0:Int)<=10 by decide,show(10:Int)<=1099511627776 by decide,show(0:Int)<=2 by decide,show(2:Int)<=10 by decide⟩,.inr ⟨hpr.2 1 (by decide),hpr.2 1 (by decide)⟩⟩
 have hyo:Ld y:=by rw[hy];exact⟨show 1<=32 by decide,hxo.1,hxo.1,⟨hjo.1,hjo.2.1,hjo.2.2.1,hjo.2.2.2⟩,fun _ _=>hgo⟩
 have hn3:b.n=3:=by rw[hb]
 have hyn:y.n=1:=by rw[hy]
 have hyS:YS y:=⟨hyo,by rw[hyn];decide,by rw[hy];show b.n<=10;omega,by rw[hy];show b.n<=10;omega⟩
 have hyr:y.rd U:=by
  rw[hy];refine⟨Qb,Qb,hj.rd,fun _=>⟨G5,0,rfl,hG.lt,fun k hk=> ?_⟩⟩
  obtain rfl:k=0:=by have:k<1:=hk;omega
  exact⟨fun j v hv=>by
   have h1:=hG.cell j;rw[show 0+0*12+j=j by omega,h1];rw[hx] at hv;rw[mI]
   exact hv,hxr⟩
 have hit:∀k,rep y.it y.n k=Wh b b (Rat.divInt 1 2) ⟨x,0,10,2⟩ k:=fun k=>by
  rw[hyn,hy];show 0+Wh b b (bU (Rat.divInt 1 2) sj Aj nj cj tj Bj mj dj).q ⟨x,0,10,2⟩ k=_;rw[hjq]
  grind
 have e1:b.i.q=Rat.divInt 1 4:=by rw[hb];exact hiq
 have e2:pH x.T.toNat x.p.q 0=Rat.divInt 100 1:=by rw[hx];show pH 2 (bU (Rat.divInt 100 1) sp Ap np cp tp Bp mp dp).q 0=_;rw[hpq];rfl
 have e3:lY x.l x.n 0=0:=by rw[hx];show lY AK 3 0=0;decide+kernel
 have e4:lY x.k x.m 0=Rat.divInt 1000 1:=by rw[hx];show lY AL 3 0=Rat.divInt 1000 1;decide+kernel
 have e5:b.rt x.E x.Y 0=Rat.divInt 1 10:=by rw[hrt,hfx 0 (by decide)];rfl
 have hall:∀k,Wh b b (Rat.divInt 1 2) ⟨x,0,10,2⟩ k=Zx (Rat.divInt 2852 5) (Rat.divInt 820 1) (Rat.divInt 820 1) (Rat.divInt 100 1) 0 (Rat.divInt 1000 1) (Rat.divInt 1 4) (Rat.divInt 1 2) (Rat.divInt 1 10) 10 2 k:=fun k=>by
  unfold Wh;show Zx (b.val x (b.cnt x) 0) (b.val x (b.cnt x) 1) (b.val x (b.cnt x) 1) (pH x.T.toNat x.p.q 0) (lY x.l x.n 0) (lY x.k x.m 0) b.i.q (Rat.divInt 1 2) (b.rt x.E x.Y 0) ((10:Int):Rat) ((2:Int):Rat) k=_;rw[hcn,v4,v5,e1,e2,e3,e4,e5];rfl
 have hyi:y.i:=by rw[hy];exact fun _ _=>⟨⟨show(-9223372036854775808:Int)<=0 by decide,show(0:Int)<=9223372036854775807 by decide⟩,⟨show(-9223372036854775808:Int)<=10 by decide,show(10:Int)<=9223372036854775807 by decide⟩,⟨show(-9223372036854775808:Int)<=2 by decide,show(2:Int)<=9223372036854775807 by decide⟩,jw.1⟩
 have hyb:y.bd:=by rw[hy];exact⟨nS,nS,⟨ay hjo.2.2.1 (by decide),ay hjo.2.2.2 (by decide)⟩,fun _ _=>jw⟩
 refine⟨y, ?_,hyr,hyb,hyi,hyS, ?_,bh⟩
 ·rw[hy,hb];rfl
 ·
  simp only[hit,hall]
  decide+kernel
theorem KK (w:World):
  Calls Tryz.prog 89 #[] w (ZL w):=by
 have hE:=(Env.start w).blk 67 #[.int .i64 0,.int .i64 0,.slice none 0 0,.bool false,.slice none 0 0,.bool false,.slice none 0 0,.int .i64 0,.int .i64 0,.slice none 0 0,.bool false,.slice none 0 0,.bool false,.slice none 0 0,.bool false,.slice none 0 0,.bool false,.slice none 0 0,.slice none 0 0] (g:=w.heap.size) rfl
 obtain⟨W0,aC⟩:∃W0,W0=w.alloc (.cells #[.int .i64 0,.int .i64 0,.slice none 0 0,.bool false,.slice none 0 0,.bool false,.slice none 0 0,.int .i64 0,.int .i64 0,.slice none 0 0,.bool false,.slice none 0 0,.bool false,.slice none 0 0,.bool false,.slice none 0 0,.bool false,.slice none 0 0,.slice none 0 0] 67):=⟨_,rfl⟩
 rw[<-aC] at hE;have aZ:=af aC;clear aC
 go_enter Tryz.func89,Tryz.ntmps89
 go_upto_region 1 with(fail)
 rw[<-aZ.out];go_wp2_with fail
 have hc:=gK 1 10 W0 (by decide) (by decide) (by decide) (by decide) (by decide);refine hc.mono ?_;clear hc
 rintro e w1 ⟨sa,Aa,na,ca,ta,Ba,ma,da,rfl,ha,hb⟩
 replace hE:=hE.step hb;clear hb;skip;replace hE:=hE.fv ha;clear ha;go_wp2_with fail
 have hc:=gK 1 5 w1 (by decide) (by decide) (by decide) (by decide) (by decide);refine hc.mono ?_;clear hc
 rintro e w2 ⟨sb,Ab,nb,cb,tb,Bb,mb,db,rfl,hb,hb⟩
 replace hE:=hE.step hb;clear hb;skip;replace hE:=hE.fv hb;clear hb;skip;go_wp2_with fail
 obtain⟨g3,lX⟩:∃g3,g3=w2.heap.size:=⟨_,rfl⟩
 have CE:w.heap.size<g3:=by rw[lX];exact(hE.h2).lt
 replace hE:=hE.blk 29 #[.bool sa,.slice Aa na ca,.bool ta,.slice Ba ma da,.bool sb,.slice Ab nb cb,.bool tb,.slice Bb mb db] (g:=g3) lX.symm;generalize w2.alloc (.cells #[.bool sa,.slice Aa na ca,.bool ta,.slice Ba ma da,.bool sb,.slice Ab nb cb,.bool tb,.slice Bb mb db] 29)=W3 at hE⊢;rw[<-lX];clear lX;have hc:=gK 1 8 W3 (by decide) (by decide) (by decide) (by decide) (by decide);refine hc.mono ?_;clear hc
 rintro e w4 ⟨sc,Ac,nc,cc,tc,Bc,mc,dc,rfl,hc,hb⟩
 replace hE:=hE.step hb;clear hb;skip;replace hE:=hE.fv hc;clear hc;go_wp2_with fail
 have hc:=gK 1 2 w4 (by decide) (by decide) (by decide) (by decide) (by decide);refine hc.mono ?_;clear hc
 rintro e w5 ⟨sd,Ad,nd,cd,td,Bd,md,dd,rfl,hd,hb⟩
 replace hE:=hE.step hb;clear hb;skip;replace hE:=hE.fv hd;clear hd;go_wp2_with fail
 obtain⟨g6,pI⟩:∃g6,g6=w5.heap.size:=⟨_,rfl⟩
 have ZB:w.heap.size<g6:=by rw[pI];exact(hE.h5).lt
 have xY:g3<g6:=by rw[pI];exact(hE.h2).lt
 replace hE:=hE.blk 29 #[.bool sc,.slice Ac nc cc,.bool tc,.slice Bc mc dc,.bool sd,.slice Ad nd cd,.bool td,.slice Bd md dd] (g:=g6) pI.symm;generalize w5.alloc (.cells #[.bool sc,.slice Ac nc cc,.bool tc,.slice Bc mc dc,.bool sd,.slice Ad nd cd,.bool td,.slice Bd md dd] 29)=W6 at hE⊢;rw[<-pI];clear pI;have hc:=gK 1 4 W6 (by decide) (by decide) (by decide) (by decide) (by decide);refine hc.mono ?_;clear hc
 rintro e w7 ⟨se,Ae,ne,ce,te,Be,me,de,rfl,he,hb⟩
 replace hE:=hE.step hb;clear hb;skip;replace hE:=hE.fv he;clear he;go_wp2_with fail
 have hc:=gK 1 1 w7 (by decide) (by decide) (by decide) (by decide) (by decide);refine hc.mono ?_;clear hc
 rintro e w8 ⟨sf,Af,nf,cf,tf,Bf,mf,df,rfl,hf,hb⟩
 replace hE:=hE.step hb;clear hb;skip;replace hE:=hE.fv hf;clear hf
 go_upto_region 2 with(fail)
 obtain⟨g9,Gn⟩:∃g,g=w8.heap.size:=⟨_,rfl⟩
 have ZD:w.heap.size<g9:=by rw[Gn];exact(hE.h8).lt
 have Pv:g3<g9:=by rw[Gn];exact(hE.h5).lt
 have aqS:g6<g9:=by rw[Gn];exact(hE.h2).lt
 replace hE:=(((hE.blk 29 #[.bool se,.slice Ae ne ce,.bool te,.slice Be me de,.bool sf,.slice Af nf cf,.bool tf,.slice Bf mf df] (g:=g9) Gn.symm).blk 39 #[.slice (some ⟨g3,0,none⟩) 2 2,.slice (some ⟨g6,0,none⟩) 2 2,.slice (some ⟨w8.heap.size,0,none⟩) 2 2] (g:=g9+1) (by simp[Gn])).blk 24 #[.int .i64 60,.int .i64 1,.slice (some ⟨w8.heap.size+1,0,none⟩) 3 3] (g:=g9+1+1) (by simp[Gn]));generalize (((w8.alloc (.cells #[.bool se,.slice Ae ne ce,.bool te,.slice Be me de,.bool sf,.slice Af nf cf,.bool tf,.slice Bf mf df] 29)).alloc (.cells #[.slice (some ⟨g3,0,none⟩) 2 2,.slice (some ⟨g6,0,none⟩) 2 2,.slice (some ⟨w8.heap.size,0,none⟩) 2 2] 39)).alloc (.cells #[.int .i64 60,.int .i64 1,.slice (some ⟨w8.heap.size+1,0,none⟩) 3 3] 24))=V9 at hE⊢;rw[<-Gn] at hE⊢;clear Gn;go_wp2_with fail
 have hc:=gK 100 1 V9 (by decide) (by decide) (by decide) (by decide) (by decide);refine hc.mono ?_;clear hc
 rintro e rU ⟨sp,Ap,np,cp,tp,Bp,mp,dp,rfl,hp,hb⟩
 replace hE:=hE.step hb;clear hb;skip;replace hE:=hE.fv hp;clear hp
 go_upto_region 3 with(fail)
 obtain⟨g11,oh⟩:∃g,g=rU.heap.size:=⟨_,rfl⟩
 have Ox:w.heap.size<g11:=by rw[oh];exact(hE.h12).lt
 have acS:g3<g11:=by rw[oh];exact(hE.h9).lt
 have aob:g6<g11:=by rw[oh];exact(hE.h6).lt
 have acT:g9<g11:=by rw[oh];exact(hE.h3).lt
 have Wf:g9+1<g11:=by rw[oh];exact(hE.h2).lt
 have ak0:g9+1+1<g11:=by rw[oh];exact(hE.g1).lt
 replace hE:=(((hE.blk 3 #[.int .i64 0,.int .i64 0,.int .i64 500] (g:=g11) oh.symm).blk 3 #[.int .i64 1000,.int .i64 1000,.int .i64 1000] (g:=g11+1) (by simp[oh])).blk 36 #[.int .i64 60,.int .i64 0,.int .i64 2,.bool sp,.slice Ap np cp,.bool tp,.slice Bp mp dp,.slice (some ⟨rU.heap.size,0,none⟩) 3 3,.slice (some ⟨rU.heap.size+1,0,none⟩) 3 3] (g:=g11+1+1) (by simp[oh]));generalize (((rU.alloc (.cells #[.int .i64 0,.int .i64 0,.int .i64 500] 3)).alloc (.cells #[.int .i64 1000,.int .i64 1000,.int .i64 1000] 3)).alloc (.cells #[.int .i64 60,.int .i64 0,.int .i64 2,.bool sp,.slice Ap np cp,.bool tp,.slice Bp mp dp,.slice (some ⟨rU.heap.size,0,none⟩) 3 3,.slice (some ⟨rU.heap.size+1,0,none⟩) 3 3] 36))=V11 at hE⊢;rw[<-oh] at hE⊢;clear oh;replace hE:=hE.drew;refine bH (S:=fun V=>au 24 (g9+1+1) #[.int .i64 60,.int .i64 1,.slice (some ⟨g9+1,0,none⟩) 3 3] V) (by kernel_rfl) (hE.h4) (fun hHeld=> ?_)
 generalize V11.drew=wd at*
 apply Gd;intro ZM
 ·
  refine tk 0 ?_ (hy:=by
   intro w aG;have nR:=(aG).cell 0;have qL:=(aG).cell 1;have rS:=(aG).cell 2;clear aG
   first|(go_simp;done)|(go_simp;with_reducible rfl))
  try simp only[PL]
  refine cC (rs:=[1,3]) (by kernel_rfl) (by simp) (bq rfl (fun K hK=> ?_) (bq rfl (fun K hK=> ?_) (cD)))
  ·
   go_simp;refine(gK 1 4 _ (by decide) (by decide) (by decide) (by decide) (by decide)).mono ?_
   rintro e On ⟨si,Ai,ni,ci,ti,Bi,mi,di,rfl,hi,hb⟩
   replace hE:=hE.step hb;clear hb;skip;replace hE:=hE.fv hi;clear hi;go_wp2_with fail
   refine hK.out _ _ (hE.h5) (fun hHeld=> ?_);clear hK K;try simp only[PL]
   refine tk 2 ?_;refine r1 3 (fun K hK=> ?_);go_simp
   obtain⟨G3,hG⟩:∃g,g=On.heap.size:=⟨_,rfl⟩
   have Qd:w.heap.size<=G3:=by rw[hG];exact hE.ax.size
   have Jh:w.heap.size<G3:=by rw[hG];exact(hE.g16).lt
   have Ji:g3<G3:=by rw[hG];exact(hE.dN).lt
   have Jj:g6<G3:=by rw[hG];exact(hE.h10).lt
   have Jk:g9<G3:=by rw[hG];exact(hE.h7).lt
   have Jl:g9+1<G3:=by rw[hG];exact(hE.h6).lt
   have Jm:g9+1+1<G3:=by rw[hG];exact(hE.h5).lt
   have Jn:g11<G3:=by rw[hG];exact(hE.h3).lt
   have Jo:g11+1<G3:=by rw[hG];exact(hE.h2).lt
   have Jq:g11+1+1<G3:=by rw[hG];exact(hE.g1).lt
   replace hE:=hE.blk 31 #[.int .i64 0,.int .i64 0,.slice none 0 0,.bool false,.slice none 0 0,.bool false,.slice none 0 0] (g:=G3) hG.symm;generalize On.alloc (.cells #[.int .i64 0,.int .i64 0,.slice none 0 0,.bool false,.slice none 0 0,.bool false,.slice none 0 0] 31)=WA at hE⊢;rw[<-hG];clear hG;refine hK.out _ _ (hE.h6) (fun hHeld=> ?_);clear hK K;try simp only[PL]
   refine r1 4 (fun K hK=> ?_)
   have tI:w.heap.size<=G3:=by omega
   have ig:=(mO [.int .i64 60,.int .i64 1,.slice (some ⟨g9+1,0,none⟩) 3 3,.bool si,.slice Ai ni ci,.bool ti,.slice Bi mi di] 0 WA ⟨_,hE.g0,rfl⟩).1;change WA.grownBy (((((((WA.setCell ⟨G3,0,none⟩ (.int .i64 60)).setCell ⟨G3,1,none⟩ (.int .i64 1)).setCell ⟨G3,2,none⟩ (.slice (some ⟨g9+1,0,none⟩) 3 3)).setCell ⟨G3,3,none⟩ (.bool si)).setCell ⟨G3,4,none⟩ (.slice Ai ni ci)).setCell ⟨G3,5,none⟩ (.bool ti)).setCell ⟨G3,6,none⟩ (.slice Bi mi di)) _ at ig;have Db:=(hE.g0).cell 0;have Df:=(hE.g0).frozen 0;have Dc:=(hE.g0).cell 1;have Dg:=(hE.g0).frozen 1;have Dd:=(hE.g0).cell 2;have Dh:=(hE.g0).frozen 2;have De:=(hE.g0).cell 3;have Dk:=(hE.g0).frozen 3;have ahP:=(hE.g0).cell 4;have ahQ:=(hE.g0).frozen 4;have ahR:=(hE.g0).cell 5;have ahS:=(hE.g0).frozen 5;have ahT:=(hE.g0).cell 6;have ahU:=(hE.g0).frozen 6;replace hE:=(((((((((((((((((((Env.again (Go.Proofs.YtclbiihcbfnjmaaGreat.Below.aD hE.ax ig hE.ax.size tI)).ag (au.aD (hE.g17) ig (by omega))).fv ((hE.g16).aD (hE.g0) rfl ig)).fv ((hE.g15).aD (hE.g0) rfl ig)).ag (au.aD (hE.g14) ig (by omega))).fv ((hE.dN).aD (hE.g0) rfl ig)).fv ((hE.h12).aD (hE.g0) rfl ig)).ag (au.aD (hE.h11) ig (by omega))).fv ((hE.h10).aD (hE.g0) rfl ig)).fv ((hE.h9).aD (hE.g0) rfl ig)).ag (au.aD (hE.h8) ig (by omega))).ag (au.aD (hE.h7) ig (by omega))).ag (au.aD (hE.h6) ig (by omega))).fv ((hE.h5).aD (hE.g0) rfl ig)).ag (au.aD (hE.h4) ig (by omega))).ag (au.aD (hE.h3) ig (by omega))).ag (au.aD (hE.h2) ig (by omega))).fv ((hE.g1).aD (hE.g0) rfl ig)).ag (show au 31 G3 #[.int .i64 60,.int .i64 1,.slice (some ⟨g9+1,0,none⟩) 3 3,.bool si,.slice Ai ni ci,.bool ti,.slice Bi mi di] _ by simpa using((((((((((((((hE.g0).dZ 0 (.int .i64 60))).dZ 1 (.int .i64 1))).dZ 2 (.slice (some ⟨g9+1,0,none⟩) 3 3))).dZ 3 (.bool si))).dZ 4 (.slice Ai ni ci))).dZ 5 (.bool ti))).dZ 6 (.slice Bi mi di))));go_simp;clear Db Df Dc Dg Dd Dh De Dk ahP ahQ ahR ahS ahT ahU tI ig;generalize (((((((WA.setCell ⟨G3,0,none⟩ (.int .i64 60)).setCell ⟨G3,1,none⟩ (.int .i64 1)).setCell ⟨G3,2,none⟩ (.slice (some ⟨g9+1,0,none⟩) 3 3)).setCell ⟨G3,3,none⟩ (.bool si)).setCell ⟨G3,4,none⟩ (.slice Ai ni ci)).setCell ⟨G3,5,none⟩ (.bool ti)).setCell ⟨G3,6,none⟩ (.slice Bi mi di))=V13 at hE⊢;refine hK.out _ _ (hE.h6) (fun hHeld=> ?_);clear hK K;try simp only[PL]
   have dD:=(((((((((((((((((((Env.again hE.ax).ag (hE.g17)).fv (hE.g16)).fv (hE.g15)).ag (hE.g14)).fv (hE.dN)).fv (hE.h12)).ag (hE.h11)).fv (hE.h10)).fv (hE.h9)).ag (hE.h8)).ag (hE.h7)).ag (hE.h6)).fv (hE.h5)).ag (hE.h4)).ag (hE.h3)).ag (hE.h2)).fv (hE.g1)).ag (hE.g0));clear hE hHeld
   revert dD;revert Jq;revert Jo;revert Jn;revert Jm;revert Jl;revert Jk;revert Jj;revert Ji;revert Jh;revert Qd;revert V13;revert G3;revert di;revert mi;revert Bi;revert ti;revert ci;revert ni;revert Ai;revert si
   exact ZM.out
  ·
   go_simp
   obtain⟨G3,hG⟩:∃g,g=wd.heap.size:=⟨_,rfl⟩
   have Qd:w.heap.size<=G3:=by rw[hG];exact hE.ax.size
   have Jh:w.heap.size<G3:=by rw[hG];exact(hE.g15).lt
   have Ji:g3<G3:=by rw[hG];exact(hE.h12).lt
   have Jj:g6<G3:=by rw[hG];exact(hE.h9).lt
   have Jk:g9<G3:=by rw[hG];exact(hE.h6).lt
   have Jl:g9+1<G3:=by rw[hG];exact(hE.h5).lt
   have Jm:g9+1+1<G3:=by rw[hG];exact(hE.h4).lt
   have Jn:g11<G3:=by rw[hG];exact(hE.h2).lt
   have Jo:g11+1<G3:=by rw[hG];exact(hE.g1).lt
   have Jq:g11+1+1<G3:=by rw[hG];exact(hE.g0).lt
   replace hE:=hE.blk 31 #[.int .i64 0,.int .i64 0,.slice none 0 0,.bool false,.slice none 0 0,.bool false,.slice none 0 0] (g:=G3) hG.symm;generalize wd.alloc (.cells #[.int .i64 0,.int .i64 0,.slice none 0 0,.bool false,.slice none 0 0,.bool false,.slice none 0 0] 31)=WA at hE⊢;rw[<-hG];clear hG;refine hK.out _ _ (hE.h5) (fun hHeld=> ?_);clear hK K;try simp only[PL]
   refine r1 1 (fun K hK=> ?_);go_simp;refine(gK 1 4 _ (by decide) (by decide) (by decide) (by decide) (by decide)).mono ?_
   rintro e FC ⟨si,Ai,ni,ci,ti,Bi,mi,di,rfl,hi,hb⟩
   replace hE:=hE.step hb;clear hb;skip;replace hE:=hE.fv hi;clear hi;go_wp2_with fail
   refine hK.out _ _ (hE.h6) (fun hHeld=> ?_);clear hK K;try simp only[PL]
   refine tk 2 ?_;refine r1 4 (fun K hK=> ?_)
   have tJ:w.heap.size<=G3:=by omega
   have ij:=(mO [.int .i64 60,.int .i64 1,.slice (some ⟨g9+1,0,none⟩) 3 3,.bool si,.slice Ai ni ci,.bool ti,.slice Bi mi di] 0 FC ⟨_,hE.g1,rfl⟩).1;change FC.grownBy (((((((FC.setCell ⟨G3,0,none⟩ (.int .i64 60)).setCell ⟨G3,1,none⟩ (.int .i64 1)).setCell ⟨G3,2,none⟩ (.slice (some ⟨g9+1,0,none⟩) 3 3)).setCell ⟨G3,3,none⟩ (.bool si)).setCell ⟨G3,4,none⟩ (.slice Ai ni ci)).setCell ⟨G3,5,none⟩ (.bool ti)).setCell ⟨G3,6,none⟩ (.slice Bi mi di)) _ at ij;have Dm:=(hE.g1).cell 0;have Dp:=(hE.g1).frozen 0;have Dn:=(hE.g1).cell 1;have Dr:=(hE.g1).frozen 1;have OX:=(hE.g1).cell 2;have OZ:=(hE.g1).frozen 2;have OY:=(hE.g1).cell 3;have Pa:=(hE.g1).frozen 3;have ahV:=(hE.g1).cell 4;have ahW:=(hE.g1).frozen 4;have ahX:=(hE.g1).cell 5;have ahY:=(hE.g1).frozen 5;have ahZ:=(hE.g1).cell 6;have ah0:=(hE.g1).frozen 6;replace hE:=(((((((((((((((((((Env.again (Go.Proofs.YtclbiihcbfnjmaaGreat.Below.aD hE.ax ij hE.ax.size tJ)).ag (au.aD (hE.g17) ij (by omega))).fv ((hE.g16).aD (hE.g1) rfl ij)).fv ((hE.g15).aD (hE.g1) rfl ij)).ag (au.aD (hE.g14) ij (by omega))).fv ((hE.dN).aD (hE.g1) rfl ij)).fv ((hE.h12).aD (hE.g1) rfl ij)).ag (au.aD (hE.h11) ij (by omega))).fv ((hE.h10).aD (hE.g1) rfl ij)).fv ((hE.h9).aD (hE.g1) rfl ij)).ag (au.aD (hE.h8) ij (by omega))).ag (au.aD (hE.h7) ij (by omega))).ag (au.aD (hE.h6) ij (by omega))).fv ((hE.h5).aD (hE.g1) rfl ij)).ag (au.aD (hE.h4) ij (by omega))).ag (au.aD (hE.h3) ij (by omega))).ag (au.aD (hE.h2) ij (by omega))).ag (show au 31 G3 #[.int .i64 60,.int .i64 1,.slice (some ⟨g9+1,0,none⟩) 3 3,.bool si,.slice Ai ni ci,.bool ti,.slice Bi mi di] _ by simpa using((((((((((((((hE.g1).dZ 0 (.int .i64 60))).dZ 1 (.int .i64 1))).dZ 2 (.slice (some ⟨g9+1,0,none⟩) 3 3))).dZ 3 (.bool si))).dZ 4 (.slice Ai ni ci))).dZ 5 (.bool ti))).dZ 6 (.slice Bi mi di)))).fv ((hE.g0).aD (hE.g1) rfl ij));go_simp;clear Dm Dp Dn Dr OX OZ OY Pa ahV ahW ahX ahY ahZ ah0 tJ ij;generalize (((((((FC.setCell ⟨G3,0,none⟩ (.int .i64 60)).setCell ⟨G3,1,none⟩ (.int .i64 1)).setCell ⟨G3,2,none⟩ (.slice (some ⟨g9+1,0,none⟩) 3 3)).setCell ⟨G3,3,none⟩ (.bool si)).setCell ⟨G3,4,none⟩ (.slice Ai ni ci)).setCell ⟨G3,5,none⟩ (.bool ti)).setCell ⟨G3,6,none⟩ (.slice Bi mi di))=V15 at hE⊢;refine hK.out _ _ (hE.h6) (fun hHeld=> ?_);clear hK K;try simp only[PL]
   have dD:=(((((((((((((((((((Env.again hE.ax).ag (hE.g17)).fv (hE.g16)).fv (hE.g15)).ag (hE.g14)).fv (hE.dN)).fv (hE.h12)).ag (hE.h11)).fv (hE.h10)).fv (hE.h9)).ag (hE.h8)).ag (hE.h7)).ag (hE.h6)).fv (hE.h5)).ag (hE.h4)).ag (hE.h3)).ag (hE.h2)).fv (hE.g0)).ag (hE.g1));clear hE hHeld;exact ZM.out si Ai ni ci ti Bi mi di G3 V15 Qd Jh Ji Jj Jk Jl Jm Jn Jo Jq dD
 ·
  intro si Ai ni ci ti Bi mi di G3 wJ Qd Jh Ji Jj Jk Jl Jm Jn Jo Jq hE;have hHeld:(fun V=>au 24 (g9+1+1) #[.int .i64 60,.int .i64 1,.slice (some ⟨g9+1,0,none⟩) 3 3] V) wJ:=hE.h6;refine aX (by kernel_rfl) ?_ _
  go_upto_region 4 with(fail)
  replace hE:=hE.drew;refine bH (S:=fun V=>au 31 (G3) #[.int .i64 60,.int .i64 1,.slice (some ⟨g9+1,0,none⟩) 3 3,.bool si,.slice Ai ni ci,.bool ti,.slice Bi mi di] V/\au 36 (g11+1+1) #[.int .i64 60,.int .i64 0,.int .i64 2,.bool sp,.slice Ap np cp,.bool tp,.slice Bp mp dp,.slice (some ⟨g11,0,none⟩) 3 3,.slice (some ⟨g11+1,0,none⟩) 3 3] V) (by kernel_rfl) (⟨hE.g0,hE.h2⟩) (fun hHeld=> ?_)
  generalize wJ.drew=wd at*
  apply Gd;intro CQ
  ·
   refine tk 0 ?_ (hy:=by
    intro w aG;have nR:=(aG.1).cell 0;have qL:=(aG.1).cell 1;have rS:=(aG.1).cell 2;have qR:=(aG.1).cell 3;have Zi:=(aG.1).cell 4;have Zj:=(aG.1).cell 5;have Zk:=(aG.1).cell 6;clear aG
    first|(go_simp;done)|(go_simp;with_reducible rfl))
   try simp only[PL]
   refine tk 1 ?_ (hy:=by
    intro w aG;have nR:=(aG.1).cell 0;have qL:=(aG.1).cell 1;have rS:=(aG.1).cell 2;have qR:=(aG.1).cell 3;have Zi:=(aG.1).cell 4;have Zj:=(aG.1).cell 5;have Zk:=(aG.1).cell 6;clear aG
    first|(go_simp;done)|(go_simp;with_reducible rfl))
   try simp only[PL]
   refine tk 3 ?_ (hy:=by
    intro w aG;have nR:=(aG.2).cell 0;have qL:=(aG.2).cell 1;have rS:=(aG.2).cell 2;have qR:=(aG.2).cell 3;have Zi:=(aG.2).cell 4;have Zj:=(aG.2).cell 5;have Zk:=(aG.2).cell 6;have kc7:=(aG.2).cell 7;have kc8:=(aG.2).cell 8;clear aG
    first|(go_simp;done)|(go_simp;with_reducible rfl))
   try simp only[PL]
   refine tk 4 ?_;refine cC (rs:=[2,5]) (by kernel_rfl) (by simp) (bq rfl (fun K hK=> ?_) (bq rfl (fun K hK=> ?_) (cD)))
   ·
    go_simp;refine(gK 1 2 _ (by decide) (by decide) (by decide) (by decide) (by decide)).mono ?_
    rintro e FD ⟨sj,Aj,nj,cj,tj,Bj,mj,dj,rfl,hj,hb⟩
    replace hE:=hE.step hb;clear hb;skip;replace hE:=hE.fv hj;clear hj;go_wp2_with fail
    refine hK.out _ _ (⟨hE.g1,hE.h3⟩) (fun hHeld=> ?_);clear hK K;try simp only[PL]
    refine r1 5 (fun K hK=> ?_);go_simp
    obtain⟨G5,hG⟩:∃g,g=FD.heap.size:=⟨_,rfl⟩
    have hw5:w.heap.size<=G5:=by rw[hG];exact hE.ax.size
    have Jr:w.heap.size<G5:=by rw[hG];exact(hE.g18).lt
    have Js:g3<G5:=by rw[hG];exact(hE.g15).lt
    have Jt:g6<G5:=by rw[hG];exact(hE.h12).lt
    have Ju:g9<G5:=by rw[hG];exact(hE.h9).lt
    have Jv:g9+1<G5:=by rw[hG];exact(hE.h8).lt
    have Jw:g9+1+1<G5:=by rw[hG];exact(hE.h7).lt
    have Jy:g11<G5:=by rw[hG];exact(hE.h5).lt
    have Jz:g11+1<G5:=by rw[hG];exact(hE.h4).lt
    have JA:g11+1+1<G5:=by rw[hG];exact(hE.h3).lt
    have JB:G3<G5:=by rw[hG];exact(hE.g1).lt
    replace hE:=hE.blk 72 #[.int .i64 60,.int .i64 0,.int .i64 2,.bool sp,.slice Ap np cp,.bool tp,.slice Bp mp dp,.slice (some ⟨g11,0,none⟩) 3 3,.slice (some ⟨g11+1,0,none⟩) 3 3,.int .i64 0,.int .i64 10,.int .i64 2] (g:=G5) hG.symm;generalize FD.alloc (.cells #[.int .i64 60,.int .i64 0,.int .i64 2,.bool sp,.slice Ap np cp,.bool tp,.slice Bp mp dp,.slice (some ⟨g11,0,none⟩) 3 3,.slice (some ⟨g11+1,0,none⟩) 3 3,.int .i64 0,.int .i64 10,.int .i64 2] 72)=WA at hE⊢;rw[<-hG];clear hG;refine hK.out _ _ (⟨hE.h2,hE.h4⟩) (fun hHeld=> ?_);clear hK K;try simp only[PL]
    have dD:=(((((((((((((((((((((Env.again hE.ax).ag (hE.g19)).fv (hE.g18)).fv (hE.g17)).ag (hE.g16)).fv (hE.g15)).fv (hE.g14)).ag (hE.dN)).fv (hE.h12)).fv (hE.h11)).ag (hE.h10)).ag (hE.h9)).ag (hE.h8)).fv (hE.h7)).ag (hE.h6)).ag (hE.h5)).ag (hE.h4)).fv (hE.h3)).ag (hE.h2)).fv (hE.g1)).ag (hE.g0));clear hE hHeld
    revert dD;revert JB;revert JA;revert Jz;revert Jy;revert Jw;revert Jv;revert Ju;revert Jt;revert Js;revert Jr;revert hw5;revert WA;revert G5;revert dj;revert mj;revert Bj;revert tj;revert cj;revert nj;revert Aj;revert sj
    exact CQ.out
   ·
    go_simp
    obtain⟨G5,hG⟩:∃g,g=wd.heap.size:=⟨_,rfl⟩
    have hw5:w.heap.size<=G5:=by rw[hG];exact hE.ax.size
    have Jr:w.heap.size<G5:=by rw[hG];exact(hE.g17).lt
    have Js:g3<G5:=by rw[hG];exact(hE.g14).lt
    have Jt:g6<G5:=by rw[hG];exact(hE.h11).lt
    have Ju:g9<G5:=by rw[hG];exact(hE.h8).lt
    have Jv:g9+1<G5:=by rw[hG];exact(hE.h7).lt
    have Jw:g9+1+1<G5:=by rw[hG];exact(hE.h6).lt
    have Jy:g11<G5:=by rw[hG];exact(hE.h4).lt
    have Jz:g11+1<G5:=by rw[hG];exact(hE.h3).lt
    have JA:g11+1+1<G5:=by rw[hG];exact(hE.h2).lt
    have JB:G3<G5:=by rw[hG];exact(hE.g0).lt
    replace hE:=hE.blk 72 #[.int .i64 60,.int .i64 0,.int .i64 2,.bool sp,.slice Ap np cp,.bool tp,.slice Bp mp dp,.slice (some ⟨g11,0,none⟩) 3 3,.slice (some ⟨g11+1,0,none⟩) 3 3,.int .i64 0,.int .i64 10,.int .i64 2] (g:=G5) hG.symm;generalize wd.alloc (.cells #[.int .i64 60,.int .i64 0,.int .i64 2,.bool sp,.slice Ap np cp,.bool tp,.slice Bp mp dp,.slice (some ⟨g11,0,none⟩) 3 3,.slice (some ⟨g11+1,0,none⟩) 3 3,.int .i64 0,.int .i64 10,.int .i64 2] 72)=WA at hE⊢;rw[<-hG];clear hG;refine hK.out _ _ (⟨hE.g1,hE.h3⟩) (fun hHeld=> ?_);clear hK K;try simp only[PL]
    refine r1 2 (fun K hK=> ?_);go_simp;refine(gK 1 2 _ (by decide) (by decide) (by decide) (by decide) (by decide)).mono ?_
    rintro e Gc ⟨sj,Aj,nj,cj,tj,Bj,mj,dj,rfl,hj,hb⟩
    replace hE:=hE.step hb;clear hb;skip;replace hE:=hE.fv hj;clear hj;go_wp2_with fail
    refine hK.out _ _ (⟨hE.h2,hE.h4⟩) (fun hHeld=> ?_);clear hK K;try simp only[PL]
    have dD:=(((((((((((((((((((((Env.again hE.ax).ag (hE.g19)).fv (hE.g18)).fv (hE.g17)).ag (hE.g16)).fv (hE.g15)).fv (hE.g14)).ag (hE.dN)).fv (hE.h12)).fv (hE.h11)).ag (hE.h10)).ag (hE.h9)).ag (hE.h8)).fv (hE.h7)).ag (hE.h6)).ag (hE.h5)).ag (hE.h4)).fv (hE.h3)).ag (hE.h2)).fv (hE.g0)).ag (hE.g1));clear hE hHeld;exact CQ.out sj Aj nj cj tj Bj mj dj G5 Gc hw5 Jr Js Jt Ju Jv Jw Jy Jz JA JB dD
  ·
   intro sj Aj nj cj tj Bj mj dj G5 wJ hw5 Jr Js Jt Ju Jv Jw Jy Jz JA JB hE;have hHeld:(fun V=>au 31 (G3) #[.int .i64 60,.int .i64 1,.slice (some ⟨g9+1,0,none⟩) 3 3,.bool si,.slice Ai ni ci,.bool ti,.slice Bi mi di] V/\au 36 (g11+1+1) #[.int .i64 60,.int .i64 0,.int .i64 2,.bool sp,.slice Ap np cp,.bool tp,.slice Bp mp dp,.slice (some ⟨g11,0,none⟩) 3 3,.slice (some ⟨g11+1,0,none⟩) 3 3] V) wJ:=⟨hE.h2,hE.h4⟩;refine tk 6 ?_;refine r1 7 (fun K hK=> ?_);have hst:=oK 67 (hE.g19) [.int .i64 60,.int .i64 1,.slice (some ⟨g9+1,0,none⟩) 3 3,.bool si,.slice Ai ni ci,.bool ti,.slice Bi mi di,.int .i64 60,.int .i64 1,.slice (some ⟨g9+1,0,none⟩) 3 3,.bool si,.slice Ai ni ci,.bool ti,.slice Bi mi di,.bool sj,.slice Aj nj cj,.bool tj,.slice Bj mj dj,.slice (some ⟨G5,0,none⟩) 1 1] rfl (by kernel_rfl) (Li rfl);obtain⟨eE,vk⟩:=oo (hE.g19) [.int .i64 60,.int .i64 1,.slice (some ⟨g9+1,0,none⟩) 3 3,.bool si,.slice Ai ni ci,.bool ti,.slice Bi mi di,.int .i64 60,.int .i64 1,.slice (some ⟨g9+1,0,none⟩) 3 3,.bool si,.slice Ai ni ci,.bool ti,.slice Bi mi di,.bool sj,.slice Aj nj cj,.bool tj,.slice Bj mj dj,.slice (some ⟨G5,0,none⟩) 1 1] rfl;have aM:=Go.Proofs.YtclbiihcbfnjmaaGreat.Below.aD hE.ax eE hE.ax.size (aq _);have dD:=(((((((((((((((((((((Env.again aM).ag vk).fv (FV.aD (hE.g18) (hE.g19) rfl eE)).fv (FV.aD (hE.g17) (hE.g19) rfl eE)).ag (au.aD (hE.g16) eE (by omega))).fv (FV.aD (hE.g15) (hE.g19) rfl eE)).fv (FV.aD (hE.g14) (hE.g19) rfl eE)).ag (au.aD (hE.dN) eE (by omega))).fv (FV.aD (hE.h12) (hE.g19) rfl eE)).fv (FV.aD (hE.h11) (hE.g19) rfl eE)).ag (au.aD (hE.h10) eE (by omega))).ag (au.aD (hE.h9) eE (by omega))).ag (au.aD (hE.h8) eE (by omega))).fv (FV.aD (hE.h7) (hE.g19) rfl eE)).ag (au.aD (hE.h6) eE (by omega))).ag (au.aD (hE.h5) eE (by omega))).ag (au.aD (hE.h4) eE (by omega))).fv (FV.aD (hE.h3) (hE.g19) rfl eE)).ag (au.aD (hE.h2) eE (by omega))).fv (FV.aD (hE.g1) (hE.g19) rfl eE)).ag (au.aD (hE.g0) eE (by omega)))
   generalize hU:World.setCells _ w.heap.size 0 [.int .i64 60,.int .i64 1,.slice (some ⟨g9+1,0,none⟩) 3 3,.bool si,.slice Ai ni ci,.bool ti,.slice Bi mi di,.int .i64 60,.int .i64 1,.slice (some ⟨g9+1,0,none⟩) 3 3,.bool si,.slice Ai ni ci,.bool ti,.slice Bi mi di,.bool sj,.slice Aj nj cj,.bool tj,.slice Bj mj dj,.slice (some ⟨G5,0,none⟩) 1 1]=U at*
   have Gj:=af dD;clear dD eE vk aM hU;refine Eq.mpr (if_pos (by rfl)) ?_;refine AA hst rfl rfl rfl ?_;replace hE:=Gj.out;clear Gj hst;refine hK.out _ _ (⟨hE.h2,hE.h4⟩) (fun hHeld=> ?_);clear hK K;try simp only[PL]
   refine aX (by kernel_rfl) ?_ _;go_wp2_with fail
   refine aK (v:= .agg #[.int .i64 60,.int .i64 1,.slice (some ⟨g9+1,0,none⟩) 3 3,.bool si,.slice Ai ni ci,.bool ti,.slice Bi mi di,.int .i64 60,.int .i64 1,.slice (some ⟨g9+1,0,none⟩) 3 3,.bool si,.slice Ai ni ci,.bool ti,.slice Bi mi di,.bool sj,.slice Aj nj cj,.bool tj,.slice Bj mj dj,.slice (some ⟨G5,0,none⟩) 1 1]) (qU Tryz.results89 rfl (run_loadVar_mid _ _ 0 _ [.int .i64 60,.int .i64 1,.slice (some ⟨g9+1,0,none⟩) 3 3,.bool si,.slice Ai ni ci,.bool ti,.slice Bi mi di,.int .i64 60,.int .i64 1,.slice (some ⟨g9+1,0,none⟩) 3 3,.bool si,.slice Ai ni ci,.bool ti,.slice Bi mi di,.bool sj,.slice Aj nj cj,.bool tj,.slice Bj mj dj,.slice (some ⟨G5,0,none⟩) 1 1] _ (fun j v hv=>by rw[fk,(hE.g19).cell j,mI];exact hv) Tryz.underlying67 rfl (by kernel_rfl))) rfl ?_;have hT:eZ U (some ⟨g9+1,0,none⟩) 3 (adi (rowOf g3 (bU (Rat.divInt 1 10) sa Aa na ca ta Ba ma da) (bU (Rat.divInt 1 5) sb Ab nb cb tb Bb mb db)) (rowOf g6 (bU (Rat.divInt 1 8) sc Ac nc cc tc Bc mc dc) (bU (Rat.divInt 1 2) sd Ad nd cd td Bd md dd)) (rowOf g9 (bU (Rat.divInt 1 4) se Ae ne ce te Be me de) (bU (Rat.divInt 1 1) sf Af nf cf tf Bf mf df))):=Wm (T:= 39) (hE.h9) (AO (hE.g16) (bU.yy (hE.g18)) (bU.yy (hE.g17))) (AO (hE.dN) (bU.yy (hE.g15)) (bU.yy (hE.g14))) (AO (hE.h10) (bU.yy (hE.h12)) (bU.yy (hE.h11)))
   have hok:DR 60 1 3 (adi (rowOf g3 (bU (Rat.divInt 1 10) sa Aa na ca ta Ba ma da) (bU (Rat.divInt 1 5) sb Ab nb cb tb Bb mb db)) (rowOf g6 (bU (Rat.divInt 1 8) sc Ac nc cc tc Bc mc dc) (bU (Rat.divInt 1 2) sd Ad nd cd td Bd md dd)) (rowOf g9 (bU (Rat.divInt 1 4) se Ae ne ce te Be me de) (bU (Rat.divInt 1 1) sf Af nf cf tf Bf mf df))):=by
    refine⟨⟨⟨by decide,by decide⟩,by decide,by decide⟩,⟨by decide,by decide⟩,fun i hi=> ?_, ?_⟩
    ·
     rcases(show i=0\/i=1\/i=2 by omega) with rfl|rfl|rfl
     ·exact vK (bU.rate (hE.g18) (cP (by decide+kernel)).1 (cP (by decide+kernel)).2.1 (cP (by decide+kernel)).2.2) (bU.rate (hE.g17) (cP (by decide+kernel)).1 (cP (by decide+kernel)).2.1 (cP (by decide+kernel)).2.2)
     ·exact vK (bU.rate (hE.g15) (cP (by decide+kernel)).1 (cP (by decide+kernel)).2.1 (cP (by decide+kernel)).2.2) (bU.rate (hE.g14) (cP (by decide+kernel)).1 (cP (by decide+kernel)).2.1 (cP (by decide+kernel)).2.2)
     ·exact vK (bU.rate (hE.h12) (cP (by decide+kernel)).1 (cP (by decide+kernel)).2.1 (cP (by decide+kernel)).2.2) (bU.rate (hE.h11) (cP (by decide+kernel)).1 (cP (by decide+kernel)).2.1 (cP (by decide+kernel)).2.2)
    ·exact(bU.xw (hE.h11)).trans (by decide+kernel)
   have aoc:rR (some ⟨g11,0,none⟩) 3 AK U:=fun k hk=>⟨_,_,rfl,by rw[fk];exact At.iN (hE.h6) k (by rcases(show k=0\/k=1\/k=2 by omega) with rfl|rfl|rfl<;>rfl)⟩
   have aod:rR (some ⟨g11+1,0,none⟩) 3 AL U:=fun k hk=>⟨_,_,rfl,by rw[fk];exact At.iN (hE.h5) k (by rcases(show k=0\/k=1\/k=2 by omega) with rfl|rfl|rfl<;>rfl)⟩
   have hG:=hE.g0;exact Lj (A:=some ⟨g9+1,0,none⟩) (c:=3) hT hok ⟨bU.xw (hE.g18),bU.xw (hE.g17),bU.xw (hE.g15),bU.xw (hE.g14),bU.xw (hE.h12),bU.xw (hE.h11)⟩ (hE.h7) (hE.h3) (hE.g1) aoc aod hG hE.ax
end Go.Proofs.YtclbiihcbfnjmaaGreat
