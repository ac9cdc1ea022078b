/-
  Parts.
-/
import Derived.Test.YtclbiihcbfnjmaaGreatK1
import Derived.Deep.DeepCutAuto
import Derived.Deep.CutBlock
import Derived.Test.YtclbiihcbfnjmaaGreatShelf
set_option maxRecDepth 100000
set_option maxHeartbeats 2000000
namespace Go.Proofs.YtclbiihcbfnjmaaGreat
section
open Go.RowKit

theorem Ff {w:World}(n:Nat)(r:Option Nat):w.grownBy (w.drewN n) r:=⟨rfl,rfl,rfl,aq _,fun _ _ _=>rfl⟩
theorem lP {w w':World}{g:Nat}(h:w.grownBy w' (some g))(i:Nat)(u:Value):w.grownBy (w'.setCell ⟨g,i,none⟩ u) (some g):=
 ⟨h.os,h.tape,h.output,by simpa [World.setCell] using h.size,fun k hk hne=>(dL w' ⟨g,i,none⟩ u k (fun e=>hne (by rw[e]))).trans (h.block k hk hne)⟩
theorem Yw {F fv:Nat->Nat}{j n:Nat}(hF:∀i,F i<4294967296)(oM:∀i,fv i<4294967296)(hn:2<=n)(pJ:2147483648<=fv (n-1))(hUV:vs ah (fun i=>F (j+i)) (n+1)<vs ah fv n*ah)
  {HD:Nat} (hHD:HD=4294967296*F (j+n)+F (j+(n-1))):jn (vs ah (fun i=>F (j+i)) (n+1)) (vs ah fv n) (fv (n-1)) (fv (n-2)) HD (F (j+(n-2))):=by
 refine⟨⟨ah^(n-2),vs ah fv (n-2),vs ah (fun i=>F (j+i)) (n-2), ?_, ?_,kf fun i _=>oM i,kf fun i _=>hF _⟩,hUV,pJ,oM _,hF _⟩
 ·
  have h:=ail fv (n-2);rw[show n-2+2=n by omega,show n-2+1=n-1 by omega] at h;exact h
 ·
  have h:=aoC (fun i=>F (j+i)) (n-2);rw[show n-2+3=n+1 by omega,show n-2+2=n by omega,show n-2+1=n-1 by omega] at h;rw[hHD];exact h

def qD (j dg:Nat)(F fv:Nat->Nat)(k q:Nat):Nat:=if j<=q/\q<j+k then uz dg (fun i=>F (j+i)) fv (q-j) else F q

theorem yY {x y b:Nat}(hx:x<4294967296)(hy:y<4294967296)(hb:b<=1):IntKind.u64.wrap (IntKind.u64.wrap ((x:Int)-y)-b)/9223372036854775808=((lH x y b:Nat):Int):=by
 rw[jk,jk]
 unfold lH;split<;>omega
theorem yZ {x y b:Nat}(hx:x<4294967296)(hy:y<4294967296)(hb:b<=1):IntKind.u64.wrap (IntKind.u64.wrap ((x:Int)-y)-b)%4294967296=((ja x y b:Nat):Int):=by
 rw[jk,jk];unfold ja;omega

def qE (j n dg:Nat)(F fv:Nat->Nat)(q:Nat):Nat:=if q=j+n then ja (F (j+n)) (gN dg fv n) (nU dg (fun i=>F (j+i)) fv n) else qD j dg F fv n q
def sX (j n dg:Nat)(F fv:Nat->Nat)(k q:Nat):Nat:=if j<=q/\q<j+k then adg (uz dg (fun i=>F (j+i)) fv) fv (q-j) else qE j n dg F fv q

theorem aer {j n dg:Nat}{F fv:Nat->Nat}{k:Nat}(hF:∀i,F i<4294967296)(q:Nat):sX j n dg F fv k q<4294967296:=by
 simp only[sX,qE,qD]
 split
 ·exact RP ..
 ·
  split
  ·exact mY ..
  ·
   split
   ·exact sO ..
   ·exact hF q
def Mk (gu j n M:Nat)(F:Nat->Nat)(U V:Nat)(w:World)(e:Ending)(w':World):Prop:=
 ∃F':Nat->Nat,e= .returned (.int .u32 ((U/V:Nat):Int))/\Row w' gu 171 .u32 M M F'/\(∀i,F' i<4294967296)/\(∀i,i<j\/j+n<i->F' i=F i)/\
  vs ah (fun i=>F' (j+i)) (n+1)=U%V/\w.grownBy w' (some gu)
theorem Cd (gu j cu gv cv n M Mv:Nat)(F fv:Nat->Nat)(w:World)(hu:Row w gu 171 .u32 M M F)(hF:∀i,F i<4294967296)(hv:Row w gv 171 .u32 Mv Mv fv)(oM:∀i,fv i<4294967296)
  (hne:gv≠gu) (hn:2<=n) (hn2:n<=1000000) (hj:j+n+1<=M) (hnv:n<=Mv) (pJ:2147483648<=fv (n-1)) (hUV:vs ah (fun i=>F (j+i)) (n+1)<vs ah fv n*ah):
  Calls Tryz.prog 196 #[.slice (some ⟨gu,j,none⟩) (n+1) cu,.slice (some ⟨gv,0,none⟩) n cv] w (Mk gu j n M F (vs ah (fun i=>F (j+i)) (n+1)) (vs ah fv n) w):=by
 have a1:=hu.cell (i:=j+n) (by omega);have a2:=hu.cell (i:=j+(n-1)) (by omega);have a3:=hu.cell (i:=j+(n-2)) (by omega);have a4:=hv.cell (i:=n-1) (by omega);have a5:=hv.cell (i:=n-2) (by omega);have b1:=hF (j+n);have b2:=hF (j+(n-1));have b3:=hF (j+(n-2));have b4:=oM (n-1);have b5:=oM (n-2)
 obtain⟨HD,hHD⟩:∃h,h=4294967296*F (j+n)+F (j+(n-1)):=⟨_,rfl⟩
 have aes:=Yw hF oM hn pJ hUV hHD
 obtain⟨U,hU⟩:∃U,U=vs ah (fun i=>F (j+i)) (n+1):=⟨_,rfl⟩
 obtain⟨V,hV⟩:∃V,V=vs ah fv n:=⟨_,rfl⟩
 rw[<-hU,<-hV] at aes;rw[<-hU,<-hV] at hUV;have o1:=jm b1 b2;rw[<-hHD,show((4294967296*F (j+n):Nat):Int)=(F (j+n):Int)*4294967296 by omega] at o1
 have aq8:HD<18446744073709551616:=by omega
 have e8:Value.int .u64 (IntKind.u64.wrap ((HD:Int)/(fv (n-1):Nat)))= .int .u64 ((HD/fv (n-1):Nat):Int):=by
  have h1:(HD:Int)/(fv (n-1):Nat)=((HD/fv (n-1):Nat):Int):=(jl ..).symm;have h2:HD/fv (n-1)<=HD:=Nat.div_le_self ..;rw[h1,jk]
  generalize HD/fv (n-1)=z at*
  congr 1
  omega
 have E8:=af e8;have HU:=af hU;have HV:=af hV;have HHD:=af hHD;have HUV:=af hUV;have HFv:=af oM;have HF:=af hF;have HX:=af aes;clear hHD hUV oM hF aes hU hV e8
 go_enter Tryz.func196,Tryz.ntmps196
 go_wp2_with fail
 go_quiet (fail)
 go_wp2_with fail
 go_quiet (fail)
 clear o1
 go_upto_block 0 with(fail)
 go_cut [8,9] (fun d r wx=>∃dg:Nat,d= .int .u64 (dg:Int)/\BL U V dg/\∃m,wx=w.drewN m)
 case first=>
  go_wp2_with fail
  go_loopw [8,9] (fun d r wr=>∃dg rs m:Nat,d= .int .u64 (dg:Int)/\r= .int .u64 (rs:Int)/\wh U V (fv (n-1)) HD dg rs/\wr=w.drewN m) (fun d _ _=>(intOf d).toNat)
  case atStart=>exact⟨HD/fv (n-1),HD%fv (n-1),_,E8.out,rfl,HX.out.start b4,by rw[gU]⟩
  case round=>
   obtain⟨dg,rs,m,rfl,rfl,hinv,rfl⟩:=hrel;have hrs:=hinv.2.1;have hdg:=hinv.le (by omega);have HI:=af hinv;clear hinv
   by_cases hD:4294967296<=dg
   ·
    obtain⟨s1,s2,s3⟩:=HX.out.stay HI.out (.inl hD)
    have t1:(4294967296:Int)<=(dg:Int):=by omega
    have S2:=af s2;have S3:=af s3;clear s2 s3
    by_cases hB:4294967296<=rs+fv (n-1)
    ·
     have t2:(4294967296:Int)<=(rs:Int)+(fv (n-1):Nat):=by omega
     go_wp2_with fail
     go_quiet (fail)
     go_wp2_with fail
     go_meet
     exact⟨dg-1,by congr 1;omega,HX.out.aae S2.out S3.out hB,_,rfl⟩
    ·
     have t2:decide ((4294967296:Int)<=(rs:Int)+(fv (n-1):Nat))=false:=aH (by omega);go_wp2_with fail
     go_quiet (fail)
     go_wp2_with fail
     go_roundw
     case rel=>exact⟨dg-1,rs+fv (n-1),_,by congr 1;omega,by congr 1,⟨S2.out,by omega,S3.out⟩,rfl⟩
     case measure=>simp[intOf];omega
   ·
    have t1:¬(4294967296:Int)<=(dg:Int):=by omega
    have t1':decide ((4294967296:Int)<=(dg:Int))=false:=by simpa using t1
    have o2:=jm hrs b3
    have eo:((4294967296*rs:Nat):Int)=(rs:Int)*4294967296:=by omega
    rw[eo] at o2
    obtain⟨RS,hRS⟩:∃h,h=4294967296*rs+F (j+(n-2)):=⟨_,rfl⟩
    rw[<-hRS] at o2;have Ki:=fG (show dg<4294967296 by omega) b5
    have hpI:(dg:Int)*(fv (n-2):Nat)<=18446744065119617025:=by rw[<-cM];omega
    have hp0:0<=(dg:Int)*(fv (n-2):Nat):=by rw[<-cM];omega
    clear eo
    by_cases hT:RS<dg*fv (n-2)
    ·
     have t3:(RS:Int)<(dg:Int)*(fv (n-2):Nat):=by rw[<-cM];omega
     obtain⟨s1,s2,s3⟩:=HX.out.stay HI.out (.inr (by rw[bC rs,<-hRS];exact hT));have S2:=af s2;have S3:=af s3;clear s2 s3 hRS Ki
     by_cases hB:4294967296<=rs+fv (n-1)
     ·
      have t2:(4294967296:Int)<=(rs:Int)+(fv (n-1):Nat):=by omega
      go_wp2_with fail
      go_quiet (fail)
      go_wp2_with fail
      go_meet
      exact⟨dg-1,by congr 1;omega,HX.out.aae S2.out S3.out hB,_,rfl⟩
     ·
      have t2:decide ((4294967296:Int)<=(rs:Int)+(fv (n-1):Nat))=false:=aH (by omega);go_wp2_with fail
      go_quiet (fail)
      go_wp2_with fail
      go_roundw
      case rel=>exact⟨dg-1,rs+fv (n-1),_,by congr 1;omega,by congr 1,⟨S2.out,by omega,S3.out⟩,rfl⟩
      case measure=>simp[intOf];omega
    ·
     have t3:decide ((RS:Int)<(dg:Int)*(fv (n-2):Nat))=false:=aH (by rw[<-cM];omega);have hpost:=HX.out.leave HI.out.1 HI.out.2.2 (by omega) (by rw[bC rs,<-hRS];omega);have HP:=af hpost;clear hRS Ki hpost;go_wp2_with fail
     go_quiet (fail)
     go_wp2_with fail
     go_meet
     exact⟨dg,rfl,HP.out,_,gU ..⟩
 case rest=>
  obtain⟨dg,rfl,hpost,m,rfl⟩:=hcut;have hdg:=hpost.2.2;have HP:=af hpost;clear hpost;go_wp2_with fail
  go_loopw [10,11,78] (fun cy bo i wr=>∃k:Nat,k<=n/\i= .int .i64 k/\cy= .int .u64 (gN dg fv k:Nat)/\bo= .int .u64 (nU dg (fun i=>F (j+i)) fv k:Nat)/\Row wr gu 171 .u32 M M (qD j dg F fv k)/\w.grownBy wr (some gu)) (fun _ _ i _=>n-(intOf i).toNat)
  case atStart=>exact⟨0,bF _,rfl,rfl,rfl,(hu.drewN _).congr fun q _=>by simp only[qD];rw[if_neg (by omega)],Ff _ _⟩
  case round=>
   obtain⟨k,hk,rfl,rfl,rfl,hrow,eE⟩:=hrel;have hvr:=hv.grown eE (by simpa using hne)
   by_cases hlt:k<n
   ·
    have c0:=hvr.cell (i:=k) (by omega);have c1:=hrow.cell (i:=j+k) (by omega);have c2:=hrow.frozen (j+k);rw[show qD j dg F fv k (j+k)=F (j+k) by simp[qD]] at c1;have d1:=HFv.out k;have d2:=HF.out (j+k);have d3:=vZ hdg HFv.out k;have d4:=BJ dg (fun i=>F (j+i)) fv k;have Ki:=fG hdg d1
    have hpI:(dg:Int)*(fv k:Nat)<=18446744065119617025:=by rw[<-cM];omega
    have hp0:0<=(dg:Int)*(fv k:Nat):=by rw[<-cM];omega
    clear Ki;go_wp2_with fail
    go_roundw
    case rel=>
     rw[rA,rz,yY d2 (iT ..) d4,yZ d2 (iT ..) d4];refine⟨k+1,by omega,by go_num,rfl,rfl,hrow.set ?_ fun q _ hq=> ?_,lP eE _ _⟩
     ·simp only[qD];rw[if_pos (by omega),show j+k-j=k by omega];rfl
     ·simp only[qD,show(j<=q/\q<j+(k+1))↔(j<=q/\q<j+k) by omega]
    case measure=>simp[intOf];omega
   ·
    obtain rfl:k=n:=by omega
    have c1:=hrow.cell (i:=j+k) (by omega);have c2:=hrow.frozen (j+k);rw[show qD j dg F fv k (j+k)=F (j+k) by simp[qD]] at c1;have d3:=vZ hdg HFv.out k;have d4:=BJ dg (fun i=>F (j+i)) fv k;have l1:=yZ b1 d3 d4;have l2:=yY b1 d3 d4
    obtain⟨X,hX⟩:∃x:Int,x=IntKind.u64.wrap (IntKind.u64.wrap (((F (j+k):Nat):Int)-((gN dg fv k:Nat):Int))-((nU dg (fun i=>F (j+i)) fv k:Nat):Int)):=⟨_,rfl⟩
    rw[<-hX] at l1 l2
    by_cases hbo:F (j+k)<gN dg fv k+nU dg (fun i=>F (j+i)) fv k
    ·
     have t1:(X/9223372036854775808==0)=false:=by
      rw[l2];unfold lH;rw[if_pos hbo];rfl
     rw[hX] at t1 l1;have L1:=af l1;clear l1 l2 hX;obtain⟨TN,hq,hr⟩:=LH (d:=dg) (n:=k) (V:=V) (u:=fun i=>F (j+i)) (fun i=>HF.out (j+i)) HFv.out HV.out.symm (by rw[<-HU.out];exact HP.out.2.1) hbo hdg;have HQ:=af hq;have HR:=af hr;clear hq hr
     have yV:Row (wr.setCell ⟨gu,j+k,none⟩ (.int .u32 (IntKind.u64.wrap (IntKind.u64.wrap (((F (j+k):Nat):Int)-((gN dg fv k:Nat):Int))-((nU dg (fun i=>F (j+i)) fv k:Nat):Int))%4294967296))) gu 171 .u32 M M (qE j k dg F fv):=
      hrow.GG (by rw[L1.out];simp only[qE,if_true]) fun q _ hq=>by simp only[qE,if_neg hq]
     have ajI:=lP eE (j+k) (.int .u32 (IntKind.u64.wrap (IntKind.u64.wrap (((F (j+k):Nat):Int)-((gN dg fv k:Nat):Int))-((nU dg (fun i=>F (j+i)) fv k:Nat):Int))%4294967296));have R2:=af yV;have G2:=af ajI;clear yV ajI;go_wp2_with fail
     go_loopw [17,131] (fun up i wx=>∃q:Nat,q<=k/\i= .int .i64 q/\up= .int .u32 (BK (uz dg (fun i=>F (j+i)) fv) fv q:Nat)/\Row wx gu 171 .u32 M M (sX j k dg F fv q)/\w.grownBy wx (some gu)) (fun _ i _=>k-(intOf i).toNat)
     case atStart=>exact⟨0,bF _,rfl,rfl,R2.out.congr fun q _=>by simp only[sX];rw[if_neg (by omega)],G2.out⟩
     case round=>
      obtain⟨q,hq,rfl,rfl,za,aet⟩:=hrel;have aqd:=hv.grown aet (by simpa using hne);have f4:=RO (fun i=>sO dg (fun i=>F (j+i)) fv i) HFv.out q
      by_cases hlq:q<k
      ·
       have c3:=aqd.cell (i:=q) (by omega);have c4:=za.cell (i:=j+q) (by omega);have c5:=za.frozen (j+q)
       have ef:sX j k dg F fv q (j+q)=uz dg (fun i=>F (j+i)) fv q:=by
        simp only[sX,qE,qD];rw[if_neg (by omega),if_neg (by omega),if_pos (by omega),show j+q-j=q by omega]
       rw[ef] at c4;have f1:=HFv.out q;have f2:=sO dg (fun i=>F (j+i)) fv q
       have ajJ:=fun w=>Lv _ _ _ w f2 f1 f4
       have HA:=af ajJ;clear ajJ ef;go_wp2_with fail
       refine(HA.out _).mono ?_
       rintro e w2 ⟨rfl,rfl⟩
       go_wp2_with fail
       go_roundw
       case rel=>
        refine⟨q+1,by omega,by go_num,rfl,za.GG ?_ fun p _ hp=> ?_,lP aet _ _⟩
        ·simp only[sX];rw[if_pos (by omega),show j+q-j=q by omega];rfl
        ·simp only[sX,show(j<=p/\p<j+(q+1))↔(j<=p/\p<j+q) by omega]
       case measure=>simp[intOf];omega
      ·
       obtain rfl:q=k:=by omega
       have c4:=za.cell (i:=j+q) (by omega);have c5:=za.frozen (j+q)
       have ef:sX j q dg F fv q (j+q)=ja (F (j+q)) (gN dg fv q) (nU dg (fun i=>F (j+i)) fv q):=by
        simp only[sX,qE];rw[if_neg (by omega),if_pos trivial]
       rw[ef] at c4;have f5:=mY (F (j+q)) (gN dg fv q) (nU dg (fun i=>F (j+i)) fv q);clear ef;go_wp2_with fail
       go_ret
       refine⟨fun p=>if p=j+q then(ja (F (j+q)) (gN dg fv q) (nU dg (fun i=>F (j+i)) fv q)+BK (uz dg (fun i=>F (j+i)) fv) fv q)%4294967296 else sX j q dg F fv q p,gM ?_,za.GG ?_ fun p _ hp=> ?_,fun i=> ?_,fun i hi=> ?_, ?_,lP aet _ _⟩
       ·rw[<-HV.out,HQ.out];omega
       ·rw[if_pos rfl];omega
       ·rw[if_neg hp]
       ·
        show(if i=j+q then _ else _)<_
        split
        ·exact bK _ (by decide)
        ·exact aer HF.out i
       ·simp only[sX,qE,qD];rw[if_neg (by omega),if_neg (by omega),if_neg (by omega),if_neg (by omega)]
       ·
        rw[<-HV.out,HR.out,bz]
        congr 1
        ·exact fo fun i hi=>by simp only[sX];rw[if_neg (by omega),if_pos (by omega),show j+i-j=i by omega]
        ·simp only[if_true]
    ·
     have t1:(X/9223372036854775808==0)=true:=by
      rw[l2];unfold lH;rw[if_neg hbo];rfl
     rw[hX] at t1;obtain⟨hq,hr⟩:=GR (d:=dg) (n:=k) (V:=V) (u:=fun i=>F (j+i)) (fun i=>HF.out (j+i)) HV.out.symm (by rw[<-HU.out];exact HP.out.1) HX.out.pos (by omega);have HQ:=af hq;have HR:=af hr;clear l1 l2 hX hq hr;go_wp2_with fail
     go_ret
     refine⟨qE j k dg F fv,gM ?_,hrow.GG ?_ fun q _ hq=> ?_,fun i=> ?_,fun i hi=> ?_, ?_,lP eE _ _⟩
     ·rw[<-HV.out,HQ.out]
     ·simp only[qE,if_true];unfold ja;omega
     ·simp only[qE,if_neg hq]
     ·
      simp only[qE,qD]
      split
      ·exact mY ..
      ·
       split
       ·exact sO ..
       ·exact HF.out i
     ·simp only[qE,qD];rw[if_neg (by omega),if_neg (by omega)]
     ·
      rw[<-HV.out,HR.out,bz]
      congr 1
      ·exact fo fun i hi=>by simp only[qE,qD];rw[if_neg (by omega),if_pos (by omega),show j+i-j=i by omega]
      ·
       congr 1
       simp only[qE,if_true];unfold ja;omega
end
section
open Go.RowKit

def vb (a b:Nat)(w:World)(e:Ending)(w':World):Prop:=
 ∃A c A' c',e= .returned (.tuple #[.slice A (ln ah (a/b)) c,.slice A' (ln ah (a%b)) c'])/\ln ah (a/b)<=c/\ln ah (a%b)<=c'/\aO w' A (a/b)/\aO w' A' (a%b)/\Below w.heap.size w w'

theorem Ce (A B:Option Addr)(c d a b:Nat)(w:World)(ha:aO w A a)(hb:aO w B b)(hab:a<b)(hn:ln ah a<=1000000):
  Calls Tryz.prog 182 #[.slice A (ln ah a) c,.slice B (ln ah b) d] w (vb a b w):=by
 have t1:kQ a b<0:=by rw[ru hab];decide
 have hq:a/b=0:=jI hab;have hr:a%b=a:=fm hab;have HQ:=af hq;have HR:=af hr;clear hq hr
 go_enter Tryz.func182,Tryz.ntmps182
 go_wp2_with fail
 refine(iu _ _ _ _ a b _ ha hb (by omega)).mono ?_
 rintro e w1 ⟨rfl,m,rfl⟩
 go_wp2_with fail
 refine(tU A _ c (aB ah a) (w.drewN m) (Rd.drewN ha m) (by omega)).mono ?_
 rintro e w1 ⟨v,rfl,hown,bh,-⟩
 obtain⟨A1,c1,rfl,hnc,hrow⟩:=sL.oA hown;go_wp2_with fail
 go_ret2
 refine⟨none,0,A1,c1,by rw[HQ.out,HR.out,cY];rfl,by rw[HQ.out,cY];omega,by rw[HR.out];exact hnc,by rw[HQ.out];exact aO.zero _ _,by rw[HR.out];exact hrow.rd, ?_⟩;exact(dG (aU _ w) m).trans bh

theorem Hw (A B:Option Addr)(c d a b:Nat)(w:World)(ha:aO w A a)(hb:aO w B b)(hab:b<=a)(hn:ln ah a<=1000000)(h1:ln ah b=1):
  Calls Tryz.prog 182 #[.slice A (ln ah a) c,.slice B (ln ah b) d] w (vb a b w):=by
 have t1:decide (kQ a b<0)=false:=by
  rcases Nat.lt_or_eq_of_le hab with h|h
  ·rw[oT h];decide
  ·rw[Bk h.symm];decide
 have hb0:0<b:=(dM aE).1 (by omega)
 have eD:b<4294967296:=by have:=(bJ aE (x:=b) (k:=1)).1 (by omega);rw[Nat.pow_one] at this;exact this
 have TN:aB ah b 0=b:=Ws eD;obtain⟨p,q,rfl,hp,hcb⟩:=hb (by omega);have c0:=hcb 0 (by omega);rw[TN,ko] at c0
 have t2:(((ln ah b:Nat):Int)==1)=true:=by rw[h1];rfl
 have hl:=bK a hb0;have HL1:=af h1
 have t3:1<=ln ah b:=by omega
 clear h1 TN;have hcmp:=iu A (some ⟨p,q,none⟩) c d a b w ha hb (by omega)
 have hdiv:=fun w' (hb':Below w.heap.size w w')=>BI A c a b w' (ha.below hb') hb0 eD hn
 have HC:=af hcmp;have HD:=af hdiv;clear hcmp hdiv
 go_enter Tryz.func182,Tryz.ntmps182
 go_wp2_with fail
 refine HC.out.mono ?_
 rintro e w1 ⟨rfl,m,rfl⟩
 go_wp2_with fail
 refine(HD.out _ (dG (aU _ w) m)).mono ?_
 rintro e w1 ⟨A1,c1,rfl,qM,ajK,lN⟩
 go_wp2_with fail
 have e1:(a:Int)%b=((a%b:Nat):Int):=(Int.natCast_emod ..).symm;have ht:=RD w1.heap.size (a%b) 1 (w1.alloc (.cells #[.int .u32 ((a:Int)%b)] 171)) (by rw[World.cell?_alloc_new,e1];rfl) (by simp) (by omega) (aq _);clear e1;have HT:=af ht;clear ht;refine HT.out.mono ?_
 rintro e w2 ⟨rfl,rfl,Fg,rQ⟩
 go_wp2_with fail
 go_ret2
 exact⟨A1,c1,_,1,rfl,qM,rQ,ajK.below ((aU _ _).alloc (aq _) _),Fg,((dG (aU _ w) m).trans lN).alloc (by simpa using lN.size) _⟩

theorem Ta (x:Nat)(w:World)(h0:0<x)(h:x<4294967296):Calls Tryz.prog 194 #[.int .u32 (x:Int)] w fun e w'=>e= .returned (.int .i64 (lz x:Int))/\w=w':=
 (Tryz.bits_LeadingZeros32 (x:Int) w (by omega) (by omega)).mono fun e w' ⟨he,hw⟩=>⟨by
  obtain⟨_,_,_,h4⟩:=JK h0 h
  rw[he,Int.toNat_natCast,h4],hw.symm⟩

structure ud (H gu gv gq la n A2 V k:Nat)(w wr:World)(F:Nat->Nat):Prop where
 u:Row wr gu 171 .u32 (la+1) (la+1) F
 fu:∀i,F i<4294967296
 win:vs ah (fun i=>F (k+i)) (la+1-k)=A2/ah^k%V
 low:∀i,i<k->F i=aB ah A2 i
 v:Row wr gv 171 .u32 (n+1) (n+1) (aB ah V)
 q:Row wr gq 171 .u32 (la-n+1) (la-n+1) (fun j=>if k<=j then aB ah (A2/V) j else 0)
 below:Below H w wr

theorem ud.high {H gu gv gq la n A2 V k:Nat}{w wr:World}{F:Nat->Nat}(h:ud H gu gv gq la n A2 V k w wr F)(hk:k<=la+1)(hV:0<V)(TR:V<ah^n)(i:Nat)(hi:n<=i)(hi2:k+i<la+1):F (k+i)=0:=by
 have h1:=AZ (B:=ah) (f:=fun i=>F (k+i)) (m:=la+1-k) (j:=i) (fun j _=>h.fu (k+j)) (by omega);rw[h.win] at h1;rw[<-h1];have h2:=bK (A2/ah^k) hV;exact cU (bY h2 (bG (bY TR (jH (by decide) hi))))
theorem ud.Tb {H gu gv gq la n A2 V j:Nat}{w wr:World}{F:Nat->Nat}(h:ud H gu gv gq la n A2 V (j+1) w wr F)(hj:j+n<la+1)(hV:0<V)(TR:V<ah^n):
  vs ah (fun i=>F (j+i)) (n+1)=ah*(A2/ah^(j+1)%V)+aB ah A2 j:=by
 rw[vT]
 have e1:vs ah (fun i=>F (j+(i+1))) n=A2/ah^(j+1)%V:=by
  have h1:=sJ ah (fun i=>F (j+1+i)) n (la+1-(j+1)-n);rw[show n+(la+1-(j+1)-n)=la+1-(j+1) by omega,h.win,rj fun i hi=>h.high (by omega) hV TR (n+i) (by omega) (by omega),Nat.mul_zero,ko] at h1;rw[h1]
  exact fo fun i _=>by rw[show j+(i+1)=j+1+i by omega]
 rw[e1,show F (j+0)=aB ah A2 j from h.low j (by omega)];omega
theorem ud.step {H gu gv gq la n A2 V j:Nat}{w wr w2:World}{F F':Nat->Nat}(h:ud H gu gv gq la n A2 V (j+1) w wr F)(hj:j+n<la+1)(hV:0<V)(TR:V<ah^n)(hgu:H<=gu)(hgq:H<=gq)(huv:gv≠gu)(hqu:gq≠gu)(TJ:gq≠gv)
  (h1:Row w2 gu 171 .u32 (la+1) (la+1) F') (h2:∀i,F' i<4294967296) (h3:∀i,i<j\/j+n<i->F' i=F i)
  (h4:vs ah (fun i=>F' (j+i)) (n+1)=vs ah (fun i=>F (j+i)) (n+1)%V) (h5:wr.grownBy w2 (some gu)) {u:Int} (hu:u=((vs ah (fun i=>F (j+i)) (n+1)/V:Nat):Int)):
  ud H gu gv gq la n A2 V j w (w2.setCell ⟨gq,j,none⟩ (.int .u32 u)) F':=by
 have hw:=h.Tb hj hV TR;obtain⟨s1,s2⟩:=qs (B:=ah) (x:=A2) (k:=j) hV
 have hq:vs ah (fun i=>F (j+i)) (n+1)/V=aB ah (A2/V) j:=by
  rw[hw,<-s1];refine(fm ?_).symm;rw[eX hV];have h6:=bK (A2/ah^(j+1)) hV;have h7:ah*(A2/ah^(j+1)%V+1)<=ah*V:=cT _ h6;have h8:=aV A2 j;rw[aY] at h7;have h9:ah=4294967296:=rfl;omega
 have bh:Below H w w2:=h.below.grown h5 (ay hgq (bG h.q.lt)) (fun k e=>by cases e;exact hgu);refine⟨h1.far (p:=⟨gq,j,none⟩) (Ne.symm hqu) _,h2, ?_,fun i hi=>by rw[h3 i (by omega)];exact h.low i (by omega),(h.v.grown h5 (by simpa using huv)).far (p:=⟨gq,j,none⟩) (Ne.symm TJ) _, ?_,bh.setCell (by exact hgq) _⟩
 ·
  have e:=sJ ah (fun i=>F' (j+i)) (n+1) (la+1-j-(n+1))
  have ez:vs ah (fun i=>F' (j+(n+1+i))) (la+1-j-(n+1))=0:=rj fun i hi=>by
   show F' (j+(n+1+i))=0;rw[h3 _ (by omega),show j+(n+1+i)=j+1+(n+i) by omega];exact h.high (by omega) hV TR (n+i) (by omega) (by omega)
  rw[show n+1+(la+1-j-(n+1))=la+1-j by omega,h4,hw,s2,ez] at e;rw[e];omega
 ·
  refine(h.q.grown h5 (by simpa using hqu)).GG ?_ fun p _ hp=> ?_
  ·rw[hu,hq,if_pos (aq _)]
  ·simp only[show j+1<=p↔j<=p by omega]

theorem Fh (A B:Option Addr)(c d a b:Nat)(w:World)(ha:aO w A a)(hb:aO w B b)(hab:b<=a)(hn:ln ah a<=1000000)(h2:2<=ln ah b):
  Calls Tryz.prog 182 #[.slice A (ln ah a) c,.slice B (ln ah b) d] w (vb a b w):=by
 have t1:decide (kQ a b<0)=false:=by
  rcases Nat.lt_or_eq_of_le hab with h|h
  ·rw[oT h];decide
  ·rw[Bk h.symm];decide
 have hb0:0<b:=(dM aE).1 (by omega);have hna:=cN aE hab;obtain⟨p,q,rfl,hp,hcb⟩:=hb (by omega);have c0:=hcb (ln ah b-1) (by omega)
 have t2:(((ln ah b:Nat):Int)==1)=false:=by simp;omega
 obtain⟨s,hs⟩:∃s,s=lz (aB ah b (ln ah b-1)):=⟨_,rfl⟩
 obtain⟨Fi,TR,aav,ajL⟩:=Ev rfl hb0 hs
 have hlz:=fun w=>Ta (aB ah b (ln ah b-1)) w (by have:=rq aE hb0;omega) (aV ..)
 rw[<-hs] at hlz;have WG:0<b*2^s:=dP hb0 (bM (by decide));have hcmp:=iu A (some ⟨p,q,none⟩) c d a b w ha hb (by omega)
 have ajM:=fun w' (hb':Below w.heap.size w w')=>tY (some ⟨p,q,none⟩) d b s w' (hb.below hb') Fi (by omega)
 have ajN:=fun w' (hb':Below w.heap.size w w')=>tY A c a s w' (ha.below hb') Fi hn
 have hmk:=Ei (ln ah a-ln ah b+1) (ln ah a-ln ah b+1) (aq _) (by omega);rw[show((ln ah a-ln ah b+1:Nat):Int)=(ln ah a:Int)-(ln ah b:Int)+1 by omega] at hmk;have HC:=af hcmp;have HS1:=af ajM;have HS2:=af ajN;have HLZ:=af hlz;have HVn:=af TR;have ajO:=af aav;have aqe:=af ajL;have HS:=af hs;clear hcmp ajM ajN hlz TR aav ajL hs
 go_enter Tryz.func182,Tryz.ntmps182
 go_wp2_with fail
 refine HC.out.mono ?_
 rintro e w1 ⟨rfl,m,rfl⟩
 go_wp2_with fail
 refine(HLZ.out _).mono ?_
 rintro e w1 ⟨rfl,rfl⟩
 go_wp2_with fail
 refine(HS1.out _ (dG (aU _ w) m)).mono ?_
 rintro e w1 ⟨rfl,hrv,lN⟩
 go_wp2_with fail
 have Hy:Below w.heap.size w w1:=(dG (aU _ w) m).trans lN;refine(HS2.out _ Hy).mono ?_
 rintro e w2 ⟨rfl,hru,dS⟩
 go_wp2_with fail
 clear hmk;have l1:=hrv.lt;have l2:=hru.lt;have l3:=dS.size;have l4:=Hy.size;simp only[World.heap_drewN] at hrv l1;have aqf:=hrv.below dS hrv.lt
 go_loopw [13] (fun i wr=>∃(k:Nat) (F:Nat->Nat),k<=ln ah a-ln ah b+1/\i= .int .i64 ((k:Int)-1)/\ud w.heap.size w1.heap.size w.heap.size w2.heap.size (ln ah a) (ln ah b) (a*2^s) (b*2^s) k w wr F) (fun i _=>(intOf i+1).toNat)
 case atStart=>
  refine⟨ln ah a-ln ah b+1,aB ah (a*2^s),aq _, ?_,hru.alloc _,fun i=>aV _ i, ?_,fun _ _=>rfl,aqf.alloc _,Row.made.congr fun j hj=>by rw[if_neg (by omega)],(Hy.trans (dS.mono (by omega))).alloc (by omega) _⟩
  ·congr 1;omega
  ·
   have h3:=Lz (A2:=a*2^s) (V:=b*2^s) (n:=ln ah b) (bt aE a) rfl Fi (by omega) hna aqe.out;rw[fm h3]
   have h4:a*2^s<ah^(ln ah a+1):=by
    rw[cF];have h5:=bt aE a;have h6:2^s<ah:=eH (jH (by decide) (show s<=31 by omega)) (by decide);exact bY (sI h5 (bM (by decide))) (cT _ (bG h6))
   have h7:=Rt (B:=ah) (f:=aB ah (a*2^s)) (m:=ln ah a+1) (j:=ln ah a-ln ah b+1) (fun i _=>aV _ i) (by omega);rw[cR h4] at h7;exact h7.symm
 case round=>
  obtain⟨k,F,hk,rfl,hst⟩:=hrel
  rcases dF k with rfl|RC
  ·
   obtain⟨R,hR⟩:∃R,R=a*2^s%(b*2^s):=⟨_,rfl⟩
   obtain⟨Q,hQ⟩:∃Q,Q=a*2^s/(b*2^s):=⟨_,rfl⟩
   have hrF:Row wr w1.heap.size 171 .u32 (ln ah a+1) (ln ah a+1) (aB ah R):=hst.u.congr fun i hi=>by
    have h1:=hst.win;simp only[Nat.zero_add,Nat.sub_zero,Nat.pow_zero,Nat.div_one] at h1;rw[<-hR] at h1;rw[<-h1];exact(AZ (fun j _=>hst.fu j) hi).symm
   have hrQ:Row wr w2.heap.size 171 .u32 (ln ah a-ln ah b+1) (ln ah a-ln ah b+1) (aB ah Q):=hst.q.congr fun i _=>by rw[if_pos (bF _),hQ]
   have ajP:=hst.below;have HR:=af hR;have HQ:=af hQ;clear hst hR hQ;go_wp2_with fail
   go_loopw [78] (fun i wx=>∃k:Nat,k<=ln ah b/\i= .int .i64 k/\Row wx w1.heap.size 171 .u32 (ln ah a+1) (ln ah a+1) (fun q=>if q<k then aB ah (R/2^s) q else aB ah R q)/\Row wx w2.heap.size 171 .u32 (ln ah a-ln ah b+1) (ln ah a-ln ah b+1) (aB ah Q)/\Below w.heap.size w wx) (fun i _=>ln ah b-(intOf i).toNat)
   case atStart=>exact⟨0,bF _,rfl,hrF.congr fun i _=>by rw[if_neg (by omega)],hrQ,ajP⟩
   case round=>
    obtain⟨k,hk,rfl,hrow,hrq,aaw⟩:=hrel
    by_cases hlt:k<ln ah b
    ·
     have c1:=hrow.cell (i:=k) (by omega);have c2:=hrow.cell (i:=k+1) (by omega);have c3:=hrow.frozen k;rw[if_neg (by omega)] at c1 c2;have d1:=aV R k;have d2:=aV R (k+1);have o1:=jm d2 d1
     obtain⟨X,hX⟩:∃X,X=4294967296*aB ah R (k+1)+aB ah R k:=⟨_,rfl⟩
     rw[<-hX,show((4294967296*aB ah R (k+1):Nat):Int)=(aB ah R (k+1):Int)*4294967296 by omega] at o1
     have aqg:X<18446744073709551616:=by omega
     have HX:=af hX;clear hX;go_wp2_with fail
     go_region
     go_wp2_with fail
     go_roundw
     case rel=>
      refine⟨k+1,by omega,by go_num,(hrow.GG ?_ fun p _ hp=> ?_).drew,(hrq.far (p:=⟨w1.heap.size,k,none⟩) (by simp;omega) _).drew,(aaw.setCell (by simp;omega) _).drew⟩
      ·rw[if_pos (by omega),<-xC Fi,bC (aB ah R (k+1)),<-HX.out,Int.natCast_emod,jl,Int.natCast_pow];rfl
      ·simp only[show p<k+1↔p<k by omega]
     case measure=>simp[intOf];omega
    ·
     obtain rfl:k=ln ah b:=by omega
     have Ke:0<2^s:=bM (by decide)
     have hRv:R/2^s=a%b:=by rw[HR.out,Nat.mul_mod_mul_right,Nat.mul_div_cancel _ Ke]
     have hQv:Q=a/b:=by rw[HQ.out,Nat.mul_div_mul_right _ _ Ke]
     have aeu:R/2^s<ah^ln ah b:=by rw[hRv];exact Nat.lt_trans (bK _ hb0) (bt aE b)
     have Yx:Q<ah^(ln ah a-ln ah b+1):=by rw[hQv];exact WB (bt aE a) (mX aE hb0) (by omega) hna
     have LL:Row wr w1.heap.size 171 .u32 (ln ah a+1) (ln ah b) (aB ah (R/2^s)):=(hrow.shorter (by omega)).congr fun i hi=>by rw[if_pos hi]
     have q1:=fun n=>gH (some ⟨w2.heap.size,0,none⟩) _ (ln ah a-ln ah b+1) (aB ah Q) (wr.drewN n) ((hrq.rd (aq _) hrq.lt).drewN n) (fun i _=>aV Q i) (aq _) (by omega)
     have q2:=fun n=>gH (some ⟨w1.heap.size,0,none⟩) _ (ln ah a+1) (aB ah (R/2^s)) (wr.drewN n) ((LL.rd (aq _) LL.lt).drewN n) (fun i _=>aV (R/2^s) i) (by omega) (by omega)
     rw[cR Yx,hQv] at q1;rw[cR aeu,hRv] at q2
     have Q1:=af fun n=>(q1 n).mono (R':=fun e w'=>e= .returned (.slice (some ⟨w2.heap.size,0,none⟩) (ln ah (a/b)) (ln ah a-ln ah b+1))/\w'=wr.drewN n) fun _ _ ⟨he,hw,_⟩=>⟨he,hw.symm⟩
     have Q2:=af fun n=>(q2 n).mono (R':=fun e w'=>e= .returned (.slice (some ⟨w1.heap.size,0,none⟩) (ln ah (a%b)) (ln ah a+1))/\w'=wr.drewN n) fun _ _ ⟨he,hw,_⟩=>⟨he,hw.symm⟩
     have N1:aO wr (some ⟨w2.heap.size,0,none⟩) (a/b):=by
      have h:=aO.ry (hrq.rd (aq _) hrq.lt) (fun i _=>aV Q i);rw[cR Yx,hQv] at h;exact h
     have N2:aO wr (some ⟨w1.heap.size,0,none⟩) (a%b):=by
      have h:=aO.ry (LL.rd (aq _) LL.lt) (fun i _=>aV (R/2^s) i);rw[cR aeu,hRv] at h;exact h
     have L1:ln ah (a/b)<=ln ah a-ln ah b+1:=by rw[<-hQv];exact(bJ aE).2 Yx
     have L2:ln ah (a%b)<=ln ah a+1:=ay (cN aE (Nat.mod_le a b)) (Nat.le_succ _);clear q1 q2 hRv hQv aeu Yx LL;go_wp2_with fail
     go_quiet ((go_at_call 174;first|(with_reducible exact Calls.quiet_of_same (Q1.out _))|(with_reducible exact Calls.quiet_of_same (Q2.out _))))
     go_wp2_with fail
     go_ret2
     exact⟨_,_,_,_,rfl,L1,L2,N1,N2,dG aaw _⟩
  ·
   obtain⟨j,rfl⟩:∃j,k=j+1:=⟨k-1,by omega⟩
   have ej:(((j+1:Nat):Int)-1)=(j:Int):=by omega
   rw[ej];have hw:=hst.Tb (by omega) WG HVn.out
   have hlt:vs ah (fun i=>F (j+i)) (ln ah b+1)<vs ah (aB ah (b*2^s)) (ln ah b)*ah:=by
    rw[hw,cR HVn.out];have h6:=bK (a*2^s/ah^(j+1)) WG;have h7:ah*(a*2^s/ah^(j+1)%(b*2^s)+1)<=ah*(b*2^s):=cT _ h6;have h8:=aV (a*2^s) j;rw[aY] at h7;rw[bC _ ah];have h9:ah=4294967296:=rfl;omega
   have tX:=Cd w1.heap.size j (ln ah a+1-j) w.heap.size (ln ah b+1) (ln ah b) (ln ah a+1) (ln ah b+1) F (aB ah (b*2^s)) wr hst.u hst.fu hst.v (fun i=>aV _ i) (by omega) h2 (by omega) (by omega) (by omega) ajO.out hlt;rw[cR HVn.out] at tX;have HCA:=af tX;have HW:=af hw;have c5:=hst.q.cell (i:=j) (by omega);clear tX hw hlt ej;go_wp2_with fail
   rw[show j+ln ah b+1-j=ln ah b+1 by omega];refine HCA.out.mono ?_
   rintro e w5 ⟨F',rfl,r1,r2,r3,r4,r5⟩
   have hrq:=hst.q.grown r5 (by simp;omega);have c6:=hrq.cell (i:=j) (by omega);have c7:=hrq.frozen j;have HST:=af (fun u hu=>hst.step (w2:=w5) (F':=F') (u:=u) (by omega) WG HVn.out (by omega) (by omega) (by omega) (by omega) (by omega) r1 r2 r3 r4 r5 hu);clear r2 r3 r4;go_wp2_with fail
   go_roundw
   case rel=>exact⟨j,F',by omega,by go_num,HST.out _ rfl⟩
   case measure=>simp[intOf]
theorem qF (A B:Option Addr)(c d a b:Nat)(w:World)(ha:aO w A a)(hb:aO w B b)(hb0:0<b)(hn:ln ah a<=1000000):
  Calls Tryz.prog 182 #[.slice A (ln ah a) c,.slice B (ln ah b) d] w (vb a b w):=by
 by_cases hab:a<b
 ·exact Ce A B c d a b w ha hb hab hn
 ·
  have:=(dM aE).2 hb0
  by_cases h1:ln ah b=1
  ·exact Hw A B c d a b w ha hb (by omega) hn h1
  ·exact Fh A B c d a b w ha hb (by omega) hn (by omega)
end
section
open Go.RowKit

def eP (w:World)(g:Nat)(ev:Bool)(u0 u1 v0 v1:Nat):Prop:=
 w.heap[g]?=some (.cells #[.int .u64 (u0:Int),.int .u64 (u1:Int),.int .u64 (v0:Int),.int .u64 (v1:Int),.bool ev] 194 (0,0))

theorem eP.cells {w:World}{g:Nat}{ev:Bool}{u0 u1 v0 v1:Nat}(h:eP w g ev u0 u1 v0 v1):
  w.cell? ⟨g,0,none⟩=some (.int .u64 (u0:Int))/\w.cell? ⟨g,1,none⟩=some (.int .u64 (u1:Int))/\w.cell? ⟨g,2,none⟩=some (.int .u64 (v0:Int))/\w.cell? ⟨g,3,none⟩=some (.int .u64 (v1:Int))/\w.cell? ⟨g,4,none⟩=some (.bool ev):=by
 refine⟨?_, ?_, ?_, ?_, ?_⟩<;>exact(gZ w g _ _ _ (0,0) h).trans rfl
theorem eP.frozen {w:World}{g:Nat}{ev:Bool}{u0 u1 v0 v1:Nat}(h:eP w g ev u0 u1 v0 v1)(i:Nat):w.frozen? ⟨g,i,none⟩=false:=by
 simp[World.frozen?,show w.heap[g]?=_ from h]
theorem eP.lt {w:World}{g:Nat}{ev:Bool}{u0 u1 v0 v1:Nat}(h:eP w g ev u0 u1 v0 v1):g<w.heap.size:=kJ h
theorem eP.far {w:World}{g:Nat}{ev:Bool}{u0 u1 v0 v1:Nat}(h:eP w g ev u0 u1 v0 v1){p:Addr}(hp:g≠p.block)(u:Value):eP (w.setCell p u) g ev u0 u1 v0 v1:=
 (dL w p u g hp).trans h
theorem eP.set {w:World}{g:Nat}{ev:Bool}{u0 u1 v0 v1:Nat}(h:eP w g ev u0 u1 v0 v1)(u0' u1' v0' v1':Nat)(ev':Bool):
  eP (((((w.setCell ⟨g,0,none⟩ (.int .u64 (u0':Int))).setCell ⟨g,1,none⟩ (.int .u64 (u1':Int))).setCell ⟨g,2,none⟩ (.int .u64 (v0':Int))).setCell ⟨g,3,none⟩ (.int .u64 (v1':Int))).setCell ⟨g,4,none⟩ (.bool ev')) g ev' u0' u1' v0' v1':=by
 unfold eP at h⊢
 simp[World.setCell,Array.getElem?_modify,h]

def Yy (a b:Nat)(w:World)(e:Ending)(w':World):Prop:=
 ∃ev u0 u1 v0 v1,e= .returned (.agg #[.int .u64 ((u0:Nat):Int),.int .u64 ((u1:Nat):Int),.int .u64 ((v0:Nat):Int),.int .u64 ((v1:Nat):Int),.bool ev])/\(v0=0\/uS a b ev u0 u1 v0 v1)/\Below w.heap.size w w'

theorem Cf (A B:Option Addr)(c d a b:Nat)(w:World)(ha:aO w A a)(hb:aO w B b)(hba:b<=a)(hn:ln ah a<=1000000)(h3:3<=ln ah b):
  Calls Tryz.prog 188 #[.slice A (ln ah a) c,.slice B (ln ah b) d] w (Yy a b w):=by
 have hlb:ln ah b<=ln ah a:=(bJ aE).2 (eH hba (bt aE a));have ha0:0<a:=(dM aE).1 (by omega);have pJ:=rq aE ha0;have aqh:=aV a (ln ah a-1)
 obtain⟨s,hs⟩:∃s,s=lz (aB ah a (ln ah a-1)):=⟨_,rfl⟩
 obtain⟨Fi,han,_,_⟩:=Ev rfl ha0 hs;have Yu:b*2^s<ah^ln ah a:=eH (dV _ hba) han;obtain⟨pa,qa,rfl,hpa,hca⟩:=ha (by omega);have c1:=hca (ln ah a-1) (by omega);have HAN:=af han;have HBN:=af Yu;have HS:=af hs
 have hi1:0<=(ln ah a:Int)-1:=by omega
 have hi2:(ln ah a:Int)-1<(ln ah a:Int):=by omega
 have hi3:((ln ah a:Int)-1).toNat=ln ah a-1:=by omega
 clear han Yu hs hca
 go_enter Tryz.func188,Tryz.ntmps188
 go_wp2_with fail
 refine(Ta (aB ah a (ln ah a-1)) _ (by omega) aqh).mono ?_
 rintro e w1 ⟨rfl,rfl⟩
 rw[<-HS.out];go_wp2_with fail
 have bl0:Below w.heap.size w (w.alloc (.cells #[.int .u64 0,.int .u64 0,.int .u64 0,.int .u64 0,.bool false] 194)):=(aU _ w).alloc (aq _) _;refine(Ew a (ln ah a) s _ c _ (aO.below ha bl0) (aq _) (by omega) hn Fi HAN.out).mono ?_
 rintro e w1 ⟨rfl,hw1⟩
 go_wp2_with fail
 refine(Ew b (ln ah a) s _ d _ (aO.below (aO.below hb bl0) hw1) hlb (by omega) hn Fi HBN.out).mono ?_
 rintro e w2 ⟨rfl,KU⟩
 go_wp2_with fail
 have hR:eP (w.alloc (.cells #[.int .u64 0,.int .u64 0,.int .u64 0,.int .u64 0,.bool false] 194)) w.heap.size false 0 0 0 0:=eU _ _;have kV:eP w2 w.heap.size false 0 0 0 0:=(KU.block _ (bY hR.lt hw1.size)).trans ((hw1.block _ hR.lt).trans hR);have Fe:Below w.heap.size w w2:=(bl0.trans (hw1.mono (by simp))).trans (KU.mono (by have:=hw1.size;simp at this;omega));have xy:=kV.lt;have hal:=RK (show 3<=ln ah a by omega) Fi HAN.out;have hle:FE b (ln ah a) s<=FE a (ln ah a) s:=Nat.div_le_div_right hba;have Tc:0<ah^(ln ah a-3)*2^(32-s):=dP (bM (by decide)) (bM (by decide));have hea:a=ah^(ln ah a-3)*2^(32-s)*FE a (ln ah a) s+a%(ah^(ln ah a-3)*2^(32-s)):=(eK _ _).symm;have heb:b=ah^(ln ah a-3)*2^(32-s)*FE b (ln ah a) s+b%(ah^(ln ah a-3)*2^(32-s)):=(eK _ _).symm;have hma:=bK a Tc;have hmb:=bK b Tc
 have STEP:=af fun(ev:Bool) (u0 u1 u2 v0 v1 v2 x1 x2:Nat) (h:Sim a b (FE a (ln ah a) s) (FE b (ln ah a) s) ev u0 u1 u2 v0 v1 v2 x1 x2)=>RE hea heb hma hmb hal h
 clear hea heb hma hmb Tc hR
 generalize FE a (ln ah a) s=al at*
 generalize FE b (ln ah a) s=be at*
 go_loopw [7,8,10,11] (fun x1 x2 u2 v2 wr=>∃ev U0 U1 U2 V0 V1 V2 X1 X2,x1= .int .u64 ((X1:Nat):Int)/\x2= .int .u64 ((X2:Nat):Int)/\u2= .int .u64 ((U2:Nat):Int)/\v2= .int .u64 ((V2:Nat):Int)/\Sim a b al be ev U0 U1 U2 V0 V1 V2 X1 X2/\
   eP wr w2.heap.size ev U0 U1 V0 V1/\eP wr w.heap.size false 0 0 0 0/\Below w.heap.size w wr) (fun _ x2 _ _ _=>(intOf x2).toNat)
 case atStart=>exact⟨false,0,1,0,0,0,1,_,_,rfl,rfl,rfl,rfl,LC hle,eU _ _,(ei _ _ _ xy).trans kV,Fe.alloc Fe.size _⟩
 case round=>
  obtain⟨ev,U0,U1,U2,V0,V1,V2,X1,X2,rfl,rfl,rfl,rfl,Fj,hS,hR,bh⟩:=hrel;obtain⟨s0,s1,s2,s3,s4⟩:=hS.cells;have f0:=hS.frozen 0;have f1:=hS.frozen 1;have f2:=hS.frozen 2;have f3:=hS.frozen 3;have f4:=hS.frozen 4;have Cg:=hS.lt;have aq9:=Fj.le;have aqi:=Fj.aij;have aev:=af Fj
  have ara:X1<18446744073709551616:=by
   have h1:=Fj.sum;have h2:X1<=V2*X1:=kj _ aqi;omega
  have Jc:=hR.cells;have hg0:=hR.frozen 0;have Uo:=hR.frozen 1;have zX:=hR.frozen 2;have lX:=hR.frozen 3;have xh:=hR.frozen 4;obtain⟨r0,r1,r2,r3,r4⟩:=Jc
  by_cases t1:V2<=X2
  ·
   obtain⟨fa,fb,fc⟩:=RJ Fj hal (show 1<=X2 by omega)
   have hx0:((X2:Nat):Int)≠0:=by omega
   by_cases t2:V1+V2<=X1-X2
   ·
    obtain⟨Q,hQ⟩:∃Q,Q=X1/X2:=⟨_,rfl⟩
    obtain⟨R,jv⟩:∃R,R=X1%X2:=⟨_,rfl⟩
    have h64:X1/X2<=X1:=Nat.div_le_self _ _
    have asY:Q<18446744073709551616:=by rw[hQ];omega
    have asZ:R<18446744073709551616:=by have:=bK X1 (show 0<X2 by omega);omega
    rw[<-hQ] at fb fc
    have q1:(0:Int)<=(Q:Int)*(V2:Int):=by rw[<-cM];omega
    have q2:(0:Int)<=(Q:Int)*(U2:Int):=by rw[<-cM];omega
    have q3:(V1:Int)+(Q:Int)*(V2:Int)<18446744073709551616:=by rw[<-cM];omega
    have q4:(U1:Int)+(Q:Int)*(U2:Int)<18446744073709551616:=by rw[<-cM];omega
    have T2:(V1:Int)+(V2:Int)<=(X1:Int)-(X2:Int):=by omega
    have e1:(X1:Int)/(X2:Int)=(Q:Int):=by rw[hQ];rfl
    have e2:(X1:Int)%(X2:Int)=(R:Int):=by rw[jv];rfl
    have E1:=af e1;have E2:=af e2;have HQ:=af hQ;have HR:=af jv;clear Fj e1 e2 hQ jv fb fc t2 h64;go_wp2_with fail
    go_quiet (fail)
    rw[E1.out,E2.out];go_wp2_with fail
    go_roundw
    case rel=>
     have hst:=STEP.out _ _ _ _ _ _ _ _ _ aev.out t1 (by omega);rw[<-HQ.out,<-HR.out] at hst;refine⟨!ev,U1,U2,U1+Q*U2,V1,V2,V1+Q*V2,X2,R,rfl,rfl,rfl,rfl,hst, ?_, ?_, ?_⟩
     ·exact hS.set U1 U2 V1 V2 (!ev)
     ·
      have h1:=(((hR.far (p:=⟨w2.heap.size,0,none⟩) (by simp;omega) (.int .u64 (U1:Int))).far (p:=⟨w2.heap.size,1,none⟩) (by simp;omega) (.int .u64 (U2:Int))).far (p:=⟨w2.heap.size,2,none⟩) (by simp;omega) (.int .u64 (V1:Int))).far (p:=⟨w2.heap.size,3,none⟩) (by simp;omega) (.int .u64 (V2:Int));exact h1.far (p:=⟨w2.heap.size,4,none⟩) (by simp;omega) _
     ·
      have eD:=((((dG bh nq).setCell (p:=⟨w2.heap.size,0,none⟩) (bG xy) (.int .u64 (U1:Int))).setCell (p:=⟨w2.heap.size,1,none⟩) (bG xy) (.int .u64 (U2:Int))).setCell (p:=⟨w2.heap.size,2,none⟩) (bG xy) (.int .u64 (V1:Int))).setCell (p:=⟨w2.heap.size,3,none⟩) (bG xy) (.int .u64 (V2:Int));exact eD.setCell (p:=⟨w2.heap.size,4,none⟩) (bG xy) _
    case measure=>
     have hm:=bK X1 (show 0<X2 by omega);rw[<-HR.out] at hm
     simp[intOf];omega
   ·
    have T2:decide ((X1:Int)-(X2:Int)≥(V1:Int)+(V2:Int))=false:=aH (by omega);clear Fj t2;go_wp2_with fail
    have hW:=hR.set U0 U1 V0 V1 ev;have eD:=((((bh.setCell (p:=⟨w.heap.size,0,none⟩) (aq _) (.int .u64 (U0:Int))).setCell (p:=⟨w.heap.size,1,none⟩) (aq _) (.int .u64 (U1:Int))).setCell (p:=⟨w.heap.size,2,none⟩) (aq _) (.int .u64 (V0:Int))).setCell (p:=⟨w.heap.size,3,none⟩) (aq _) (.int .u64 (V1:Int))).setCell (p:=⟨w.heap.size,4,none⟩) (aq _) (.bool ev);clear hR r0 r1 r2 r3 r4
    generalize (((((wr.setCell ⟨w.heap.size,0,none⟩ (.int .u64 (U0:Int))).setCell ⟨w.heap.size,1,none⟩ (.int .u64 (U1:Int))).setCell ⟨w.heap.size,2,none⟩ (.int .u64 (V0:Int))).setCell ⟨w.heap.size,3,none⟩ (.int .u64 (V1:Int))).setCell ⟨w.heap.size,4,none⟩ (.bool ev))=WW at*
    obtain⟨k0,k1,k2,k3,k4⟩:=hW.cells;refine aK (v:= .agg #[.int .u64 (U0:Int),.int .u64 (U1:Int),.int .u64 (V0:Int),.int .u64 (V1:Int),.bool ev]) (by simp[results,Tryz.results188,go_sem,k0,k1,k2,k3,k4]) rfl ?_;exact⟨ev,U0,U1,V0,V1,rfl,aev.out.out,eD⟩
  ·
   have T1:decide ((X2:Int)≥(V2:Int))=false:=aH (by omega);clear Fj;go_wp2_with fail
   have hW:=hR.set U0 U1 V0 V1 ev;have eD:=((((bh.setCell (p:=⟨w.heap.size,0,none⟩) (aq _) (.int .u64 (U0:Int))).setCell (p:=⟨w.heap.size,1,none⟩) (aq _) (.int .u64 (U1:Int))).setCell (p:=⟨w.heap.size,2,none⟩) (aq _) (.int .u64 (V0:Int))).setCell (p:=⟨w.heap.size,3,none⟩) (aq _) (.int .u64 (V1:Int))).setCell (p:=⟨w.heap.size,4,none⟩) (aq _) (.bool ev);clear hR r0 r1 r2 r3 r4
   generalize (((((wr.setCell ⟨w.heap.size,0,none⟩ (.int .u64 (U0:Int))).setCell ⟨w.heap.size,1,none⟩ (.int .u64 (U1:Int))).setCell ⟨w.heap.size,2,none⟩ (.int .u64 (V0:Int))).setCell ⟨w.heap.size,3,none⟩ (.int .u64 (V1:Int))).setCell ⟨w.heap.size,4,none⟩ (.bool ev))=WW at*
   obtain⟨k0,k1,k2,k3,k4⟩:=hW.cells;refine aK (v:= .agg #[.int .u64 (U0:Int),.int .u64 (U1:Int),.int .u64 (V0:Int),.int .u64 (V1:Int),.bool ev]) (by simp[results,Tryz.results188,go_sem,k0,k1,k2,k3,k4]) rfl ?_;exact⟨ev,U0,U1,V0,V1,rfl,aev.out.out,eD⟩
end
end Go.Proofs.YtclbiihcbfnjmaaGreat
