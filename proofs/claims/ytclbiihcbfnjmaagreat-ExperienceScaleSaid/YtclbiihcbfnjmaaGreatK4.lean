/-
  Parts.
-/
import Derived.Test.YtclbiihcbfnjmaaGreatK1
import Derived.Deep.DeepCutAuto
import Derived.Deep.CutBlock
import Derived.Test.YtclbiihcbfnjmaaGreatShelf
set_option maxRecDepth 100000
set_option maxHeartbeats 2000000
namespace Go.Proofs.YtclbiihcbfnjmaaGreat
section
open Go.RowKit

theorem DC {w:World}(n:Nat)(r:Option Nat):w.grownBy (w.drewN n) r:=⟨rfl,rfl,rfl,Nat.le_refl _,fun _ _ _=>rfl⟩
theorem kD {w w':World}{g:Nat}(h:w.grownBy w' (some g))(i:Nat)(u:Value):w.grownBy (w'.setCell ⟨g,i,none⟩ u) (some g):=
 ⟨h.os,h.tape,h.output,by simpa [World.setCell] using h.size,fun k hk hne=>(Below.heap_setCell w' ⟨g,i,none⟩ u k (fun e=>hne (by rw[e]))).trans (h.block k hk hne)⟩
theorem Vh {F fv:Nat->Nat}{j n:Nat}(hF:∀i,F i<4294967296)(mV:∀i,fv i<4294967296)(hn:2<=n)(nR:2147483648<=fv (n-1))(hUV:vs ah (fun i=>F (j+i)) (n+1)<vs ah fv n*ah)
  {HD:Nat} (hHD:HD=4294967296*F (j+n)+F (j+(n-1))):iy (vs ah (fun i=>F (j+i)) (n+1)) (vs ah fv n) (fv (n-1)) (fv (n-2)) HD (F (j+(n-2))):=by
 refine⟨⟨ah^(n-2),vs ah fv (n-2),vs ah (fun i=>F (j+i)) (n-2), ?_, ?_,jD fun i _=>mV i,jD fun i _=>hF _⟩,hUV,nR,mV _,hF _⟩
 ·
  have h:=af2 fv (n-2);rw[show n-2+2=n by omega,show n-2+1=n-1 by omega] at h;exact h
 ·
  have h:=amM (fun i=>F (j+i)) (n-2);rw[show n-2+3=n+1 by omega,show n-2+2=n by omega,show n-2+1=n-1 by omega] at h;rw[hHD];exact h

def oM (j dg:Nat)(F fv:Nat->Nat)(k q:Nat):Nat:=if j<=q/\q<j+k then sI dg (fun i=>F (j+i)) fv (q-j) else F q

theorem wX {x y b:Nat}(hx:x<4294967296)(hy:y<4294967296)(hb:b<=1):IntKind.u64.wrap (IntKind.u64.wrap ((x:Int)-y)-b)/9223372036854775808=((kr x y b:Nat):Int):=by
 rw[IntKind.wrap_u64,IntKind.wrap_u64]
 unfold kr;split<;>omega
theorem wY {x y b:Nat}(hx:x<4294967296)(hy:y<4294967296)(hb:b<=1):IntKind.u64.wrap (IntKind.u64.wrap ((x:Int)-y)-b)%4294967296=((gI x y b:Nat):Int):=by
 rw[IntKind.wrap_u64,IntKind.wrap_u64];unfold gI;omega

def oN (j n dg:Nat)(F fv:Nat->Nat)(q:Nat):Nat:=if q=j+n then gI (F (j+n)) (fD dg fv n) (lT dg (fun i=>F (j+i)) fv n) else oM j dg F fv n q
def qV (j n dg:Nat)(F fv:Nat->Nat)(k q:Nat):Nat:=if j<=q/\q<j+k then adg (sI dg (fun i=>F (j+i)) fv) fv (q-j) else oN j n dg F fv q

theorem abz {j n dg:Nat}{F fv:Nat->Nat}{k:Nat}(hF:∀i,F i<4294967296)(q:Nat):qV j n dg F fv k q<4294967296:=by
 simp only[qV,oN,oM]
 split
 ·exact OL ..
 ·
  split
  ·exact kX ..
  ·
   split
   ·exact qJ ..
   ·exact hF q
def J6 (gu j n M:Nat)(F:Nat->Nat)(U V:Nat)(w:World)(e:Ending)(w':World):Prop:=
 ∃F':Nat->Nat,e= .returned (.int .u32 ((U/V:Nat):Int))/\Row w' gu 171 .u32 M M F'/\(∀i,F' i<4294967296)/\(∀i,i<j\/j+n<i->F' i=F i)/\
  vs ah (fun i=>F' (j+i)) (n+1)=U%V/\w.grownBy w' (some gu)
theorem zA (gu j cu gv cv n M Mv:Nat)(F fv:Nat->Nat)(w:World)(hu:Row w gu 171 .u32 M M F)(hF:∀i,F i<4294967296)(hv:Row w gv 171 .u32 Mv Mv fv)(mV:∀i,fv i<4294967296)
  (hne:gv≠gu) (hn:2<=n) (hn2:n<=1000000) (hj:j+n+1<=M) (hnv:n<=Mv) (nR:2147483648<=fv (n-1)) (hUV:vs ah (fun i=>F (j+i)) (n+1)<vs ah fv n*ah):
  Calls Tryz.prog 196 #[.slice (some ⟨gu,j,none⟩) (n+1) cu,.slice (some ⟨gv,0,none⟩) n cv] w (J6 gu j n M F (vs ah (fun i=>F (j+i)) (n+1)) (vs ah fv n) w):=by
 have a1:=hu.cell (i:=j+n) (by omega);have a2:=hu.cell (i:=j+(n-1)) (by omega);have a3:=hu.cell (i:=j+(n-2)) (by omega);have a4:=hv.cell (i:=n-1) (by omega);have a5:=hv.cell (i:=n-2) (by omega);have b1:=hF (j+n);have b2:=hF (j+(n-1));have b3:=hF (j+(n-2));have b4:=mV (n-1);have b5:=mV (n-2)
 obtain⟨HD,hHD⟩:∃h,h=4294967296*F (j+n)+F (j+(n-1)):=⟨_,rfl⟩
 have abA:=Vh hF mV hn nR hUV hHD
 obtain⟨U,hU⟩:∃U,U=vs ah (fun i=>F (j+i)) (n+1):=⟨_,rfl⟩
 obtain⟨V,hV⟩:∃V,V=vs ah fv n:=⟨_,rfl⟩
 rw[<-hU,<-hV] at abA;rw[<-hU,<-hV] at hUV;have o1:=iu b1 b2;rw[<-hHD,show((4294967296*F (j+n):Nat):Int)=(F (j+n):Int)*4294967296 by omega] at o1
 have ape:HD<18446744073709551616:=by omega
 have e8:Value.int .u64 (IntKind.u64.wrap ((HD:Int)/(fv (n-1):Nat)))= .int .u64 ((HD/fv (n-1):Nat):Int):=by
  have h1:(HD:Int)/(fv (n-1):Nat)=((HD/fv (n-1):Nat):Int):=(Int.natCast_ediv ..).symm;have h2:HD/fv (n-1)<=HD:=Nat.div_le_self ..;rw[h1,IntKind.wrap_u64]
  generalize HD/fv (n-1)=z at*
  congr 1
  omega
 have E8:=Lib.hid e8;have HU:=Lib.hid hU;have HV:=Lib.hid hV;have HHD:=Lib.hid hHD;have HUV:=Lib.hid hUV;have HFv:=Lib.hid mV;have HF:=Lib.hid hF;have HX:=Lib.hid abA;clear hHD hUV mV hF abA hU hV e8
 go_enter Tryz.func196,Tryz.ntmps196
 go_wp2_with fail
 go_quiet (fail)
 go_wp2_with fail
 go_quiet (fail)
 clear o1
 go_upto_block 0 with(fail)
 go_cut [8,9] (fun d r wx=>∃dg:Nat,d= .int .u64 (dg:Int)/\ze U V dg/\∃m,wx=w.drewN m)
 case first=>
  go_wp2_with fail
  go_loopw [8,9] (fun d r wr=>∃dg rs m:Nat,d= .int .u64 (dg:Int)/\r= .int .u64 (rs:Int)/\uw U V (fv (n-1)) HD dg rs/\wr=w.drewN m) (fun d _ _=>(intOf d).toNat)
  case atStart=>exact⟨HD/fv (n-1),HD%fv (n-1),_,E8.out,rfl,HX.out.start b4,by rw[World.drewN_drewN]⟩
  case round=>
   obtain⟨dg,rs,m,rfl,rfl,hinv,rfl⟩:=hrel;have hrs:=hinv.2.1;have hdg:=hinv.le (by omega);have HI:=Lib.hid hinv;clear hinv
   by_cases hD:4294967296<=dg
   ·
    obtain⟨s1,s2,s3⟩:=HX.out.stay HI.out (.inl hD)
    have t1:(4294967296:Int)<=(dg:Int):=by omega
    have S2:=Lib.hid s2;have S3:=Lib.hid s3;clear s2 s3
    by_cases hB:4294967296<=rs+fv (n-1)
    ·
     have t2:(4294967296:Int)<=(rs:Int)+(fv (n-1):Nat):=by omega
     go_wp2_with fail
     go_quiet (fail)
     go_wp2_with fail
     go_meet
     exact⟨dg-1,by congr 1;omega,HX.out.WX S2.out S3.out hB,_,rfl⟩
    ·
     have t2:decide ((4294967296:Int)<=(rs:Int)+(fv (n-1):Nat))=false:=decide_eq_false (by omega);go_wp2_with fail
     go_quiet (fail)
     go_wp2_with fail
     go_roundw
     case rel=>exact⟨dg-1,rs+fv (n-1),_,by congr 1;omega,by congr 1,⟨S2.out,by omega,S3.out⟩,rfl⟩
     case measure=>simp[intOf];omega
   ·
    have t1:¬(4294967296:Int)<=(dg:Int):=by omega
    have t1':decide ((4294967296:Int)<=(dg:Int))=false:=by simpa using t1
    have o2:=iu hrs b3
    have eo:((4294967296*rs:Nat):Int)=(rs:Int)*4294967296:=by omega
    rw[eo] at o2
    obtain⟨RS,hRS⟩:∃h,h=4294967296*rs+F (j+(n-2)):=⟨_,rfl⟩
    rw[<-hRS] at o2;have Iq:=eC (show dg<4294967296 by omega) b5
    have hpI:(dg:Int)*(fv (n-2):Nat)<=18446744065119617025:=by rw[<-Int.natCast_mul];omega
    have hp0:0<=(dg:Int)*(fv (n-2):Nat):=by rw[<-Int.natCast_mul];omega
    clear eo
    by_cases hT:RS<dg*fv (n-2)
    ·
     have t3:(RS:Int)<(dg:Int)*(fv (n-2):Nat):=by rw[<-Int.natCast_mul];omega
     obtain⟨s1,s2,s3⟩:=HX.out.stay HI.out (.inr (by rw[Nat.mul_comm rs,<-hRS];exact hT));have S2:=Lib.hid s2;have S3:=Lib.hid s3;clear s2 s3 hRS Iq
     by_cases hB:4294967296<=rs+fv (n-1)
     ·
      have t2:(4294967296:Int)<=(rs:Int)+(fv (n-1):Nat):=by omega
      go_wp2_with fail
      go_quiet (fail)
      go_wp2_with fail
      go_meet
      exact⟨dg-1,by congr 1;omega,HX.out.WX S2.out S3.out hB,_,rfl⟩
     ·
      have t2:decide ((4294967296:Int)<=(rs:Int)+(fv (n-1):Nat))=false:=decide_eq_false (by omega);go_wp2_with fail
      go_quiet (fail)
      go_wp2_with fail
      go_roundw
      case rel=>exact⟨dg-1,rs+fv (n-1),_,by congr 1;omega,by congr 1,⟨S2.out,by omega,S3.out⟩,rfl⟩
      case measure=>simp[intOf];omega
    ·
     have t3:decide ((RS:Int)<(dg:Int)*(fv (n-2):Nat))=false:=decide_eq_false (by rw[<-Int.natCast_mul];omega);have hpost:=HX.out.leave HI.out.1 HI.out.2.2 (by omega) (by rw[Nat.mul_comm rs,<-hRS];omega);have HP:=Lib.hid hpost;clear hRS Iq hpost;go_wp2_with fail
     go_quiet (fail)
     go_wp2_with fail
     go_meet
     exact⟨dg,rfl,HP.out,_,World.drewN_drewN ..⟩
 case rest=>
  obtain⟨dg,rfl,hpost,m,rfl⟩:=hcut;have hdg:=hpost.2.2;have HP:=Lib.hid hpost;clear hpost;go_wp2_with fail
  go_loopw [10,11,78] (fun cy bo i wr=>∃k:Nat,k<=n/\i= .int .i64 k/\cy= .int .u64 (fD dg fv k:Nat)/\bo= .int .u64 (lT dg (fun i=>F (j+i)) fv k:Nat)/\Row wr gu 171 .u32 M M (oM j dg F fv k)/\w.grownBy wr (some gu)) (fun _ _ i _=>n-(intOf i).toNat)
  case atStart=>exact⟨0,Nat.zero_le _,rfl,rfl,rfl,(hu.drewN _).congr fun q _=>by simp only[oM];rw[if_neg (by omega)],DC _ _⟩
  case round=>
   obtain⟨k,hk,rfl,rfl,rfl,hrow,cX⟩:=hrel;have hvr:=hv.grown cX (by simpa using hne)
   by_cases hlt:k<n
   ·
    have c0:=hvr.cell (i:=k) (by omega);have c1:=hrow.cell (i:=j+k) (by omega);have c2:=hrow.frozen (j+k);rw[show oM j dg F fv k (j+k)=F (j+k) by simp[oM]] at c1;have d1:=HFv.out k;have d2:=HF.out (j+k);have d3:=uv hdg HFv.out k;have d4:=zb dg (fun i=>F (j+i)) fv k;have Iq:=eC hdg d1
    have hpI:(dg:Int)*(fv k:Nat)<=18446744065119617025:=by rw[<-Int.natCast_mul];omega
    have hp0:0<=(dg:Int)*(fv k:Nat):=by rw[<-Int.natCast_mul];omega
    clear Iq;go_wp2_with fail
    go_roundw
    case rel=>
     rw[pN,pM,wX d2 (gE ..) d4,wY d2 (gE ..) d4];refine⟨k+1,by omega,by go_num,rfl,rfl,hrow.set ?_ fun q _ hq=> ?_,kD cX _ _⟩
     ·simp only[oM];rw[if_pos (by omega),show j+k-j=k by omega];rfl
     ·simp only[oM,show(j<=q/\q<j+(k+1))↔(j<=q/\q<j+k) by omega]
    case measure=>simp[intOf];omega
   ·
    obtain rfl:k=n:=by omega
    have c1:=hrow.cell (i:=j+k) (by omega);have c2:=hrow.frozen (j+k);rw[show oM j dg F fv k (j+k)=F (j+k) by simp[oM]] at c1;have d3:=uv hdg HFv.out k;have d4:=zb dg (fun i=>F (j+i)) fv k;have l1:=wY b1 d3 d4;have l2:=wX b1 d3 d4
    obtain⟨X,hX⟩:∃x:Int,x=IntKind.u64.wrap (IntKind.u64.wrap (((F (j+k):Nat):Int)-((fD dg fv k:Nat):Int))-((lT dg (fun i=>F (j+i)) fv k:Nat):Int)):=⟨_,rfl⟩
    rw[<-hX] at l1 l2
    by_cases hbo:F (j+k)<fD dg fv k+lT dg (fun i=>F (j+i)) fv k
    ·
     have t1:(X/9223372036854775808==0)=false:=by
      rw[l2];unfold kr;rw[if_pos hbo];rfl
     rw[hX] at t1 l1;have L1:=Lib.hid l1;clear l1 l2 hX;obtain⟨QU,hq,hr⟩:=JE (d:=dg) (n:=k) (V:=V) (u:=fun i=>F (j+i)) (fun i=>HF.out (j+i)) HFv.out HV.out.symm (by rw[<-HU.out];exact HP.out.2.1) hbo hdg;have HQ:=Lib.hid hq;have HR:=Lib.hid hr;clear hq hr
     have wU:Row (wr.setCell ⟨gu,j+k,none⟩ (.int .u32 (IntKind.u64.wrap (IntKind.u64.wrap (((F (j+k):Nat):Int)-((fD dg fv k:Nat):Int))-((lT dg (fun i=>F (j+i)) fv k:Nat):Int))%4294967296))) gu 171 .u32 M M (oN j k dg F fv):=
      hrow.EV (by rw[L1.out];simp only[oN,if_true]) fun q _ hq=>by simp only[oN,if_neg hq]
     have ahs:=kD cX (j+k) (.int .u32 (IntKind.u64.wrap (IntKind.u64.wrap (((F (j+k):Nat):Int)-((fD dg fv k:Nat):Int))-((lT dg (fun i=>F (j+i)) fv k:Nat):Int))%4294967296));have R2:=Lib.hid wU;have G2:=Lib.hid ahs;clear wU ahs;go_wp2_with fail
     go_loopw [17,131] (fun up i wx=>∃q:Nat,q<=k/\i= .int .i64 q/\up= .int .u32 (zc (sI dg (fun i=>F (j+i)) fv) fv q:Nat)/\Row wx gu 171 .u32 M M (qV j k dg F fv q)/\w.grownBy wx (some gu)) (fun _ i _=>k-(intOf i).toNat)
     case atStart=>exact⟨0,Nat.zero_le _,rfl,rfl,R2.out.congr fun q _=>by simp only[qV];rw[if_neg (by omega)],G2.out⟩
     case round=>
      obtain⟨q,hq,rfl,rfl,wZ,abB⟩:=hrel;have aoh:=hv.grown abB (by simpa using hne);have f4:=OK (fun i=>qJ dg (fun i=>F (j+i)) fv i) HFv.out q
      by_cases hlq:q<k
      ·
       have c3:=aoh.cell (i:=q) (by omega);have c4:=wZ.cell (i:=j+q) (by omega);have c5:=wZ.frozen (j+q)
       have ef:qV j k dg F fv q (j+q)=sI dg (fun i=>F (j+i)) fv q:=by
        simp only[qV,oN,oM];rw[if_neg (by omega),if_neg (by omega),if_pos (by omega),show j+q-j=q by omega]
       rw[ef] at c4;have f1:=HFv.out q;have f2:=qJ dg (fun i=>F (j+i)) fv q
       have aht:=fun w=>Ju _ _ _ w f2 f1 f4
       have HA:=Lib.hid aht;clear aht ef;go_wp2_with fail
       refine(HA.out _).mono ?_
       rintro e w2 ⟨rfl,rfl⟩
       go_wp2_with fail
       go_roundw
       case rel=>
        refine⟨q+1,by omega,by go_num,rfl,wZ.EV ?_ fun p _ hp=> ?_,kD abB _ _⟩
        ·simp only[qV];rw[if_pos (by omega),show j+q-j=q by omega];rfl
        ·simp only[qV,show(j<=p/\p<j+(q+1))↔(j<=p/\p<j+q) by omega]
       case measure=>simp[intOf];omega
      ·
       obtain rfl:q=k:=by omega
       have c4:=wZ.cell (i:=j+q) (by omega);have c5:=wZ.frozen (j+q)
       have ef:qV j q dg F fv q (j+q)=gI (F (j+q)) (fD dg fv q) (lT dg (fun i=>F (j+i)) fv q):=by
        simp only[qV,oN];rw[if_neg (by omega),if_pos trivial]
       rw[ef] at c4;have f5:=kX (F (j+q)) (fD dg fv q) (lT dg (fun i=>F (j+i)) fv q);clear ef;go_wp2_with fail
       go_ret
       refine⟨fun p=>if p=j+q then(gI (F (j+q)) (fD dg fv q) (lT dg (fun i=>F (j+i)) fv q)+zc (sI dg (fun i=>F (j+i)) fv) fv q)%4294967296 else qV j q dg F fv q p,fC ?_,wZ.EV ?_ fun p _ hp=> ?_,fun i=> ?_,fun i hi=> ?_, ?_,kD abB _ _⟩
       ·rw[<-HV.out,HQ.out];omega
       ·rw[if_pos rfl];omega
       ·rw[if_neg hp]
       ·
        show(if i=j+q then _ else _)<_
        split
        ·exact Nat.mod_lt _ (by decide)
        ·exact abz HF.out i
       ·simp only[qV,oN,oM];rw[if_neg (by omega),if_neg (by omega),if_neg (by omega),if_neg (by omega)]
       ·
        rw[<-HV.out,HR.out,aZ]
        congr 1
        ·exact ei fun i hi=>by simp only[qV];rw[if_neg (by omega),if_pos (by omega),show j+i-j=i by omega]
        ·simp only[if_true]
    ·
     have t1:(X/9223372036854775808==0)=true:=by
      rw[l2];unfold kr;rw[if_neg hbo];rfl
     rw[hX] at t1;obtain⟨hq,hr⟩:=Fg (d:=dg) (n:=k) (V:=V) (u:=fun i=>F (j+i)) (fun i=>HF.out (j+i)) HV.out.symm (by rw[<-HU.out];exact HP.out.1) HX.out.pos (by omega);have HQ:=Lib.hid hq;have HR:=Lib.hid hr;clear l1 l2 hX hq hr;go_wp2_with fail
     go_ret
     refine⟨oN j k dg F fv,fC ?_,hrow.EV ?_ fun q _ hq=> ?_,fun i=> ?_,fun i hi=> ?_, ?_,kD cX _ _⟩
     ·rw[<-HV.out,HQ.out]
     ·simp only[oN,if_true];unfold gI;omega
     ·simp only[oN,if_neg hq]
     ·
      simp only[oN,oM]
      split
      ·exact kX ..
      ·
       split
       ·exact qJ ..
       ·exact HF.out i
     ·simp only[oN,oM];rw[if_neg (by omega),if_neg (by omega)]
     ·
      rw[<-HV.out,HR.out,aZ]
      congr 1
      ·exact ei fun i hi=>by simp only[oN,oM];rw[if_neg (by omega),if_pos (by omega),show j+i-j=i by omega]
      ·
       congr 1
       simp only[oN,if_true];unfold gI;omega
end
section
open Go.RowKit

def tC (a b:Nat)(w:World)(e:Ending)(w':World):Prop:=
 ∃A c A' c',e= .returned (.tuple #[.slice A (ln ah (a/b)) c,.slice A' (ln ah (a%b)) c'])/\ln ah (a/b)<=c/\ln ah (a%b)<=c'/\aL w' A (a/b)/\aL w' A' (a%b)/\Below w.heap.size w w'

theorem zB (A B:Option Addr)(c d a b:Nat)(w:World)(ha:aL w A a)(hb:aL w B b)(hab:a<b)(hn:ln ah a<=1000000):
  Calls Tryz.prog 182 #[.slice A (ln ah a) c,.slice B (ln ah b) d] w (tC a b w):=by
 have t1:jP a b<0:=by rw[pL hab];decide
 have hq:a/b=0:=Nat.div_eq_of_lt hab;have hr:a%b=a:=Nat.mod_eq_of_lt hab;have HQ:=Lib.hid hq;have HR:=Lib.hid hr;clear hq hr
 go_enter Tryz.func182,Tryz.ntmps182
 go_wp2_with fail
 refine(fM _ _ _ _ a b _ ha hb (by omega)).mono ?_
 rintro e w1 ⟨rfl,m,rfl⟩
 go_wp2_with fail
 refine(rK A _ c (aB ah a) (w.drewN m) (Rd.drewN ha m) (by omega)).mono ?_
 rintro e w1 ⟨v,rfl,hown,aV,-⟩
 obtain⟨A1,c1,rfl,hnc,hrow⟩:=qG.mI hown;go_wp2_with fail
 go_ret2
 refine⟨none,0,A1,c1,by rw[HQ.out,HR.out,cF];rfl,by rw[HQ.out,cF];omega,by rw[HR.out];exact hnc,by rw[HQ.out];exact aL.zero _ _,by rw[HR.out];exact hrow.rd, ?_⟩;exact(cI (Below.refl _ w) m).trans aV

theorem FA (A B:Option Addr)(c d a b:Nat)(w:World)(ha:aL w A a)(hb:aL w B b)(hab:b<=a)(hn:ln ah a<=1000000)(h1:ln ah b=1):
  Calls Tryz.prog 182 #[.slice A (ln ah a) c,.slice B (ln ah b) d] w (tC a b w):=by
 have t1:decide (jP a b<0)=false:=by
  rcases Nat.lt_or_eq_of_le hab with h|h
  ·rw[nk h];decide
  ·rw[yS h.symm];decide
 have hb0:0<b:=(cK aF).1 (by omega)
 have dI:b<4294967296:=by have:=(bf aF (x:=b) (k:=1)).1 (by omega);rw[Nat.pow_one] at this;exact this
 have QU:aB ah b 0=b:=TE dI;obtain⟨p,q,rfl,hp,hcb⟩:=hb (by omega);have c0:=hcb 0 (by omega);rw[QU,Nat.add_zero] at c0
 have t2:(((ln ah b:Nat):Int)==1)=true:=by rw[h1];rfl
 have hl:=Nat.mod_lt a hb0;have HL1:=Lib.hid h1
 have t3:1<=ln ah b:=by omega
 clear h1 QU;have hcmp:=fM A (some ⟨p,q,none⟩) c d a b w ha hb (by omega)
 have hdiv:=fun w' (hb':Below w.heap.size w w')=>za A c a b w' (ha.below hb') hb0 dI hn
 have HC:=Lib.hid hcmp;have HD:=Lib.hid hdiv;clear hcmp hdiv
 go_enter Tryz.func182,Tryz.ntmps182
 go_wp2_with fail
 refine HC.out.mono ?_
 rintro e w1 ⟨rfl,m,rfl⟩
 go_wp2_with fail
 refine(HD.out _ (cI (Below.refl _ w) m)).mono ?_
 rintro e w1 ⟨A1,c1,rfl,oR,ahu,kB⟩
 go_wp2_with fail
 have e1:(a:Int)%b=((a%b:Nat):Int):=(Int.natCast_emod ..).symm;have ht:=OA w1.heap.size (a%b) 1 (w1.alloc (.cells #[.int .u32 ((a:Int)%b)] 171)) (by rw[World.cell?_alloc_new,e1];rfl) (by simp) (by omega) (Nat.le_refl _);clear e1;have HT:=Lib.hid ht;clear ht;refine HT.out.mono ?_
 rintro e w2 ⟨rfl,rfl,DE,kJ⟩
 go_wp2_with fail
 go_ret2
 exact⟨A1,c1,_,1,rfl,oR,kJ,ahu.below ((Below.refl _ _).alloc (Nat.le_refl _) _),DE,((cI (Below.refl _ w) m).trans kB).alloc (by simpa using kB.size) _⟩

theorem P7 (x:Nat)(w:World)(h0:0<x)(h:x<4294967296):Calls Tryz.prog 194 #[.int .u32 (x:Int)] w fun e w'=>e= .returned (.int .i64 (lz x:Int))/\w=w':=
 (Tryz.bits_LeadingZeros32 (x:Int) w (by omega) (by omega)).mono fun e w' ⟨he,hw⟩=>⟨by
  obtain⟨_,_,_,h4⟩:=Hi h0 h
  rw[he,Int.toNat_natCast,h4],hw.symm⟩

structure rU (H gu gv gq la n A2 V k:Nat)(w wr:World)(F:Nat->Nat):Prop where
 u:Row wr gu 171 .u32 (la+1) (la+1) F
 fu:∀i,F i<4294967296
 win:vs ah (fun i=>F (k+i)) (la+1-k)=A2/ah^k%V
 low:∀i,i<k->F i=aB ah A2 i
 v:Row wr gv 171 .u32 (n+1) (n+1) (aB ah V)
 q:Row wr gq 171 .u32 (la-n+1) (la-n+1) (fun j=>if k<=j then aB ah (A2/V) j else 0)
 below:Below H w wr

theorem rU.high {H gu gv gq la n A2 V k:Nat}{w wr:World}{F:Nat->Nat}(h:rU H gu gv gq la n A2 V k w wr F)(hk:k<=la+1)(hV:0<V)(QY:V<ah^n)(i:Nat)(hi:n<=i)(hi2:k+i<la+1):F (k+i)=0:=by
 have h1:=yR (B:=ah) (f:=fun i=>F (k+i)) (m:=la+1-k) (j:=i) (fun j _=>h.fu (k+j)) (by omega);rw[h.win] at h1;rw[<-h1];have h2:=Nat.mod_lt (A2/ah^k) hV;exact bQ (Nat.lt_of_lt_of_le h2 (Nat.le_of_lt (Nat.lt_of_lt_of_le QY (Nat.pow_le_pow_right (by decide) hi))))
theorem rU.P8 {H gu gv gq la n A2 V j:Nat}{w wr:World}{F:Nat->Nat}(h:rU H gu gv gq la n A2 V (j+1) w wr F)(hj:j+n<la+1)(hV:0<V)(QY:V<ah^n):
  vs ah (fun i=>F (j+i)) (n+1)=ah*(A2/ah^(j+1)%V)+aB ah A2 j:=by
 rw[uk]
 have e1:vs ah (fun i=>F (j+(i+1))) n=A2/ah^(j+1)%V:=by
  have h1:=qE ah (fun i=>F (j+1+i)) n (la+1-(j+1)-n);rw[show n+(la+1-(j+1)-n)=la+1-(j+1) by omega,h.win,uj fun i hi=>h.high (by omega) hV QY (n+i) (by omega) (by omega),Nat.mul_zero,Nat.add_zero] at h1;rw[h1]
  exact ei fun i _=>by rw[show j+(i+1)=j+1+i by omega]
 rw[e1,show F (j+0)=aB ah A2 j from h.low j (by omega)];omega
theorem rU.step {H gu gv gq la n A2 V j:Nat}{w wr w2:World}{F F':Nat->Nat}(h:rU H gu gv gq la n A2 V (j+1) w wr F)(hj:j+n<la+1)(hV:0<V)(QY:V<ah^n)(hgu:H<=gu)(hgq:H<=gq)(huv:gv≠gu)(hqu:gq≠gu)(QJ:gq≠gv)
  (h1:Row w2 gu 171 .u32 (la+1) (la+1) F') (h2:∀i,F' i<4294967296) (h3:∀i,i<j\/j+n<i->F' i=F i)
  (h4:vs ah (fun i=>F' (j+i)) (n+1)=vs ah (fun i=>F (j+i)) (n+1)%V) (h5:wr.grownBy w2 (some gu)) {u:Int} (hu:u=((vs ah (fun i=>F (j+i)) (n+1)/V:Nat):Int)):
  rU H gu gv gq la n A2 V j w (w2.setCell ⟨gq,j,none⟩ (.int .u32 u)) F':=by
 have hw:=h.P8 hj hV QY;obtain⟨s1,s2⟩:=oD (B:=ah) (x:=A2) (k:=j) hV
 have hq:vs ah (fun i=>F (j+i)) (n+1)/V=aB ah (A2/V) j:=by
  rw[hw,<-s1];refine(Nat.mod_eq_of_lt ?_).symm;rw[Nat.div_lt_iff_lt_mul hV];have h6:=Nat.mod_lt (A2/ah^(j+1)) hV;have h7:ah*(A2/ah^(j+1)%V+1)<=ah*V:=Nat.mul_le_mul_left _ h6;have h8:=aP A2 j;rw[Nat.mul_add] at h7;have h9:ah=4294967296:=rfl;omega
 have aV:Below H w w2:=h.below.grown h5 (Nat.le_trans hgq (Nat.le_of_lt h.q.lt)) (fun k e=>by cases e;exact hgu);refine⟨h1.far (p:=⟨gq,j,none⟩) (Ne.symm hqu) _,h2, ?_,fun i hi=>by rw[h3 i (by omega)];exact h.low i (by omega),(h.v.grown h5 (by simpa using huv)).far (p:=⟨gq,j,none⟩) (Ne.symm QJ) _, ?_,aV.setCell (by exact hgq) _⟩
 ·
  have e:=qE ah (fun i=>F' (j+i)) (n+1) (la+1-j-(n+1))
  have ez:vs ah (fun i=>F' (j+(n+1+i))) (la+1-j-(n+1))=0:=uj fun i hi=>by
   show F' (j+(n+1+i))=0;rw[h3 _ (by omega),show j+(n+1+i)=j+1+(n+i) by omega];exact h.high (by omega) hV QY (n+i) (by omega) (by omega)
  rw[show n+1+(la+1-j-(n+1))=la+1-j by omega,h4,hw,s2,ez] at e;rw[e];omega
 ·
  refine(h.q.grown h5 (by simpa using hqu)).EV ?_ fun p _ hp=> ?_
  ·rw[hu,hq,if_pos (Nat.le_refl _)]
  ·simp only[show j+1<=p↔j<=p by omega]

theorem DF (A B:Option Addr)(c d a b:Nat)(w:World)(ha:aL w A a)(hb:aL w B b)(hab:b<=a)(hn:ln ah a<=1000000)(h2:2<=ln ah b):
  Calls Tryz.prog 182 #[.slice A (ln ah a) c,.slice B (ln ah b) d] w (tC a b w):=by
 have t1:decide (jP a b<0)=false:=by
  rcases Nat.lt_or_eq_of_le hab with h|h
  ·rw[nk h];decide
  ·rw[yS h.symm];decide
 have hb0:0<b:=(cK aF).1 (by omega);have hna:=bO aF hab;obtain⟨p,q,rfl,hp,hcb⟩:=hb (by omega);have c0:=hcb (ln ah b-1) (by omega)
 have t2:(((ln ah b:Nat):Int)==1)=false:=by simp;omega
 obtain⟨s,hs⟩:∃s,s=lz (aB ah b (ln ah b-1)):=⟨_,rfl⟩
 obtain⟨DG,QY,Xu,ahv⟩:=CX rfl hb0 hs
 have hlz:=fun w=>P7 (aB ah b (ln ah b-1)) w (by have:=pK aF hb0;omega) (aP ..)
 rw[<-hs] at hlz;have TQ:0<b*2^s:=Nat.mul_pos hb0 (Nat.pow_pos (by decide));have hcmp:=fM A (some ⟨p,q,none⟩) c d a b w ha hb (by omega)
 have ahw:=fun w' (hb':Below w.heap.size w w')=>rO (some ⟨p,q,none⟩) d b s w' (hb.below hb') DG (by omega)
 have ahx:=fun w' (hb':Below w.heap.size w w')=>rO A c a s w' (ha.below hb') DG hn
 have hmk:=CM (ln ah a-ln ah b+1) (ln ah a-ln ah b+1) (Nat.le_refl _) (by omega);rw[show((ln ah a-ln ah b+1:Nat):Int)=(ln ah a:Int)-(ln ah b:Int)+1 by omega] at hmk;have HC:=Lib.hid hcmp;have HS1:=Lib.hid ahw;have HS2:=Lib.hid ahx;have HLZ:=Lib.hid hlz;have HVn:=Lib.hid QY;have ahy:=Lib.hid Xu;have aoi:=Lib.hid ahv;have HS:=Lib.hid hs;clear hcmp ahw ahx hlz QY Xu ahv hs
 go_enter Tryz.func182,Tryz.ntmps182
 go_wp2_with fail
 refine HC.out.mono ?_
 rintro e w1 ⟨rfl,m,rfl⟩
 go_wp2_with fail
 refine(HLZ.out _).mono ?_
 rintro e w1 ⟨rfl,rfl⟩
 go_wp2_with fail
 refine(HS1.out _ (cI (Below.refl _ w) m)).mono ?_
 rintro e w1 ⟨rfl,hrv,kB⟩
 go_wp2_with fail
 have FB:Below w.heap.size w w1:=(cI (Below.refl _ w) m).trans kB;refine(HS2.out _ FB).mono ?_
 rintro e w2 ⟨rfl,hru,dD⟩
 go_wp2_with fail
 clear hmk;have l1:=hrv.lt;have l2:=hru.lt;have l3:=dD.size;have l4:=FB.size;simp only[World.heap_drewN] at hrv l1;have aoj:=hrv.below dD hrv.lt
 go_loopw [13] (fun i wr=>∃(k:Nat) (F:Nat->Nat),k<=ln ah a-ln ah b+1/\i= .int .i64 ((k:Int)-1)/\rU w.heap.size w1.heap.size w.heap.size w2.heap.size (ln ah a) (ln ah b) (a*2^s) (b*2^s) k w wr F) (fun i _=>(intOf i+1).toNat)
 case atStart=>
  refine⟨ln ah a-ln ah b+1,aB ah (a*2^s),Nat.le_refl _, ?_,hru.alloc _,fun i=>aP _ i, ?_,fun _ _=>rfl,aoj.alloc _,Row.made.congr fun j hj=>by rw[if_neg (by omega)],(FB.trans (dD.mono (by omega))).alloc (by omega) _⟩
  ·congr 1;omega
  ·
   have h3:=Jz (A2:=a*2^s) (V:=b*2^s) (n:=ln ah b) (aW aF a) rfl DG (by omega) hna aoi.out;rw[Nat.mod_eq_of_lt h3]
   have h4:a*2^s<ah^(ln ah a+1):=by
    rw[Nat.pow_succ];have h5:=aW aF a;have h6:2^s<ah:=Nat.lt_of_le_of_lt (Nat.pow_le_pow_right (by decide) (show s<=31 by omega)) (by decide);exact Nat.lt_of_lt_of_le (Nat.mul_lt_mul_of_pos_right h5 (Nat.pow_pos (by decide))) (Nat.mul_le_mul_left _ (Nat.le_of_lt h6))
   have h7:=Om (B:=ah) (f:=aB ah (a*2^s)) (m:=ln ah a+1) (j:=ln ah a-ln ah b+1) (fun i _=>aP _ i) (by omega);rw[bM h4] at h7;exact h7.symm
 case round=>
  obtain⟨k,F,hk,rfl,hst⟩:=hrel
  rcases Nat.eq_zero_or_pos k with rfl|Oz
  ·
   obtain⟨R,hR⟩:∃R,R=a*2^s%(b*2^s):=⟨_,rfl⟩
   obtain⟨Q,hQ⟩:∃Q,Q=a*2^s/(b*2^s):=⟨_,rfl⟩
   have hrF:Row wr w1.heap.size 171 .u32 (ln ah a+1) (ln ah a+1) (aB ah R):=hst.u.congr fun i hi=>by
    have h1:=hst.win;simp only[Nat.zero_add,Nat.sub_zero,Nat.pow_zero,Nat.div_one] at h1;rw[<-hR] at h1;rw[<-h1];exact(yR (fun j _=>hst.fu j) hi).symm
   have hrQ:Row wr w2.heap.size 171 .u32 (ln ah a-ln ah b+1) (ln ah a-ln ah b+1) (aB ah Q):=hst.q.congr fun i _=>by rw[if_pos (Nat.zero_le _),hQ]
   have ahz:=hst.below;have HR:=Lib.hid hR;have HQ:=Lib.hid hQ;clear hst hR hQ;go_wp2_with fail
   go_loopw [78] (fun i wx=>∃k:Nat,k<=ln ah b/\i= .int .i64 k/\Row wx w1.heap.size 171 .u32 (ln ah a+1) (ln ah a+1) (fun q=>if q<k then aB ah (R/2^s) q else aB ah R q)/\Row wx w2.heap.size 171 .u32 (ln ah a-ln ah b+1) (ln ah a-ln ah b+1) (aB ah Q)/\Below w.heap.size w wx) (fun i _=>ln ah b-(intOf i).toNat)
   case atStart=>exact⟨0,Nat.zero_le _,rfl,hrF.congr fun i _=>by rw[if_neg (by omega)],hrQ,ahz⟩
   case round=>
    obtain⟨k,hk,rfl,hrow,Xv,Xw⟩:=hrel
    by_cases hlt:k<ln ah b
    ·
     have c1:=hrow.cell (i:=k) (by omega);have c2:=hrow.cell (i:=k+1) (by omega);have c3:=hrow.frozen k;rw[if_neg (by omega)] at c1 c2;have d1:=aP R k;have d2:=aP R (k+1);have o1:=iu d2 d1
     obtain⟨X,hX⟩:∃X,X=4294967296*aB ah R (k+1)+aB ah R k:=⟨_,rfl⟩
     rw[<-hX,show((4294967296*aB ah R (k+1):Nat):Int)=(aB ah R (k+1):Int)*4294967296 by omega] at o1
     have aok:X<18446744073709551616:=by omega
     have HX:=Lib.hid hX;clear hX;go_wp2_with fail
     go_region
     go_wp2_with fail
     go_roundw
     case rel=>
      refine⟨k+1,by omega,by go_num,(hrow.EV ?_ fun p _ hp=> ?_).drew,(Xv.far (p:=⟨w1.heap.size,k,none⟩) (by simp;omega) _).drew,(Xw.setCell (by simp;omega) _).drew⟩
      ·rw[if_pos (by omega),<-vv DG,Nat.mul_comm (aB ah R (k+1)),<-HX.out,Int.natCast_emod,Int.natCast_ediv,Int.natCast_pow];rfl
      ·simp only[show p<k+1↔p<k by omega]
     case measure=>simp[intOf];omega
    ·
     obtain rfl:k=ln ah b:=by omega
     have Ik:0<2^s:=Nat.pow_pos (by decide)
     have hRv:R/2^s=a%b:=by rw[HR.out,Nat.mul_mod_mul_right,Nat.mul_div_cancel _ Ik]
     have hQv:Q=a/b:=by rw[HQ.out,Nat.mul_div_mul_right _ _ Ik]
     have abC:R/2^s<ah^ln ah b:=by rw[hRv];exact Nat.lt_trans (Nat.mod_lt _ hb0) (aW aF b)
     have Vi:Q<ah^(ln ah a-ln ah b+1):=by rw[hQv];exact TL (aW aF a) (kW aF hb0) (by omega) hna
     have JI:Row wr w1.heap.size 171 .u32 (ln ah a+1) (ln ah b) (aB ah (R/2^s)):=(hrow.shorter (by omega)).congr fun i hi=>by rw[if_pos hi]
     have q1:=fun n=>fy (some ⟨w2.heap.size,0,none⟩) _ (ln ah a-ln ah b+1) (aB ah Q) (wr.drewN n) ((Xv.rd (Nat.le_refl _) Xv.lt).drewN n) (fun i _=>aP Q i) (Nat.le_refl _) (by omega)
     have q2:=fun n=>fy (some ⟨w1.heap.size,0,none⟩) _ (ln ah a+1) (aB ah (R/2^s)) (wr.drewN n) ((JI.rd (Nat.le_refl _) JI.lt).drewN n) (fun i _=>aP (R/2^s) i) (by omega) (by omega)
     rw[bM Vi,hQv] at q1;rw[bM abC,hRv] at q2
     have Q1:=Lib.hid fun n=>(q1 n).mono (R':=fun e w'=>e= .returned (.slice (some ⟨w2.heap.size,0,none⟩) (ln ah (a/b)) (ln ah a-ln ah b+1))/\w'=wr.drewN n) fun _ _ ⟨he,hw,_⟩=>⟨he,hw.symm⟩
     have Q2:=Lib.hid fun n=>(q2 n).mono (R':=fun e w'=>e= .returned (.slice (some ⟨w1.heap.size,0,none⟩) (ln ah (a%b)) (ln ah a+1))/\w'=wr.drewN n) fun _ _ ⟨he,hw,_⟩=>⟨he,hw.symm⟩
     have N1:aL wr (some ⟨w2.heap.size,0,none⟩) (a/b):=by
      have h:=aL.rJ (Xv.rd (Nat.le_refl _) Xv.lt) (fun i _=>aP Q i);rw[bM Vi,hQv] at h;exact h
     have N2:aL wr (some ⟨w1.heap.size,0,none⟩) (a%b):=by
      have h:=aL.rJ (JI.rd (Nat.le_refl _) JI.lt) (fun i _=>aP (R/2^s) i);rw[bM abC,hRv] at h;exact h
     have L1:ln ah (a/b)<=ln ah a-ln ah b+1:=by rw[<-hQv];exact(bf aF).2 Vi
     have L2:ln ah (a%b)<=ln ah a+1:=Nat.le_trans (bO aF (Nat.mod_le a b)) (Nat.le_succ _);clear q1 q2 hRv hQv abC Vi JI;go_wp2_with fail
     go_quiet ((go_at_call 174;first|(with_reducible exact Calls.quiet_of_same (Q1.out _))|(with_reducible exact Calls.quiet_of_same (Q2.out _))))
     go_wp2_with fail
     go_ret2
     exact⟨_,_,_,_,rfl,L1,L2,N1,N2,cI Xw _⟩
  ·
   obtain⟨j,rfl⟩:∃j,k=j+1:=⟨k-1,by omega⟩
   have ej:(((j+1:Nat):Int)-1)=(j:Int):=by omega
   rw[ej];have hw:=hst.P8 (by omega) TQ HVn.out
   have hlt:vs ah (fun i=>F (j+i)) (ln ah b+1)<vs ah (aB ah (b*2^s)) (ln ah b)*ah:=by
    rw[hw,bM HVn.out];have h6:=Nat.mod_lt (a*2^s/ah^(j+1)) TQ;have h7:ah*(a*2^s/ah^(j+1)%(b*2^s)+1)<=ah*(b*2^s):=Nat.mul_le_mul_left _ h6;have h8:=aP (a*2^s) j;rw[Nat.mul_add] at h7;rw[Nat.mul_comm _ ah];have h9:ah=4294967296:=rfl;omega
   have rN:=zA w1.heap.size j (ln ah a+1-j) w.heap.size (ln ah b+1) (ln ah b) (ln ah a+1) (ln ah b+1) F (aB ah (b*2^s)) wr hst.u hst.fu hst.v (fun i=>aP _ i) (by omega) h2 (by omega) (by omega) (by omega) ahy.out hlt;rw[bM HVn.out] at rN;have HCA:=Lib.hid rN;have HW:=Lib.hid hw;have c5:=hst.q.cell (i:=j) (by omega);clear rN hw hlt ej;go_wp2_with fail
   rw[show j+ln ah b+1-j=ln ah b+1 by omega];refine HCA.out.mono ?_
   rintro e w5 ⟨F',rfl,r1,r2,r3,r4,r5⟩
   have Xv:=hst.q.grown r5 (by simp;omega);have c6:=Xv.cell (i:=j) (by omega);have c7:=Xv.frozen j;have HST:=Lib.hid (fun u hu=>hst.step (w2:=w5) (F':=F') (u:=u) (by omega) TQ HVn.out (by omega) (by omega) (by omega) (by omega) (by omega) r1 r2 r3 r4 r5 hu);clear r2 r3 r4;go_wp2_with fail
   go_roundw
   case rel=>exact⟨j,F',by omega,by go_num,HST.out _ rfl⟩
   case measure=>simp[intOf]
theorem oO (A B:Option Addr)(c d a b:Nat)(w:World)(ha:aL w A a)(hb:aL w B b)(hb0:0<b)(hn:ln ah a<=1000000):
  Calls Tryz.prog 182 #[.slice A (ln ah a) c,.slice B (ln ah b) d] w (tC a b w):=by
 by_cases hab:a<b
 ·exact zB A B c d a b w ha hb hab hn
 ·
  have:=(cK aF).2 hb0
  by_cases h1:ln ah b=1
  ·exact FA A B c d a b w ha hb (by omega) hn h1
  ·exact DF A B c d a b w ha hb (by omega) hn (by omega)
end
section
open Go.RowKit

def dK (w:World)(g:Nat)(ev:Bool)(u0 u1 v0 v1:Nat):Prop:=
 w.heap[g]?=some (.cells #[.int .u64 (u0:Int),.int .u64 (u1:Int),.int .u64 (v0:Int),.int .u64 (v1:Int),.bool ev] 194 (0,0))

theorem dK.cells {w:World}{g:Nat}{ev:Bool}{u0 u1 v0 v1:Nat}(h:dK w g ev u0 u1 v0 v1):
  w.cell? ⟨g,0,none⟩=some (.int .u64 (u0:Int))/\w.cell? ⟨g,1,none⟩=some (.int .u64 (u1:Int))/\w.cell? ⟨g,2,none⟩=some (.int .u64 (v0:Int))/\w.cell? ⟨g,3,none⟩=some (.int .u64 (v1:Int))/\w.cell? ⟨g,4,none⟩=some (.bool ev):=by
 refine⟨?_, ?_, ?_, ?_, ?_⟩<;>exact(cell_of_row w g _ _ _ (0,0) h).trans rfl
theorem dK.frozen {w:World}{g:Nat}{ev:Bool}{u0 u1 v0 v1:Nat}(h:dK w g ev u0 u1 v0 v1)(i:Nat):w.frozen? ⟨g,i,none⟩=false:=by
 simp[World.frozen?,show w.heap[g]?=_ from h]
theorem dK.lt {w:World}{g:Nat}{ev:Bool}{u0 u1 v0 v1:Nat}(h:dK w g ev u0 u1 v0 v1):g<w.heap.size:=jE h
theorem dK.far {w:World}{g:Nat}{ev:Bool}{u0 u1 v0 v1:Nat}(h:dK w g ev u0 u1 v0 v1){p:Addr}(hp:g≠p.block)(u:Value):dK (w.setCell p u) g ev u0 u1 v0 v1:=
 (Below.heap_setCell w p u g hp).trans h
theorem dK.set {w:World}{g:Nat}{ev:Bool}{u0 u1 v0 v1:Nat}(h:dK w g ev u0 u1 v0 v1)(u0' u1' v0' v1':Nat)(ev':Bool):
  dK (((((w.setCell ⟨g,0,none⟩ (.int .u64 (u0':Int))).setCell ⟨g,1,none⟩ (.int .u64 (u1':Int))).setCell ⟨g,2,none⟩ (.int .u64 (v0':Int))).setCell ⟨g,3,none⟩ (.int .u64 (v1':Int))).setCell ⟨g,4,none⟩ (.bool ev')) g ev' u0' u1' v0' v1':=by
 unfold dK at h⊢
 simp[World.setCell,Array.getElem?_modify,h]

def Vj (a b:Nat)(w:World)(e:Ending)(w':World):Prop:=
 ∃ev u0 u1 v0 v1,e= .returned (.agg #[.int .u64 ((u0:Nat):Int),.int .u64 ((u1:Nat):Int),.int .u64 ((v0:Nat):Int),.int .u64 ((v1:Nat):Int),.bool ev])/\(v0=0\/sV a b ev u0 u1 v0 v1)/\Below w.heap.size w w'

theorem zC (A B:Option Addr)(c d a b:Nat)(w:World)(ha:aL w A a)(hb:aL w B b)(hba:b<=a)(hn:ln ah a<=1000000)(h3:3<=ln ah b):
  Calls Tryz.prog 188 #[.slice A (ln ah a) c,.slice B (ln ah b) d] w (Vj a b w):=by
 have hlb:ln ah b<=ln ah a:=(bf aF).2 (Nat.lt_of_le_of_lt hba (aW aF a));have ha0:0<a:=(cK aF).1 (by omega);have nR:=pK aF ha0;have aol:=aP a (ln ah a-1)
 obtain⟨s,hs⟩:∃s,s=lz (aB ah a (ln ah a-1)):=⟨_,rfl⟩
 obtain⟨DG,han,_,_⟩:=CX rfl ha0 hs;have Vf:b*2^s<ah^ln ah a:=Nat.lt_of_le_of_lt (Nat.mul_le_mul_right _ hba) han;obtain⟨pa,qa,rfl,hpa,hca⟩:=ha (by omega);have c1:=hca (ln ah a-1) (by omega);have HAN:=Lib.hid han;have HBN:=Lib.hid Vf;have HS:=Lib.hid hs
 have hi1:0<=(ln ah a:Int)-1:=by omega
 have hi2:(ln ah a:Int)-1<(ln ah a:Int):=by omega
 have hi3:((ln ah a:Int)-1).toNat=ln ah a-1:=by omega
 clear han Vf hs hca
 go_enter Tryz.func188,Tryz.ntmps188
 go_wp2_with fail
 refine(P7 (aB ah a (ln ah a-1)) _ (by omega) aol).mono ?_
 rintro e w1 ⟨rfl,rfl⟩
 rw[<-HS.out];go_wp2_with fail
 have bl0:Below w.heap.size w (w.alloc (.cells #[.int .u64 0,.int .u64 0,.int .u64 0,.int .u64 0,.bool false] 194)):=(Below.refl _ w).alloc (Nat.le_refl _) _;refine(CY a (ln ah a) s _ c _ (aL.below ha bl0) (Nat.le_refl _) (by omega) hn DG HAN.out).mono ?_
 rintro e w1 ⟨rfl,hw1⟩
 go_wp2_with fail
 refine(CY b (ln ah a) s _ d _ (aL.below (aL.below hb bl0) hw1) hlb (by omega) hn DG HBN.out).mono ?_
 rintro e w2 ⟨rfl,zP⟩
 go_wp2_with fail
 have hR:dK (w.alloc (.cells #[.int .u64 0,.int .u64 0,.int .u64 0,.int .u64 0,.bool false] 194)) w.heap.size false 0 0 0 0:=heap_alloc_new _ _;have jT:dK w2 w.heap.size false 0 0 0 0:=(zP.block _ (Nat.lt_of_lt_of_le hR.lt hw1.size)).trans ((hw1.block _ hR.lt).trans hR);have DB:Below w.heap.size w w2:=(bl0.trans (hw1.mono (by simp))).trans (zP.mono (by have:=hw1.size;simp at this;omega));have sG:=jT.lt;have hal:=OG (show 3<=ln ah a by omega) DG HAN.out;have hle:D4 b (ln ah a) s<=D4 a (ln ah a) s:=Nat.div_le_div_right hba;have P9:0<ah^(ln ah a-3)*2^(32-s):=Nat.mul_pos (Nat.pow_pos (by decide)) (Nat.pow_pos (by decide));have hea:a=ah^(ln ah a-3)*2^(32-s)*D4 a (ln ah a) s+a%(ah^(ln ah a-3)*2^(32-s)):=(Nat.div_add_mod _ _).symm;have heb:b=ah^(ln ah a-3)*2^(32-s)*D4 b (ln ah a) s+b%(ah^(ln ah a-3)*2^(32-s)):=(Nat.div_add_mod _ _).symm;have hma:=Nat.mod_lt a P9;have hmb:=Nat.mod_lt b P9
 have STEP:=Lib.hid fun(ev:Bool) (u0 u1 u2 v0 v1 v2 x1 x2:Nat) (h:Sim a b (D4 a (ln ah a) s) (D4 b (ln ah a) s) ev u0 u1 u2 v0 v1 v2 x1 x2)=>OB hea heb hma hmb hal h
 clear hea heb hma hmb P9 hR
 generalize D4 a (ln ah a) s=al at*
 generalize D4 b (ln ah a) s=be at*
 go_loopw [7,8,10,11] (fun x1 x2 u2 v2 wr=>∃ev U0 U1 U2 V0 V1 V2 X1 X2,x1= .int .u64 ((X1:Nat):Int)/\x2= .int .u64 ((X2:Nat):Int)/\u2= .int .u64 ((U2:Nat):Int)/\v2= .int .u64 ((V2:Nat):Int)/\Sim a b al be ev U0 U1 U2 V0 V1 V2 X1 X2/\
   dK wr w2.heap.size ev U0 U1 V0 V1/\dK wr w.heap.size false 0 0 0 0/\Below w.heap.size w wr) (fun _ x2 _ _ _=>(intOf x2).toNat)
 case atStart=>exact⟨false,0,1,0,0,0,1,_,_,rfl,rfl,rfl,rfl,JA hle,heap_alloc_new _ _,(Below.heap_alloc _ _ _ sG).trans jT,DB.alloc DB.size _⟩
 case round=>
  obtain⟨ev,U0,U1,U2,V0,V1,V2,X1,X2,rfl,rfl,rfl,rfl,DH,hS,hR,aV⟩:=hrel;obtain⟨s0,s1,s2,s3,s4⟩:=hS.cells;have f0:=hS.frozen 0;have f1:=hS.frozen 1;have f2:=hS.frozen 2;have f3:=hS.frozen 3;have f4:=hS.frozen 4;have zD:=hS.lt;have apf:=DH.le;have aom:=DH.af0;have abD:=Lib.hid DH
  have apg:X1<18446744073709551616:=by
   have h1:=DH.sum;have h2:X1<=V2*X1:=Nat.le_mul_of_pos_left _ aom;omega
  have Gj:=hR.cells;have hg0:=hR.frozen 0;have Ru:=hR.frozen 1;have yp:=hR.frozen 2;have kK:=hR.frozen 3;have FW:=hR.frozen 4;obtain⟨r0,r1,r2,r3,r4⟩:=Gj
  by_cases t1:V2<=X2
  ·
   obtain⟨fa,fb,fc⟩:=OE DH hal (show 1<=X2 by omega)
   have hx0:((X2:Nat):Int)≠0:=by omega
   by_cases t2:V1+V2<=X1-X2
   ·
    obtain⟨Q,hQ⟩:∃Q,Q=X1/X2:=⟨_,rfl⟩
    obtain⟨R,hR'⟩:∃R,R=X1%X2:=⟨_,rfl⟩
    have uS:X1/X2<=X1:=Nat.div_le_self _ _
    have aqV:Q<18446744073709551616:=by rw[hQ];omega
    have aqW:R<18446744073709551616:=by have:=Nat.mod_lt X1 (show 0<X2 by omega);omega
    rw[<-hQ] at fb fc
    have q1:(0:Int)<=(Q:Int)*(V2:Int):=by rw[<-Int.natCast_mul];omega
    have q2:(0:Int)<=(Q:Int)*(U2:Int):=by rw[<-Int.natCast_mul];omega
    have q3:(V1:Int)+(Q:Int)*(V2:Int)<18446744073709551616:=by rw[<-Int.natCast_mul];omega
    have q4:(U1:Int)+(Q:Int)*(U2:Int)<18446744073709551616:=by rw[<-Int.natCast_mul];omega
    have T2:(V1:Int)+(V2:Int)<=(X1:Int)-(X2:Int):=by omega
    have e1:(X1:Int)/(X2:Int)=(Q:Int):=by rw[hQ];rfl
    have e2:(X1:Int)%(X2:Int)=(R:Int):=by rw[hR'];rfl
    have E1:=Lib.hid e1;have E2:=Lib.hid e2;have HQ:=Lib.hid hQ;have HR:=Lib.hid hR';clear DH e1 e2 hQ hR' fb fc t2 uS;go_wp2_with fail
    go_quiet (fail)
    rw[E1.out,E2.out];go_wp2_with fail
    go_roundw
    case rel=>
     have hst:=STEP.out _ _ _ _ _ _ _ _ _ abD.out t1 (by omega);rw[<-HQ.out,<-HR.out] at hst;refine⟨!ev,U1,U2,U1+Q*U2,V1,V2,V1+Q*V2,X2,R,rfl,rfl,rfl,rfl,hst, ?_, ?_, ?_⟩
     ·exact hS.set U1 U2 V1 V2 (!ev)
     ·
      have h1:=(((hR.far (p:=⟨w2.heap.size,0,none⟩) (by simp;omega) (.int .u64 (U1:Int))).far (p:=⟨w2.heap.size,1,none⟩) (by simp;omega) (.int .u64 (U2:Int))).far (p:=⟨w2.heap.size,2,none⟩) (by simp;omega) (.int .u64 (V1:Int))).far (p:=⟨w2.heap.size,3,none⟩) (by simp;omega) (.int .u64 (V2:Int));exact h1.far (p:=⟨w2.heap.size,4,none⟩) (by simp;omega) _
     ·
      have dI:=((((cI aV nq).setCell (p:=⟨w2.heap.size,0,none⟩) (Nat.le_of_lt sG) (.int .u64 (U1:Int))).setCell (p:=⟨w2.heap.size,1,none⟩) (Nat.le_of_lt sG) (.int .u64 (U2:Int))).setCell (p:=⟨w2.heap.size,2,none⟩) (Nat.le_of_lt sG) (.int .u64 (V1:Int))).setCell (p:=⟨w2.heap.size,3,none⟩) (Nat.le_of_lt sG) (.int .u64 (V2:Int));exact dI.setCell (p:=⟨w2.heap.size,4,none⟩) (Nat.le_of_lt sG) _
    case measure=>
     have hm:=Nat.mod_lt X1 (show 0<X2 by omega);rw[<-HR.out] at hm
     simp[intOf];omega
   ·
    have T2:decide ((X1:Int)-(X2:Int)≥(V1:Int)+(V2:Int))=false:=decide_eq_false (by omega);clear DH t2;go_wp2_with fail
    have hW:=hR.set U0 U1 V0 V1 ev;have dI:=((((aV.setCell (p:=⟨w.heap.size,0,none⟩) (Nat.le_refl _) (.int .u64 (U0:Int))).setCell (p:=⟨w.heap.size,1,none⟩) (Nat.le_refl _) (.int .u64 (U1:Int))).setCell (p:=⟨w.heap.size,2,none⟩) (Nat.le_refl _) (.int .u64 (V0:Int))).setCell (p:=⟨w.heap.size,3,none⟩) (Nat.le_refl _) (.int .u64 (V1:Int))).setCell (p:=⟨w.heap.size,4,none⟩) (Nat.le_refl _) (.bool ev);clear hR r0 r1 r2 r3 r4
    generalize (((((wr.setCell ⟨w.heap.size,0,none⟩ (.int .u64 (U0:Int))).setCell ⟨w.heap.size,1,none⟩ (.int .u64 (U1:Int))).setCell ⟨w.heap.size,2,none⟩ (.int .u64 (V0:Int))).setCell ⟨w.heap.size,3,none⟩ (.int .u64 (V1:Int))).setCell ⟨w.heap.size,4,none⟩ (.bool ev))=WW at*
    obtain⟨k0,k1,k2,k3,k4⟩:=hW.cells;refine bodyPost_ret (v:= .agg #[.int .u64 (U0:Int),.int .u64 (U1:Int),.int .u64 (V0:Int),.int .u64 (V1:Int),.bool ev]) (by simp[results,Tryz.results188,go_sem,k0,k1,k2,k3,k4]) rfl ?_;exact⟨ev,U0,U1,V0,V1,rfl,abD.out.out,dI⟩
  ·
   have T1:decide ((X2:Int)≥(V2:Int))=false:=decide_eq_false (by omega);clear DH;go_wp2_with fail
   have hW:=hR.set U0 U1 V0 V1 ev;have dI:=((((aV.setCell (p:=⟨w.heap.size,0,none⟩) (Nat.le_refl _) (.int .u64 (U0:Int))).setCell (p:=⟨w.heap.size,1,none⟩) (Nat.le_refl _) (.int .u64 (U1:Int))).setCell (p:=⟨w.heap.size,2,none⟩) (Nat.le_refl _) (.int .u64 (V0:Int))).setCell (p:=⟨w.heap.size,3,none⟩) (Nat.le_refl _) (.int .u64 (V1:Int))).setCell (p:=⟨w.heap.size,4,none⟩) (Nat.le_refl _) (.bool ev);clear hR r0 r1 r2 r3 r4
   generalize (((((wr.setCell ⟨w.heap.size,0,none⟩ (.int .u64 (U0:Int))).setCell ⟨w.heap.size,1,none⟩ (.int .u64 (U1:Int))).setCell ⟨w.heap.size,2,none⟩ (.int .u64 (V0:Int))).setCell ⟨w.heap.size,3,none⟩ (.int .u64 (V1:Int))).setCell ⟨w.heap.size,4,none⟩ (.bool ev))=WW at*
   obtain⟨k0,k1,k2,k3,k4⟩:=hW.cells;refine bodyPost_ret (v:= .agg #[.int .u64 (U0:Int),.int .u64 (U1:Int),.int .u64 (V0:Int),.int .u64 (V1:Int),.bool ev]) (by simp[results,Tryz.results188,go_sem,k0,k1,k2,k3,k4]) rfl ?_;exact⟨ev,U0,U1,V0,V1,rfl,abD.out.out,dI⟩
end
end Go.Proofs.YtclbiihcbfnjmaaGreat
