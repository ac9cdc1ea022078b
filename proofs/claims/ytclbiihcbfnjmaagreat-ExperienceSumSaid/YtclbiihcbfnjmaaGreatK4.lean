/-
  Parts.
-/
import Derived.Test.YtclbiihcbfnjmaaGreatK1
import Derived.Deep.DeepCutAuto
import Derived.Deep.CutBlock
import Derived.Test.YtclbiihcbfnjmaaGreatShelf
set_option maxRecDepth 100000
set_option maxHeartbeats 2000000
namespace Go.Proofs.YtclbiihcbfnjmaaGreat
section
open Go.RowKit

theorem grown_drewN {w:World}(n:Nat)(r:Option Nat):w.grownBy (w.drewN n) r:=⟨rfl,rfl,rfl,Nat.le_refl _,fun _ _ _=>rfl⟩
theorem grown_set {w w':World}{g:Nat}(h:w.grownBy w' (some g))(i:Nat)(u:Value):w.grownBy (w'.setCell ⟨g,i,none⟩ u) (some g):=
 ⟨h.os,h.tape,h.output,by simpa [World.setCell] using h.size,fun k hk hne=>(Below.heap_setCell w' ⟨g,i,none⟩ u k (fun e=>hne (by rw[e]))).trans (h.block k hk hne)⟩
theorem est_ctx {F fv:Nat->Nat}{j n:Nat}(hF:∀i,F i<4294967296)(hfv:∀i,fv i<4294967296)(hn:2<=n)(htop:2147483648<=fv (n-1))(hUV:vs b32 (fun i=>F (j+i)) (n+1)<vs b32 fv n*b32)
  {HD:Nat} (hHD:HD=4294967296*F (j+n)+F (j+(n-1))):EstCtx (vs b32 (fun i=>F (j+i)) (n+1)) (vs b32 fv n) (fv (n-1)) (fv (n-2)) HD (F (j+(n-2))):=by
 refine⟨⟨b32^(n-2),vs b32 fv (n-2),vs b32 (fun i=>F (j+i)) (n-2), ?_, ?_,vs_lt fun i _=>hfv i,vs_lt fun i _=>hF _⟩,hUV,htop,hfv _,hF _⟩
 ·
  have h:=dec2 fv (n-2);rw[show n-2+2=n by omega,show n-2+1=n-1 by omega] at h;exact h
 ·
  have h:=dec3 (fun i=>F (j+i)) (n-2);rw[show n-2+3=n+1 by omega,show n-2+2=n by omega,show n-2+1=n-1 by omega] at h;rw[hHD];exact h

def fst_ (j dg:Nat)(F fv:Nat->Nat)(k q:Nat):Nat:=if j<=q/\q<j+k then mdi dg (fun i=>F (j+i)) fv (q-j) else F q

theorem sub64_top {x y b:Nat}(hx:x<4294967296)(hy:y<4294967296)(hb:b<=1):IntKind.u64.wrap (IntKind.u64.wrap ((x:Int)-y)-b)/9223372036854775808=((subB x y b:Nat):Int):=by
 rw[IntKind.wrap_u64,IntKind.wrap_u64]
 unfold subB;split<;>omega
theorem sub64_low {x y b:Nat}(hx:x<4294967296)(hy:y<4294967296)(hb:b<=1):IntKind.u64.wrap (IntKind.u64.wrap ((x:Int)-y)-b)%4294967296=((subD x y b:Nat):Int):=by
 rw[IntKind.wrap_u64,IntKind.wrap_u64];unfold subD;omega

def fin_ (j n dg:Nat)(F fv:Nat->Nat)(q:Nat):Nat:=if q=j+n then subD (F (j+n)) (mcr dg fv n) (mbo dg (fun i=>F (j+i)) fv n) else fst_ j dg F fv n q
def bck_ (j n dg:Nat)(F fv:Nat->Nat)(k q:Nat):Nat:=if j<=q/\q<j+k then adg (mdi dg (fun i=>F (j+i)) fv) fv (q-j) else fin_ j n dg F fv q

theorem bck_lt {j n dg:Nat}{F fv:Nat->Nat}{k:Nat}(hF:∀i,F i<4294967296)(q:Nat):bck_ j n dg F fv k q<4294967296:=by
 simp only[bck_,fin_,fst_]
 split
 ·exact adg_lt ..
 ·
  split
  ·exact subD_lt ..
  ·
   split
   ·exact mdi_lt ..
   ·exact hF q
def DStepPost (gu j n M:Nat)(F:Nat->Nat)(U V:Nat)(w:World)(e:Ending)(w':World):Prop:=
 ∃F':Nat->Nat,e= .returned (.int .u32 ((U/V:Nat):Int))/\Row w' gu 171 .u32 M M F'/\(∀i,F' i<4294967296)/\(∀i,i<j\/j+n<i->F' i=F i)/\
  vs b32 (fun i=>F' (j+i)) (n+1)=U%V/\w.grownBy w' (some gu)
theorem divStep_walk (gu j cu gv cv n M Mv:Nat)(F fv:Nat->Nat)(w:World)(hu:Row w gu 171 .u32 M M F)(hF:∀i,F i<4294967296)(hv:Row w gv 171 .u32 Mv Mv fv)(hfv:∀i,fv i<4294967296)
  (hne:gv≠gu) (hn:2<=n) (hn2:n<=1000000) (hj:j+n+1<=M) (hnv:n<=Mv) (htop:2147483648<=fv (n-1)) (hUV:vs b32 (fun i=>F (j+i)) (n+1)<vs b32 fv n*b32):
  Calls Tryz.prog 196 #[.slice (some ⟨gu,j,none⟩) (n+1) cu,.slice (some ⟨gv,0,none⟩) n cv] w (DStepPost gu j n M F (vs b32 (fun i=>F (j+i)) (n+1)) (vs b32 fv n) w):=by
 have a1:=hu.cell (i:=j+n) (by omega);have a2:=hu.cell (i:=j+(n-1)) (by omega);have a3:=hu.cell (i:=j+(n-2)) (by omega);have a4:=hv.cell (i:=n-1) (by omega);have a5:=hv.cell (i:=n-2) (by omega);have b1:=hF (j+n);have b2:=hF (j+(n-1));have b3:=hF (j+(n-2));have b4:=hfv (n-1);have b5:=hfv (n-2)
 obtain⟨HD,hHD⟩:∃h,h=4294967296*F (j+n)+F (j+(n-1)):=⟨_,rfl⟩
 have hctx:=est_ctx hF hfv hn htop hUV hHD
 obtain⟨U,hU⟩:∃U,U=vs b32 (fun i=>F (j+i)) (n+1):=⟨_,rfl⟩
 obtain⟨V,hV⟩:∃V,V=vs b32 fv n:=⟨_,rfl⟩
 rw[<-hU,<-hV] at hctx;rw[<-hU,<-hV] at hUV;have o1:=u64_or_add b1 b2;rw[<-hHD,show((4294967296*F (j+n):Nat):Int)=(F (j+n):Int)*4294967296 by omega] at o1
 have hHD64:HD<18446744073709551616:=by omega
 have e8:Value.int .u64 (IntKind.u64.wrap ((HD:Int)/(fv (n-1):Nat)))= .int .u64 ((HD/fv (n-1):Nat):Int):=by
  have h1:(HD:Int)/(fv (n-1):Nat)=((HD/fv (n-1):Nat):Int):=(Int.natCast_ediv ..).symm;have h2:HD/fv (n-1)<=HD:=Nat.div_le_self ..;rw[h1,IntKind.wrap_u64]
  generalize HD/fv (n-1)=z at*
  congr 1
  omega
 have E8:=Lib.hid e8;have HU:=Lib.hid hU;have HV:=Lib.hid hV;have HHD:=Lib.hid hHD;have HUV:=Lib.hid hUV;have HFv:=Lib.hid hfv;have HF:=Lib.hid hF;have HX:=Lib.hid hctx;clear hHD hUV hfv hF hctx hU hV e8
 go_enter Tryz.func196,Tryz.ntmps196
 go_wp2_with fail
 go_quiet (fail)
 go_wp2_with fail
 go_quiet (fail)
 clear o1
 go_upto_block 0 with(fail)
 go_cut [8,9] (fun d r wx=>∃dg:Nat,d= .int .u64 (dg:Int)/\EstPost U V dg/\∃m,wx=w.drewN m)
 case first=>
  go_wp2_with fail
  go_loopw [8,9] (fun d r wr=>∃dg rs m:Nat,d= .int .u64 (dg:Int)/\r= .int .u64 (rs:Int)/\EstInv U V (fv (n-1)) HD dg rs/\wr=w.drewN m) (fun d _ _=>(intOf d).toNat)
  case atStart=>exact⟨HD/fv (n-1),HD%fv (n-1),_,E8.out,rfl,HX.out.start b4,by rw[World.drewN_drewN]⟩
  case round=>
   obtain⟨dg,rs,m,rfl,rfl,hinv,rfl⟩:=hrel;have hrs:=hinv.2.1;have hdg:=hinv.le (by omega);have HI:=Lib.hid hinv;clear hinv
   by_cases hD:4294967296<=dg
   ·
    obtain⟨s1,s2,s3⟩:=HX.out.stay HI.out (.inl hD)
    have t1:(4294967296:Int)<=(dg:Int):=by omega
    have S2:=Lib.hid s2;have S3:=Lib.hid s3;clear s2 s3
    by_cases hB:4294967296<=rs+fv (n-1)
    ·
     have t2:(4294967296:Int)<=(rs:Int)+(fv (n-1):Nat):=by omega
     go_wp2_with fail
     go_quiet (fail)
     go_wp2_with fail
     go_meet
     exact⟨dg-1,by congr 1;omega,HX.out.broke S2.out S3.out hB,_,rfl⟩
    ·
     have t2:decide ((4294967296:Int)<=(rs:Int)+(fv (n-1):Nat))=false:=decide_eq_false (by omega);go_wp2_with fail
     go_quiet (fail)
     go_wp2_with fail
     go_roundw
     case rel=>exact⟨dg-1,rs+fv (n-1),_,by congr 1;omega,by congr 1,⟨S2.out,by omega,S3.out⟩,rfl⟩
     case measure=>simp[intOf];omega
   ·
    have t1:¬(4294967296:Int)<=(dg:Int):=by omega
    have t1':decide ((4294967296:Int)<=(dg:Int))=false:=by simpa using t1
    have o2:=u64_or_add hrs b3
    have eo:((4294967296*rs:Nat):Int)=(rs:Int)*4294967296:=by omega
    rw[eo] at o2
    obtain⟨RS,hRS⟩:∃h,h=4294967296*rs+F (j+(n-2)):=⟨_,rfl⟩
    rw[<-hRS] at o2;have hprod:=mul_digit (show dg<4294967296 by omega) b5
    have hpI:(dg:Int)*(fv (n-2):Nat)<=18446744065119617025:=by rw[<-Int.natCast_mul];omega
    have hp0:0<=(dg:Int)*(fv (n-2):Nat):=by rw[<-Int.natCast_mul];omega
    clear eo
    by_cases hT:RS<dg*fv (n-2)
    ·
     have t3:(RS:Int)<(dg:Int)*(fv (n-2):Nat):=by rw[<-Int.natCast_mul];omega
     obtain⟨s1,s2,s3⟩:=HX.out.stay HI.out (.inr (by rw[Nat.mul_comm rs,<-hRS];exact hT));have S2:=Lib.hid s2;have S3:=Lib.hid s3;clear s2 s3 hRS hprod
     by_cases hB:4294967296<=rs+fv (n-1)
     ·
      have t2:(4294967296:Int)<=(rs:Int)+(fv (n-1):Nat):=by omega
      go_wp2_with fail
      go_quiet (fail)
      go_wp2_with fail
      go_meet
      exact⟨dg-1,by congr 1;omega,HX.out.broke S2.out S3.out hB,_,rfl⟩
     ·
      have t2:decide ((4294967296:Int)<=(rs:Int)+(fv (n-1):Nat))=false:=decide_eq_false (by omega);go_wp2_with fail
      go_quiet (fail)
      go_wp2_with fail
      go_roundw
      case rel=>exact⟨dg-1,rs+fv (n-1),_,by congr 1;omega,by congr 1,⟨S2.out,by omega,S3.out⟩,rfl⟩
      case measure=>simp[intOf];omega
    ·
     have t3:decide ((RS:Int)<(dg:Int)*(fv (n-2):Nat))=false:=decide_eq_false (by rw[<-Int.natCast_mul];omega);have hpost:=HX.out.leave HI.out.1 HI.out.2.2 (by omega) (by rw[Nat.mul_comm rs,<-hRS];omega);have HP:=Lib.hid hpost;clear hRS hprod hpost;go_wp2_with fail
     go_quiet (fail)
     go_wp2_with fail
     go_meet
     exact⟨dg,rfl,HP.out,_,World.drewN_drewN ..⟩
 case rest=>
  obtain⟨dg,rfl,hpost,m,rfl⟩:=hcut;have hdg:=hpost.2.2;have HP:=Lib.hid hpost;clear hpost;go_wp2_with fail
  go_loopw [10,11,78] (fun cy bo i wr=>∃k:Nat,k<=n/\i= .int .i64 k/\cy= .int .u64 (mcr dg fv k:Nat)/\bo= .int .u64 (mbo dg (fun i=>F (j+i)) fv k:Nat)/\Row wr gu 171 .u32 M M (fst_ j dg F fv k)/\w.grownBy wr (some gu)) (fun _ _ i _=>n-(intOf i).toNat)
  case atStart=>exact⟨0,Nat.zero_le _,rfl,rfl,rfl,(hu.drewN _).congr fun q _=>by simp only[fst_];rw[if_neg (by omega)],grown_drewN _ _⟩
  case round=>
   obtain⟨k,hk,rfl,rfl,rfl,hrow,hgr⟩:=hrel;have hvr:=hv.grown hgr (by simpa using hne)
   by_cases hlt:k<n
   ·
    have c0:=hvr.cell (i:=k) (by omega);have c1:=hrow.cell (i:=j+k) (by omega);have c2:=hrow.frozen (j+k);rw[show fst_ j dg F fv k (j+k)=F (j+k) by simp[fst_]] at c1;have d1:=HFv.out k;have d2:=HF.out (j+k);have d3:=mcr_lt hdg HFv.out k;have d4:=mbo_le dg (fun i=>F (j+i)) fv k;have hprod:=mul_digit hdg d1
    have hpI:(dg:Int)*(fv k:Nat)<=18446744065119617025:=by rw[<-Int.natCast_mul];omega
    have hp0:0<=(dg:Int)*(fv k:Nat):=by rw[<-Int.natCast_mul];omega
    clear hprod;go_wp2_with fail
    go_roundw
    case rel=>
     rw[mlo_int,mcr_int,sub64_top d2 (mlo_lt ..) d4,sub64_low d2 (mlo_lt ..) d4];refine⟨k+1,by omega,by go_num,rfl,rfl,hrow.set ?_ fun q _ hq=> ?_,grown_set hgr _ _⟩
     ·simp only[fst_];rw[if_pos (by omega),show j+k-j=k by omega];rfl
     ·simp only[fst_,show(j<=q/\q<j+(k+1))↔(j<=q/\q<j+k) by omega]
    case measure=>simp[intOf];omega
   ·
    obtain rfl:k=n:=by omega
    have c1:=hrow.cell (i:=j+k) (by omega);have c2:=hrow.frozen (j+k);rw[show fst_ j dg F fv k (j+k)=F (j+k) by simp[fst_]] at c1;have d3:=mcr_lt hdg HFv.out k;have d4:=mbo_le dg (fun i=>F (j+i)) fv k;have l1:=sub64_low b1 d3 d4;have l2:=sub64_top b1 d3 d4
    obtain⟨X,hX⟩:∃x:Int,x=IntKind.u64.wrap (IntKind.u64.wrap (((F (j+k):Nat):Int)-((mcr dg fv k:Nat):Int))-((mbo dg (fun i=>F (j+i)) fv k:Nat):Int)):=⟨_,rfl⟩
    rw[<-hX] at l1 l2
    by_cases hbo:F (j+k)<mcr dg fv k+mbo dg (fun i=>F (j+i)) fv k
    ·
     have t1:(X/9223372036854775808==0)=false:=by
      rw[l2];unfold subB;rw[if_pos hbo];rfl
     rw[hX] at t1 l1;have L1:=Lib.hid l1;clear l1 l2 hX;obtain⟨hd0,hq,hr⟩:=step_back (d:=dg) (n:=k) (V:=V) (u:=fun i=>F (j+i)) (fun i=>HF.out (j+i)) HFv.out HV.out.symm (by rw[<-HU.out];exact HP.out.2.1) hbo hdg;have HQ:=Lib.hid hq;have HR:=Lib.hid hr;clear hq hr
     have hrow2:Row (wr.setCell ⟨gu,j+k,none⟩ (.int .u32 (IntKind.u64.wrap (IntKind.u64.wrap (((F (j+k):Nat):Int)-((mcr dg fv k:Nat):Int))-((mbo dg (fun i=>F (j+i)) fv k:Nat):Int))%4294967296))) gu 171 .u32 M M (fin_ j k dg F fv):=
      hrow.setI (by rw[L1.out];simp only[fin_,if_true]) fun q _ hq=>by simp only[fin_,if_neg hq]
     have hgr2:=grown_set hgr (j+k) (.int .u32 (IntKind.u64.wrap (IntKind.u64.wrap (((F (j+k):Nat):Int)-((mcr dg fv k:Nat):Int))-((mbo dg (fun i=>F (j+i)) fv k:Nat):Int))%4294967296));have R2:=Lib.hid hrow2;have G2:=Lib.hid hgr2;clear hrow2 hgr2;go_wp2_with fail
     go_loopw [17,131] (fun up i wx=>∃q:Nat,q<=k/\i= .int .i64 q/\up= .int .u32 (acr (mdi dg (fun i=>F (j+i)) fv) fv q:Nat)/\Row wx gu 171 .u32 M M (bck_ j k dg F fv q)/\w.grownBy wx (some gu)) (fun _ i _=>k-(intOf i).toNat)
     case atStart=>exact⟨0,Nat.zero_le _,rfl,rfl,R2.out.congr fun q _=>by simp only[bck_];rw[if_neg (by omega)],G2.out⟩
     case round=>
      obtain⟨q,hq,rfl,rfl,hrowq,hgrq⟩:=hrel;have hvrq:=hv.grown hgrq (by simpa using hne);have f4:=acr_le (fun i=>mdi_lt dg (fun i=>F (j+i)) fv i) HFv.out q
      by_cases hlq:q<k
      ·
       have c3:=hvrq.cell (i:=q) (by omega);have c4:=hrowq.cell (i:=j+q) (by omega);have c5:=hrowq.frozen (j+q)
       have ef:bck_ j k dg F fv q (j+q)=mdi dg (fun i=>F (j+i)) fv q:=by
        simp only[bck_,fin_,fst_];rw[if_neg (by omega),if_neg (by omega),if_pos (by omega),show j+q-j=q by omega]
       rw[ef] at c4;have f1:=HFv.out q;have f2:=mdi_lt dg (fun i=>F (j+i)) fv q
       have hadd:=fun w=>add32_any _ _ _ w f2 f1 f4
       have HA:=Lib.hid hadd;clear hadd ef;go_wp2_with fail
       refine(HA.out _).mono ?_
       rintro e w2 ⟨rfl,rfl⟩
       go_wp2_with fail
       go_roundw
       case rel=>
        refine⟨q+1,by omega,by go_num,rfl,hrowq.setI ?_ fun p _ hp=> ?_,grown_set hgrq _ _⟩
        ·simp only[bck_];rw[if_pos (by omega),show j+q-j=q by omega];rfl
        ·simp only[bck_,show(j<=p/\p<j+(q+1))↔(j<=p/\p<j+q) by omega]
       case measure=>simp[intOf];omega
      ·
       obtain rfl:q=k:=by omega
       have c4:=hrowq.cell (i:=j+q) (by omega);have c5:=hrowq.frozen (j+q)
       have ef:bck_ j q dg F fv q (j+q)=subD (F (j+q)) (mcr dg fv q) (mbo dg (fun i=>F (j+i)) fv q):=by
        simp only[bck_,fin_];rw[if_neg (by omega),if_pos trivial]
       rw[ef] at c4;have f5:=subD_lt (F (j+q)) (mcr dg fv q) (mbo dg (fun i=>F (j+i)) fv q);clear ef;go_wp2_with fail
       go_ret
       refine⟨fun p=>if p=j+q then(subD (F (j+q)) (mcr dg fv q) (mbo dg (fun i=>F (j+i)) fv q)+acr (mdi dg (fun i=>F (j+i)) fv) fv q)%4294967296 else bck_ j q dg F fv q p,ret_int ?_,hrowq.setI ?_ fun p _ hp=> ?_,fun i=> ?_,fun i hi=> ?_, ?_,grown_set hgrq _ _⟩
       ·rw[<-HV.out,HQ.out];omega
       ·rw[if_pos rfl];omega
       ·rw[if_neg hp]
       ·
        show(if i=j+q then _ else _)<_
        split
        ·exact Nat.mod_lt _ (by decide)
        ·exact bck_lt HF.out i
       ·simp only[bck_,fin_,fst_];rw[if_neg (by omega),if_neg (by omega),if_neg (by omega),if_neg (by omega)]
       ·
        rw[<-HV.out,HR.out,vs_succ]
        congr 1
        ·exact vs_congr fun i hi=>by simp only[bck_];rw[if_neg (by omega),if_pos (by omega),show j+i-j=i by omega]
        ·simp only[if_true]
    ·
     have t1:(X/9223372036854775808==0)=true:=by
      rw[l2];unfold subB;rw[if_neg hbo];rfl
     rw[hX] at t1;obtain⟨hq,hr⟩:=step_right (d:=dg) (n:=k) (V:=V) (u:=fun i=>F (j+i)) (fun i=>HF.out (j+i)) HV.out.symm (by rw[<-HU.out];exact HP.out.1) HX.out.pos (by omega);have HQ:=Lib.hid hq;have HR:=Lib.hid hr;clear l1 l2 hX hq hr;go_wp2_with fail
     go_ret
     refine⟨fin_ j k dg F fv,ret_int ?_,hrow.setI ?_ fun q _ hq=> ?_,fun i=> ?_,fun i hi=> ?_, ?_,grown_set hgr _ _⟩
     ·rw[<-HV.out,HQ.out]
     ·simp only[fin_,if_true];unfold subD;omega
     ·simp only[fin_,if_neg hq]
     ·
      simp only[fin_,fst_]
      split
      ·exact subD_lt ..
      ·
       split
       ·exact mdi_lt ..
       ·exact HF.out i
     ·simp only[fin_,fst_];rw[if_neg (by omega),if_neg (by omega)]
     ·
      rw[<-HV.out,HR.out,vs_succ]
      congr 1
      ·exact vs_congr fun i hi=>by simp only[fin_,fst_];rw[if_neg (by omega),if_pos (by omega),show j+i-j=i by omega]
      ·
       congr 1
       simp only[fin_,if_true];unfold subD;omega
end
section
open Go.RowKit

def DivPost (a b:Nat)(w:World)(e:Ending)(w':World):Prop:=
 ∃A c A' c',e= .returned (.tuple #[.slice A (ln b32 (a/b)) c,.slice A' (ln b32 (a%b)) c'])/\ln b32 (a/b)<=c/\ln b32 (a%b)<=c'/\Num32 w' A (a/b)/\Num32 w' A' (a%b)/\Below w.heap.size w w'

theorem divide_small (A B:Option Addr)(c d a b:Nat)(w:World)(ha:Num32 w A a)(hb:Num32 w B b)(hab:a<b)(hn:ln b32 a<=1000000):
  Calls Tryz.prog 182 #[.slice A (ln b32 a) c,.slice B (ln b32 b) d] w (DivPost a b w):=by
 have t1:cmpI a b<0:=by rw[cmpI_lt hab];decide
 have hq:a/b=0:=Nat.div_eq_of_lt hab;have hr:a%b=a:=Nat.mod_eq_of_lt hab;have HQ:=Lib.hid hq;have HR:=Lib.hid hr;clear hq hr
 go_enter Tryz.func182,Tryz.ntmps182
 go_wp2_with fail
 refine(compare_any _ _ _ _ a b _ ha hb (by omega)).mono ?_
 rintro e w1 ⟨rfl,m,rfl⟩
 go_wp2_with fail
 refine(clone32_any A _ c (dgt b32 a) (w.drewN m) (Rd.drewN ha m) (by omega)).mono ?_
 rintro e w1 ⟨v,rfl,hown,hbel,-⟩
 obtain⟨A1,c1,rfl,hnc,hrow⟩:=RowO.of_own hown;go_wp2_with fail
 go_ret2
 refine⟨none,0,A1,c1,by rw[HQ.out,HR.out,ln_zero];rfl,by rw[HQ.out,ln_zero];omega,by rw[HR.out];exact hnc,by rw[HQ.out];exact Num32.zero _ _,by rw[HR.out];exact hrow.rd, ?_⟩;exact(belowN (Below.refl _ w) m).trans hbel

theorem divide_one (A B:Option Addr)(c d a b:Nat)(w:World)(ha:Num32 w A a)(hb:Num32 w B b)(hab:b<=a)(hn:ln b32 a<=1000000)(h1:ln b32 b=1):
  Calls Tryz.prog 182 #[.slice A (ln b32 a) c,.slice B (ln b32 b) d] w (DivPost a b w):=by
 have t1:decide (cmpI a b<0)=false:=by
  rcases Nat.lt_or_eq_of_le hab with h|h
  ·rw[cmpI_gt h];decide
  ·rw[cmpI_eq h.symm];decide
 have hb0:0<b:=(ln_pos b32_two).1 (by omega)
 have hb1:b<4294967296:=by have:=(ln_le b32_two (x:=b) (k:=1)).1 (by omega);rw[Nat.pow_one] at this;exact this
 have hd0:dgt b32 b 0=b:=dgt_one hb1;obtain⟨p,q,rfl,hp,hcb⟩:=hb (by omega);have c0:=hcb 0 (by omega);rw[hd0,Nat.add_zero] at c0
 have t2:(((ln b32 b:Nat):Int)==1)=true:=by rw[h1];rfl
 have hl:=Nat.mod_lt a hb0;have HL1:=Lib.hid h1
 have t3:1<=ln b32 b:=by omega
 clear h1 hd0;have hcmp:=compare_any A (some ⟨p,q,none⟩) c d a b w ha hb (by omega)
 have hdiv:=fun w' (hb':Below w.heap.size w w')=>divShort_any A c a b w' (ha.below hb') hb0 hb1 hn
 have HC:=Lib.hid hcmp;have HD:=Lib.hid hdiv;clear hcmp hdiv
 go_enter Tryz.func182,Tryz.ntmps182
 go_wp2_with fail
 refine HC.out.mono ?_
 rintro e w1 ⟨rfl,m,rfl⟩
 go_wp2_with fail
 refine(HD.out _ (belowN (Below.refl _ w) m)).mono ?_
 rintro e w1 ⟨A1,c1,rfl,hc1,hnum1,hbel1⟩
 go_wp2_with fail
 have e1:(a:Int)%b=((a%b:Nat):Int):=(Int.natCast_emod ..).symm;have ht:=trim_one w1.heap.size (a%b) 1 (w1.alloc (.cells #[.int .u32 ((a:Int)%b)] 171)) (by rw[World.cell?_alloc_new,e1];rfl) (by simp) (by omega) (Nat.le_refl _);clear e1;have HT:=Lib.hid ht;clear ht;refine HT.out.mono ?_
 rintro e w2 ⟨rfl,rfl,hnum2,hl2⟩
 go_wp2_with fail
 go_ret2
 exact⟨A1,c1,_,1,rfl,hc1,hl2,hnum1.below ((Below.refl _ _).alloc (Nat.le_refl _) _),hnum2,((belowN (Below.refl _ w) m).trans hbel1).alloc (by simpa using hbel1.size) _⟩

theorem lz_any (x:Nat)(w:World)(h0:0<x)(h:x<4294967296):Calls Tryz.prog 194 #[.int .u32 (x:Int)] w fun e w'=>e= .returned (.int .i64 (lz x:Int))/\w=w':=
 (Tryz.bits_LeadingZeros32 (x:Int) w (by omega) (by omega)).mono fun e w' ⟨he,hw⟩=>⟨by
  obtain⟨_,_,_,h4⟩:=lz_spec h0 h
  rw[he,Int.toNat_natCast,h4],hw.symm⟩

structure DivSt (H gu gv gq la n A2 V k:Nat)(w wr:World)(F:Nat->Nat):Prop where
 u:Row wr gu 171 .u32 (la+1) (la+1) F
 fu:∀i,F i<4294967296
 win:vs b32 (fun i=>F (k+i)) (la+1-k)=A2/b32^k%V
 low:∀i,i<k->F i=dgt b32 A2 i
 v:Row wr gv 171 .u32 (n+1) (n+1) (dgt b32 V)
 q:Row wr gq 171 .u32 (la-n+1) (la-n+1) (fun j=>if k<=j then dgt b32 (A2/V) j else 0)
 below:Below H w wr

theorem DivSt.high {H gu gv gq la n A2 V k:Nat}{w wr:World}{F:Nat->Nat}(h:DivSt H gu gv gq la n A2 V k w wr F)(hk:k<=la+1)(hV:0<V)(hVn:V<b32^n)(i:Nat)(hi:n<=i)(hi2:k+i<la+1):F (k+i)=0:=by
 have h1:=dgt_vs (B:=b32) (f:=fun i=>F (k+i)) (m:=la+1-k) (j:=i) (fun j _=>h.fu (k+j)) (by omega);rw[h.win] at h1;rw[<-h1];have h2:=Nat.mod_lt (A2/b32^k) hV;exact dgt_of_lt (Nat.lt_of_lt_of_le h2 (Nat.le_of_lt (Nat.lt_of_lt_of_le hVn (Nat.pow_le_pow_right (by decide) hi))))
theorem DivSt.window {H gu gv gq la n A2 V j:Nat}{w wr:World}{F:Nat->Nat}(h:DivSt H gu gv gq la n A2 V (j+1) w wr F)(hj:j+n<la+1)(hV:0<V)(hVn:V<b32^n):
  vs b32 (fun i=>F (j+i)) (n+1)=b32*(A2/b32^(j+1)%V)+dgt b32 A2 j:=by
 rw[vs_first]
 have e1:vs b32 (fun i=>F (j+(i+1))) n=A2/b32^(j+1)%V:=by
  have h1:=vs_add b32 (fun i=>F (j+1+i)) n (la+1-(j+1)-n);rw[show n+(la+1-(j+1)-n)=la+1-(j+1) by omega,h.win,vs_zeros fun i hi=>h.high (by omega) hV hVn (n+i) (by omega) (by omega),Nat.mul_zero,Nat.add_zero] at h1;rw[h1]
  exact vs_congr fun i _=>by rw[show j+(i+1)=j+1+i by omega]
 rw[e1,show F (j+0)=dgt b32 A2 j from h.low j (by omega)];omega
theorem DivSt.step {H gu gv gq la n A2 V j:Nat}{w wr w2:World}{F F':Nat->Nat}(h:DivSt H gu gv gq la n A2 V (j+1) w wr F)(hj:j+n<la+1)(hV:0<V)(hVn:V<b32^n)(hgu:H<=gu)(hgq:H<=gq)(huv:gv≠gu)(hqu:gq≠gu)(hqv:gq≠gv)
  (h1:Row w2 gu 171 .u32 (la+1) (la+1) F') (h2:∀i,F' i<4294967296) (h3:∀i,i<j\/j+n<i->F' i=F i)
  (h4:vs b32 (fun i=>F' (j+i)) (n+1)=vs b32 (fun i=>F (j+i)) (n+1)%V) (h5:wr.grownBy w2 (some gu)) {u:Int} (hu:u=((vs b32 (fun i=>F (j+i)) (n+1)/V:Nat):Int)):
  DivSt H gu gv gq la n A2 V j w (w2.setCell ⟨gq,j,none⟩ (.int .u32 u)) F':=by
 have hw:=h.window hj hV hVn;obtain⟨s1,s2⟩:=short_step (B:=b32) (x:=A2) (k:=j) hV
 have hq:vs b32 (fun i=>F (j+i)) (n+1)/V=dgt b32 (A2/V) j:=by
  rw[hw,<-s1];refine(Nat.mod_eq_of_lt ?_).symm;rw[Nat.div_lt_iff_lt_mul hV];have h6:=Nat.mod_lt (A2/b32^(j+1)) hV;have h7:b32*(A2/b32^(j+1)%V+1)<=b32*V:=Nat.mul_le_mul_left _ h6;have h8:=dgt32_lt A2 j;rw[Nat.mul_add] at h7;have h9:b32=4294967296:=rfl;omega
 have hbel:Below H w w2:=h.below.grown h5 (Nat.le_trans hgq (Nat.le_of_lt h.q.lt)) (fun k e=>by cases e;exact hgu);refine⟨h1.far (p:=⟨gq,j,none⟩) (Ne.symm hqu) _,h2, ?_,fun i hi=>by rw[h3 i (by omega)];exact h.low i (by omega),(h.v.grown h5 (by simpa using huv)).far (p:=⟨gq,j,none⟩) (Ne.symm hqv) _, ?_,hbel.setCell (by exact hgq) _⟩
 ·
  have e:=vs_add b32 (fun i=>F' (j+i)) (n+1) (la+1-j-(n+1))
  have ez:vs b32 (fun i=>F' (j+(n+1+i))) (la+1-j-(n+1))=0:=vs_zeros fun i hi=>by
   show F' (j+(n+1+i))=0;rw[h3 _ (by omega),show j+(n+1+i)=j+1+(n+i) by omega];exact h.high (by omega) hV hVn (n+i) (by omega) (by omega)
  rw[show n+1+(la+1-j-(n+1))=la+1-j by omega,h4,hw,s2,ez] at e;rw[e];omega
 ·
  refine(h.q.grown h5 (by simpa using hqu)).setI ?_ fun p _ hp=> ?_
  ·rw[hu,hq,if_pos (Nat.le_refl _)]
  ·simp only[show j+1<=p↔j<=p by omega]

theorem divide_long (A B:Option Addr)(c d a b:Nat)(w:World)(ha:Num32 w A a)(hb:Num32 w B b)(hab:b<=a)(hn:ln b32 a<=1000000)(h2:2<=ln b32 b):
  Calls Tryz.prog 182 #[.slice A (ln b32 a) c,.slice B (ln b32 b) d] w (DivPost a b w):=by
 have t1:decide (cmpI a b<0)=false:=by
  rcases Nat.lt_or_eq_of_le hab with h|h
  ·rw[cmpI_gt h];decide
  ·rw[cmpI_eq h.symm];decide
 have hb0:0<b:=(ln_pos b32_two).1 (by omega);have hna:=ln_mono b32_two hab;obtain⟨p,q,rfl,hp,hcb⟩:=hb (by omega);have c0:=hcb (ln b32 b-1) (by omega)
 have t2:(((ln b32 b:Nat):Int)==1)=false:=by simp;omega
 obtain⟨s,hs⟩:∃s,s=lz (dgt b32 b (ln b32 b-1)):=⟨_,rfl⟩
 obtain⟨hs32,hVn,hVtop,hVge⟩:=norm_div rfl hb0 hs
 have hlz:=fun w=>lz_any (dgt b32 b (ln b32 b-1)) w (by have:=dgt_top b32_two hb0;omega) (dgt32_lt ..)
 rw[<-hs] at hlz;have hV0:0<b*2^s:=Nat.mul_pos hb0 (Nat.pow_pos (by decide));have hcmp:=compare_any A (some ⟨p,q,none⟩) c d a b w ha hb (by omega)
 have hsh1:=fun w' (hb':Below w.heap.size w w')=>shifted_any (some ⟨p,q,none⟩) d b s w' (hb.below hb') hs32 (by omega)
 have hsh2:=fun w' (hb':Below w.heap.size w w')=>shifted_any A c a s w' (ha.below hb') hs32 hn
 have hmk:=mk32 (ln b32 a-ln b32 b+1) (ln b32 a-ln b32 b+1) (Nat.le_refl _) (by omega);rw[show((ln b32 a-ln b32 b+1:Nat):Int)=(ln b32 a:Int)-(ln b32 b:Int)+1 by omega] at hmk;have HC:=Lib.hid hcmp;have HS1:=Lib.hid hsh1;have HS2:=Lib.hid hsh2;have HLZ:=Lib.hid hlz;have HVn:=Lib.hid hVn;have HVtop:=Lib.hid hVtop;have HVge:=Lib.hid hVge;have HS:=Lib.hid hs;clear hcmp hsh1 hsh2 hlz hVn hVtop hVge hs
 go_enter Tryz.func182,Tryz.ntmps182
 go_wp2_with fail
 refine HC.out.mono ?_
 rintro e w1 ⟨rfl,m,rfl⟩
 go_wp2_with fail
 refine(HLZ.out _).mono ?_
 rintro e w1 ⟨rfl,rfl⟩
 go_wp2_with fail
 refine(HS1.out _ (belowN (Below.refl _ w) m)).mono ?_
 rintro e w1 ⟨rfl,hrv,hbel1⟩
 go_wp2_with fail
 have hbel1':Below w.heap.size w w1:=(belowN (Below.refl _ w) m).trans hbel1;refine(HS2.out _ hbel1').mono ?_
 rintro e w2 ⟨rfl,hru,hbel2⟩
 go_wp2_with fail
 clear hmk;have l1:=hrv.lt;have l2:=hru.lt;have l3:=hbel2.size;have l4:=hbel1'.size;simp only[World.heap_drewN] at hrv l1;have hrv2:=hrv.below hbel2 hrv.lt
 go_loopw [13] (fun i wr=>∃(k:Nat) (F:Nat->Nat),k<=ln b32 a-ln b32 b+1/\i= .int .i64 ((k:Int)-1)/\DivSt w.heap.size w1.heap.size w.heap.size w2.heap.size (ln b32 a) (ln b32 b) (a*2^s) (b*2^s) k w wr F) (fun i _=>(intOf i+1).toNat)
 case atStart=>
  refine⟨ln b32 a-ln b32 b+1,dgt b32 (a*2^s),Nat.le_refl _, ?_,hru.alloc _,fun i=>dgt32_lt _ i, ?_,fun _ _=>rfl,hrv2.alloc _,Row.made.congr fun j hj=>by rw[if_neg (by omega)],(hbel1'.trans (hbel2.mono (by omega))).alloc (by omega) _⟩
  ·congr 1;omega
  ·
   have h3:=win_start (A2:=a*2^s) (V:=b*2^s) (n:=ln b32 b) (lt_pow_ln b32_two a) rfl hs32 (by omega) hna HVge.out;rw[Nat.mod_eq_of_lt h3]
   have h4:a*2^s<b32^(ln b32 a+1):=by
    rw[Nat.pow_succ];have h5:=lt_pow_ln b32_two a;have h6:2^s<b32:=Nat.lt_of_le_of_lt (Nat.pow_le_pow_right (by decide) (show s<=31 by omega)) (by decide);exact Nat.lt_of_lt_of_le (Nat.mul_lt_mul_of_pos_right h5 (Nat.pow_pos (by decide))) (Nat.mul_le_mul_left _ (Nat.le_of_lt h6))
   have h7:=div_vs (B:=b32) (f:=dgt b32 (a*2^s)) (m:=ln b32 a+1) (j:=ln b32 a-ln b32 b+1) (fun i _=>dgt32_lt _ i) (by omega);rw[vs_dgt_lt h4] at h7;exact h7.symm
 case round=>
  obtain⟨k,F,hk,rfl,hst⟩:=hrel
  rcases Nat.eq_zero_or_pos k with rfl|hk0
  ·
   obtain⟨R,hR⟩:∃R,R=a*2^s%(b*2^s):=⟨_,rfl⟩
   obtain⟨Q,hQ⟩:∃Q,Q=a*2^s/(b*2^s):=⟨_,rfl⟩
   have hrF:Row wr w1.heap.size 171 .u32 (ln b32 a+1) (ln b32 a+1) (dgt b32 R):=hst.u.congr fun i hi=>by
    have h1:=hst.win;simp only[Nat.zero_add,Nat.sub_zero,Nat.pow_zero,Nat.div_one] at h1;rw[<-hR] at h1;rw[<-h1];exact(dgt_vs (fun j _=>hst.fu j) hi).symm
   have hrQ:Row wr w2.heap.size 171 .u32 (ln b32 a-ln b32 b+1) (ln b32 a-ln b32 b+1) (dgt b32 Q):=hst.q.congr fun i _=>by rw[if_pos (Nat.zero_le _),hQ]
   have hbelw:=hst.below;have HR:=Lib.hid hR;have HQ:=Lib.hid hQ;clear hst hR hQ;go_wp2_with fail
   go_loopw [78] (fun i wx=>∃k:Nat,k<=ln b32 b/\i= .int .i64 k/\Row wx w1.heap.size 171 .u32 (ln b32 a+1) (ln b32 a+1) (fun q=>if q<k then dgt b32 (R/2^s) q else dgt b32 R q)/\Row wx w2.heap.size 171 .u32 (ln b32 a-ln b32 b+1) (ln b32 a-ln b32 b+1) (dgt b32 Q)/\Below w.heap.size w wx) (fun i _=>ln b32 b-(intOf i).toNat)
   case atStart=>exact⟨0,Nat.zero_le _,rfl,hrF.congr fun i _=>by rw[if_neg (by omega)],hrQ,hbelw⟩
   case round=>
    obtain⟨k,hk,rfl,hrow,hrq,hbelx⟩:=hrel
    by_cases hlt:k<ln b32 b
    ·
     have c1:=hrow.cell (i:=k) (by omega);have c2:=hrow.cell (i:=k+1) (by omega);have c3:=hrow.frozen k;rw[if_neg (by omega)] at c1 c2;have d1:=dgt32_lt R k;have d2:=dgt32_lt R (k+1);have o1:=u64_or_add d2 d1
     obtain⟨X,hX⟩:∃X,X=4294967296*dgt b32 R (k+1)+dgt b32 R k:=⟨_,rfl⟩
     rw[<-hX,show((4294967296*dgt b32 R (k+1):Nat):Int)=(dgt b32 R (k+1):Int)*4294967296 by omega] at o1
     have hX64:X<18446744073709551616:=by omega
     have HX:=Lib.hid hX;clear hX;go_wp2_with fail
     go_region
     go_wp2_with fail
     go_roundw
     case rel=>
      refine⟨k+1,by omega,by go_num,(hrow.setI ?_ fun p _ hp=> ?_).drew,(hrq.far (p:=⟨w1.heap.size,k,none⟩) (by simp;omega) _).drew,(hbelx.setCell (by simp;omega) _).drew⟩
      ·rw[if_pos (by omega),<-unshift_digit hs32,Nat.mul_comm (dgt b32 R (k+1)),<-HX.out,Int.natCast_emod,Int.natCast_ediv,Int.natCast_pow];rfl
      ·simp only[show p<k+1↔p<k by omega]
     case measure=>simp[intOf];omega
    ·
     obtain rfl:k=ln b32 b:=by omega
     have hp2:0<2^s:=Nat.pow_pos (by decide)
     have hRv:R/2^s=a%b:=by rw[HR.out,Nat.mul_mod_mul_right,Nat.mul_div_cancel _ hp2]
     have hQv:Q=a/b:=by rw[HQ.out,Nat.mul_div_mul_right _ _ hp2]
     have hRlt:R/2^s<b32^ln b32 b:=by rw[hRv];exact Nat.lt_trans (Nat.mod_lt _ hb0) (lt_pow_ln b32_two b)
     have hQlt:Q<b32^(ln b32 a-ln b32 b+1):=by rw[hQv];exact quo_len (lt_pow_ln b32_two a) (pow_le_of_ln b32_two hb0) (by omega) hna
     have hr2:Row wr w1.heap.size 171 .u32 (ln b32 a+1) (ln b32 b) (dgt b32 (R/2^s)):=(hrow.shorter (by omega)).congr fun i hi=>by rw[if_pos hi]
     have q1:=fun n=>trim_any (some ⟨w2.heap.size,0,none⟩) _ (ln b32 a-ln b32 b+1) (dgt b32 Q) (wr.drewN n) ((hrq.rd (Nat.le_refl _) hrq.lt).drewN n) (fun i _=>dgt32_lt Q i) (Nat.le_refl _) (by omega)
     have q2:=fun n=>trim_any (some ⟨w1.heap.size,0,none⟩) _ (ln b32 a+1) (dgt b32 (R/2^s)) (wr.drewN n) ((hr2.rd (Nat.le_refl _) hr2.lt).drewN n) (fun i _=>dgt32_lt (R/2^s) i) (by omega) (by omega)
     rw[vs_dgt_lt hQlt,hQv] at q1;rw[vs_dgt_lt hRlt,hRv] at q2
     have Q1:=Lib.hid fun n=>(q1 n).mono (R':=fun e w'=>e= .returned (.slice (some ⟨w2.heap.size,0,none⟩) (ln b32 (a/b)) (ln b32 a-ln b32 b+1))/\w'=wr.drewN n) fun _ _ ⟨he,hw,_⟩=>⟨he,hw.symm⟩
     have Q2:=Lib.hid fun n=>(q2 n).mono (R':=fun e w'=>e= .returned (.slice (some ⟨w1.heap.size,0,none⟩) (ln b32 (a%b)) (ln b32 a+1))/\w'=wr.drewN n) fun _ _ ⟨he,hw,_⟩=>⟨he,hw.symm⟩
     have N1:Num32 wr (some ⟨w2.heap.size,0,none⟩) (a/b):=by
      have h:=Num32.of_rd (hrq.rd (Nat.le_refl _) hrq.lt) (fun i _=>dgt32_lt Q i);rw[vs_dgt_lt hQlt,hQv] at h;exact h
     have N2:Num32 wr (some ⟨w1.heap.size,0,none⟩) (a%b):=by
      have h:=Num32.of_rd (hr2.rd (Nat.le_refl _) hr2.lt) (fun i _=>dgt32_lt (R/2^s) i);rw[vs_dgt_lt hRlt,hRv] at h;exact h
     have L1:ln b32 (a/b)<=ln b32 a-ln b32 b+1:=by rw[<-hQv];exact(ln_le b32_two).2 hQlt
     have L2:ln b32 (a%b)<=ln b32 a+1:=Nat.le_trans (ln_mono b32_two (Nat.mod_le a b)) (Nat.le_succ _);clear q1 q2 hRv hQv hRlt hQlt hr2;go_wp2_with fail
     go_quiet ((go_at_call 174;first|(with_reducible exact Calls.quiet_of_same (Q1.out _))|(with_reducible exact Calls.quiet_of_same (Q2.out _))))
     go_wp2_with fail
     go_ret2
     exact⟨_,_,_,_,rfl,L1,L2,N1,N2,belowN hbelx _⟩
  ·
   obtain⟨j,rfl⟩:∃j,k=j+1:=⟨k-1,by omega⟩
   have ej:(((j+1:Nat):Int)-1)=(j:Int):=by omega
   rw[ej];have hw:=hst.window (by omega) hV0 HVn.out
   have hlt:vs b32 (fun i=>F (j+i)) (ln b32 b+1)<vs b32 (dgt b32 (b*2^s)) (ln b32 b)*b32:=by
    rw[hw,vs_dgt_lt HVn.out];have h6:=Nat.mod_lt (a*2^s/b32^(j+1)) hV0;have h7:b32*(a*2^s/b32^(j+1)%(b*2^s)+1)<=b32*(b*2^s):=Nat.mul_le_mul_left _ h6;have h8:=dgt32_lt (a*2^s) j;rw[Nat.mul_add] at h7;rw[Nat.mul_comm _ b32];have h9:b32=4294967296:=rfl;omega
   have hcall:=divStep_walk w1.heap.size j (ln b32 a+1-j) w.heap.size (ln b32 b+1) (ln b32 b) (ln b32 a+1) (ln b32 b+1) F (dgt b32 (b*2^s)) wr hst.u hst.fu hst.v (fun i=>dgt32_lt _ i) (by omega) h2 (by omega) (by omega) (by omega) HVtop.out hlt;rw[vs_dgt_lt HVn.out] at hcall;have HCA:=Lib.hid hcall;have HW:=Lib.hid hw;have c5:=hst.q.cell (i:=j) (by omega);clear hcall hw hlt ej;go_wp2_with fail
   rw[show j+ln b32 b+1-j=ln b32 b+1 by omega];refine HCA.out.mono ?_
   rintro e w5 ⟨F',rfl,r1,r2,r3,r4,r5⟩
   have hrq:=hst.q.grown r5 (by simp;omega);have c6:=hrq.cell (i:=j) (by omega);have c7:=hrq.frozen j;have HST:=Lib.hid (fun u hu=>hst.step (w2:=w5) (F':=F') (u:=u) (by omega) hV0 HVn.out (by omega) (by omega) (by omega) (by omega) (by omega) r1 r2 r3 r4 r5 hu);clear r2 r3 r4;go_wp2_with fail
   go_roundw
   case rel=>exact⟨j,F',by omega,by go_num,HST.out _ rfl⟩
   case measure=>simp[intOf]
theorem divide_any (A B:Option Addr)(c d a b:Nat)(w:World)(ha:Num32 w A a)(hb:Num32 w B b)(hb0:0<b)(hn:ln b32 a<=1000000):
  Calls Tryz.prog 182 #[.slice A (ln b32 a) c,.slice B (ln b32 b) d] w (DivPost a b w):=by
 by_cases hab:a<b
 ·exact divide_small A B c d a b w ha hb hab hn
 ·
  have:=(ln_pos b32_two).2 hb0
  by_cases h1:ln b32 b=1
  ·exact divide_one A B c d a b w ha hb (by omega) hn h1
  ·exact divide_long A B c d a b w ha hb (by omega) hn (by omega)
end
section
open Go.RowKit

def StepsAt (w:World)(g:Nat)(ev:Bool)(u0 u1 v0 v1:Nat):Prop:=
 w.heap[g]?=some (.cells #[.int .u64 (u0:Int),.int .u64 (u1:Int),.int .u64 (v0:Int),.int .u64 (v1:Int),.bool ev] 194 (0,0))

theorem StepsAt.cells {w:World}{g:Nat}{ev:Bool}{u0 u1 v0 v1:Nat}(h:StepsAt w g ev u0 u1 v0 v1):
  w.cell? ⟨g,0,none⟩=some (.int .u64 (u0:Int))/\w.cell? ⟨g,1,none⟩=some (.int .u64 (u1:Int))/\w.cell? ⟨g,2,none⟩=some (.int .u64 (v0:Int))/\w.cell? ⟨g,3,none⟩=some (.int .u64 (v1:Int))/\w.cell? ⟨g,4,none⟩=some (.bool ev):=by
 refine⟨?_, ?_, ?_, ?_, ?_⟩<;>exact(cell_of_row w g _ _ _ (0,0) h).trans rfl
theorem StepsAt.frozen {w:World}{g:Nat}{ev:Bool}{u0 u1 v0 v1:Nat}(h:StepsAt w g ev u0 u1 v0 v1)(i:Nat):w.frozen? ⟨g,i,none⟩=false:=by
 simp[World.frozen?,show w.heap[g]?=_ from h]
theorem StepsAt.lt {w:World}{g:Nat}{ev:Bool}{u0 u1 v0 v1:Nat}(h:StepsAt w g ev u0 u1 v0 v1):g<w.heap.size:=heap_lt h
theorem StepsAt.far {w:World}{g:Nat}{ev:Bool}{u0 u1 v0 v1:Nat}(h:StepsAt w g ev u0 u1 v0 v1){p:Addr}(hp:g≠p.block)(u:Value):StepsAt (w.setCell p u) g ev u0 u1 v0 v1:=
 (Below.heap_setCell w p u g hp).trans h
theorem StepsAt.set {w:World}{g:Nat}{ev:Bool}{u0 u1 v0 v1:Nat}(h:StepsAt w g ev u0 u1 v0 v1)(u0' u1' v0' v1':Nat)(ev':Bool):
  StepsAt (((((w.setCell ⟨g,0,none⟩ (.int .u64 (u0':Int))).setCell ⟨g,1,none⟩ (.int .u64 (u1':Int))).setCell ⟨g,2,none⟩ (.int .u64 (v0':Int))).setCell ⟨g,3,none⟩ (.int .u64 (v1':Int))).setCell ⟨g,4,none⟩ (.bool ev')) g ev' u0' u1' v0' v1':=by
 unfold StepsAt at h⊢
 simp[World.setCell,Array.getElem?_modify,h]

def SimPost (a b:Nat)(w:World)(e:Ending)(w':World):Prop:=
 ∃ev u0 u1 v0 v1,e= .returned (.agg #[.int .u64 ((u0:Nat):Int),.int .u64 ((u1:Nat):Int),.int .u64 ((v0:Nat):Int),.int .u64 ((v1:Nat):Int),.bool ev])/\(v0=0\/StepsOK a b ev u0 u1 v0 v1)/\Below w.heap.size w w'

theorem simulate_any (A B:Option Addr)(c d a b:Nat)(w:World)(ha:Num32 w A a)(hb:Num32 w B b)(hba:b<=a)(hn:ln b32 a<=1000000)(h3:3<=ln b32 b):
  Calls Tryz.prog 188 #[.slice A (ln b32 a) c,.slice B (ln b32 b) d] w (SimPost a b w):=by
 have hlb:ln b32 b<=ln b32 a:=(ln_le b32_two).2 (Nat.lt_of_le_of_lt hba (lt_pow_ln b32_two a));have ha0:0<a:=(ln_pos b32_two).1 (by omega);have htop:=dgt_top b32_two ha0;have htlt:=dgt32_lt a (ln b32 a-1)
 obtain⟨s,hs⟩:∃s,s=lz (dgt b32 a (ln b32 a-1)):=⟨_,rfl⟩
 obtain⟨hs32,han,_,_⟩:=norm_div rfl ha0 hs;have hbn:b*2^s<b32^ln b32 a:=Nat.lt_of_le_of_lt (Nat.mul_le_mul_right _ hba) han;obtain⟨pa,qa,rfl,hpa,hca⟩:=ha (by omega);have c1:=hca (ln b32 a-1) (by omega);have HAN:=Lib.hid han;have HBN:=Lib.hid hbn;have HS:=Lib.hid hs
 have hi1:0<=(ln b32 a:Int)-1:=by omega
 have hi2:(ln b32 a:Int)-1<(ln b32 a:Int):=by omega
 have hi3:((ln b32 a:Int)-1).toNat=ln b32 a-1:=by omega
 clear han hbn hs hca
 go_enter Tryz.func188,Tryz.ntmps188
 go_wp2_with fail
 refine(lz_any (dgt b32 a (ln b32 a-1)) _ (by omega) htlt).mono ?_
 rintro e w1 ⟨rfl,rfl⟩
 rw[<-HS.out];go_wp2_with fail
 have bl0:Below w.heap.size w (w.alloc (.cells #[.int .u64 0,.int .u64 0,.int .u64 0,.int .u64 0,.bool false] 194)):=(Below.refl _ w).alloc (Nat.le_refl _) _;refine(head_any a (ln b32 a) s _ c _ (Num32.below ha bl0) (Nat.le_refl _) (by omega) hn hs32 HAN.out).mono ?_
 rintro e w1 ⟨rfl,hw1⟩
 go_wp2_with fail
 refine(head_any b (ln b32 a) s _ d _ (Num32.below (Num32.below hb bl0) hw1) hlb (by omega) hn hs32 HBN.out).mono ?_
 rintro e w2 ⟨rfl,hw2⟩
 go_wp2_with fail
 have hR:StepsAt (w.alloc (.cells #[.int .u64 0,.int .u64 0,.int .u64 0,.int .u64 0,.bool false] 194)) w.heap.size false 0 0 0 0:=heap_alloc_new _ _;have hR2:StepsAt w2 w.heap.size false 0 0 0 0:=(hw2.block _ (Nat.lt_of_lt_of_le hR.lt hw1.size)).trans ((hw1.block _ hR.lt).trans hR);have hbl2:Below w.heap.size w w2:=(bl0.trans (hw1.mono (by simp))).trans (hw2.mono (by have:=hw1.size;simp at this;omega));have hlt2:=hR2.lt;have hal:=hdv_lt (show 3<=ln b32 a by omega) hs32 HAN.out;have hle:hdv b (ln b32 a) s<=hdv a (ln b32 a) s:=Nat.div_le_div_right hba;have hKpos:0<b32^(ln b32 a-3)*2^(32-s):=Nat.mul_pos (Nat.pow_pos (by decide)) (Nat.pow_pos (by decide));have hea:a=b32^(ln b32 a-3)*2^(32-s)*hdv a (ln b32 a) s+a%(b32^(ln b32 a-3)*2^(32-s)):=(Nat.div_add_mod _ _).symm;have heb:b=b32^(ln b32 a-3)*2^(32-s)*hdv b (ln b32 a) s+b%(b32^(ln b32 a-3)*2^(32-s)):=(Nat.div_add_mod _ _).symm;have hma:=Nat.mod_lt a hKpos;have hmb:=Nat.mod_lt b hKpos
 have STEP:=Lib.hid fun(ev:Bool) (u0 u1 u2 v0 v1 v2 x1 x2:Nat) (h:Sim a b (hdv a (ln b32 a) s) (hdv b (ln b32 a) s) ev u0 u1 u2 v0 v1 v2 x1 x2)=>sim_step hea heb hma hmb hal h
 clear hea heb hma hmb hKpos hR
 generalize hdv a (ln b32 a) s=al at*
 generalize hdv b (ln b32 a) s=be at*
 go_loopw [7,8,10,11] (fun x1 x2 u2 v2 wr=>∃ev U0 U1 U2 V0 V1 V2 X1 X2,x1= .int .u64 ((X1:Nat):Int)/\x2= .int .u64 ((X2:Nat):Int)/\u2= .int .u64 ((U2:Nat):Int)/\v2= .int .u64 ((V2:Nat):Int)/\Sim a b al be ev U0 U1 U2 V0 V1 V2 X1 X2/\
   StepsAt wr w2.heap.size ev U0 U1 V0 V1/\StepsAt wr w.heap.size false 0 0 0 0/\Below w.heap.size w wr) (fun _ x2 _ _ _=>(intOf x2).toNat)
 case atStart=>exact⟨false,0,1,0,0,0,1,_,_,rfl,rfl,rfl,rfl,sim_start hle,heap_alloc_new _ _,(Below.heap_alloc _ _ _ hlt2).trans hR2,hbl2.alloc hbl2.size _⟩
 case round=>
  obtain⟨ev,U0,U1,U2,V0,V1,V2,X1,X2,rfl,rfl,rfl,rfl,hsim,hS,hR,hbel⟩:=hrel;obtain⟨s0,s1,s2,s3,s4⟩:=hS.cells;have f0:=hS.frozen 0;have f1:=hS.frozen 1;have f2:=hS.frozen 2;have f3:=hS.frozen 3;have f4:=hS.frozen 4;have hSlt:=hS.lt;have hle12:=hsim.le;have hv2p:=hsim.v2pos;have HSIM:=Lib.hid hsim
  have hx1lt:X1<18446744073709551616:=by
   have h1:=hsim.sum;have h2:X1<=V2*X1:=Nat.le_mul_of_pos_left _ hv2p;omega
  have hr0:=hR.cells;have hg0:=hR.frozen 0;have hg1:=hR.frozen 1;have hg2:=hR.frozen 2;have hg3:=hR.frozen 3;have hg4:=hR.frozen 4;obtain⟨r0,r1,r2,r3,r4⟩:=hr0
  by_cases t1:V2<=X2
  ·
   obtain⟨fa,fb,fc⟩:=sim_fits hsim hal (show 1<=X2 by omega)
   have hx0:((X2:Nat):Int)≠0:=by omega
   by_cases t2:V1+V2<=X1-X2
   ·
    obtain⟨Q,hQ⟩:∃Q,Q=X1/X2:=⟨_,rfl⟩
    obtain⟨R,hR'⟩:∃R,R=X1%X2:=⟨_,rfl⟩
    have h64:X1/X2<=X1:=Nat.div_le_self _ _
    have hq64:Q<18446744073709551616:=by rw[hQ];omega
    have hr64:R<18446744073709551616:=by have:=Nat.mod_lt X1 (show 0<X2 by omega);omega
    rw[<-hQ] at fb fc
    have q1:(0:Int)<=(Q:Int)*(V2:Int):=by rw[<-Int.natCast_mul];omega
    have q2:(0:Int)<=(Q:Int)*(U2:Int):=by rw[<-Int.natCast_mul];omega
    have q3:(V1:Int)+(Q:Int)*(V2:Int)<18446744073709551616:=by rw[<-Int.natCast_mul];omega
    have q4:(U1:Int)+(Q:Int)*(U2:Int)<18446744073709551616:=by rw[<-Int.natCast_mul];omega
    have T2:(V1:Int)+(V2:Int)<=(X1:Int)-(X2:Int):=by omega
    have e1:(X1:Int)/(X2:Int)=(Q:Int):=by rw[hQ];rfl
    have e2:(X1:Int)%(X2:Int)=(R:Int):=by rw[hR'];rfl
    have E1:=Lib.hid e1;have E2:=Lib.hid e2;have HQ:=Lib.hid hQ;have HR:=Lib.hid hR';clear hsim e1 e2 hQ hR' fb fc t2 h64;go_wp2_with fail
    go_quiet (fail)
    rw[E1.out,E2.out];go_wp2_with fail
    go_roundw
    case rel=>
     have hst:=STEP.out _ _ _ _ _ _ _ _ _ HSIM.out t1 (by omega);rw[<-HQ.out,<-HR.out] at hst;refine⟨!ev,U1,U2,U1+Q*U2,V1,V2,V1+Q*V2,X2,R,rfl,rfl,rfl,rfl,hst, ?_, ?_, ?_⟩
     ·exact hS.set U1 U2 V1 V2 (!ev)
     ·
      have h1:=(((hR.far (p:=⟨w2.heap.size,0,none⟩) (by simp;omega) (.int .u64 (U1:Int))).far (p:=⟨w2.heap.size,1,none⟩) (by simp;omega) (.int .u64 (U2:Int))).far (p:=⟨w2.heap.size,2,none⟩) (by simp;omega) (.int .u64 (V1:Int))).far (p:=⟨w2.heap.size,3,none⟩) (by simp;omega) (.int .u64 (V2:Int));exact h1.far (p:=⟨w2.heap.size,4,none⟩) (by simp;omega) _
     ·
      have hb1:=((((belowN hbel nq).setCell (p:=⟨w2.heap.size,0,none⟩) (Nat.le_of_lt hlt2) (.int .u64 (U1:Int))).setCell (p:=⟨w2.heap.size,1,none⟩) (Nat.le_of_lt hlt2) (.int .u64 (U2:Int))).setCell (p:=⟨w2.heap.size,2,none⟩) (Nat.le_of_lt hlt2) (.int .u64 (V1:Int))).setCell (p:=⟨w2.heap.size,3,none⟩) (Nat.le_of_lt hlt2) (.int .u64 (V2:Int));exact hb1.setCell (p:=⟨w2.heap.size,4,none⟩) (Nat.le_of_lt hlt2) _
    case measure=>
     have hm:=Nat.mod_lt X1 (show 0<X2 by omega);rw[<-HR.out] at hm
     simp[intOf];omega
   ·
    have T2:decide ((X1:Int)-(X2:Int)≥(V1:Int)+(V2:Int))=false:=decide_eq_false (by omega);clear hsim t2;go_wp2_with fail
    have hW:=hR.set U0 U1 V0 V1 ev;have hb1:=((((hbel.setCell (p:=⟨w.heap.size,0,none⟩) (Nat.le_refl _) (.int .u64 (U0:Int))).setCell (p:=⟨w.heap.size,1,none⟩) (Nat.le_refl _) (.int .u64 (U1:Int))).setCell (p:=⟨w.heap.size,2,none⟩) (Nat.le_refl _) (.int .u64 (V0:Int))).setCell (p:=⟨w.heap.size,3,none⟩) (Nat.le_refl _) (.int .u64 (V1:Int))).setCell (p:=⟨w.heap.size,4,none⟩) (Nat.le_refl _) (.bool ev);clear hR r0 r1 r2 r3 r4
    generalize (((((wr.setCell ⟨w.heap.size,0,none⟩ (.int .u64 (U0:Int))).setCell ⟨w.heap.size,1,none⟩ (.int .u64 (U1:Int))).setCell ⟨w.heap.size,2,none⟩ (.int .u64 (V0:Int))).setCell ⟨w.heap.size,3,none⟩ (.int .u64 (V1:Int))).setCell ⟨w.heap.size,4,none⟩ (.bool ev))=WW at*
    obtain⟨k0,k1,k2,k3,k4⟩:=hW.cells;refine bodyPost_ret (v:= .agg #[.int .u64 (U0:Int),.int .u64 (U1:Int),.int .u64 (V0:Int),.int .u64 (V1:Int),.bool ev]) (by simp[results,Tryz.results188,go_sem,k0,k1,k2,k3,k4]) rfl ?_;exact⟨ev,U0,U1,V0,V1,rfl,HSIM.out.out,hb1⟩
  ·
   have T1:decide ((X2:Int)≥(V2:Int))=false:=decide_eq_false (by omega);clear hsim;go_wp2_with fail
   have hW:=hR.set U0 U1 V0 V1 ev;have hb1:=((((hbel.setCell (p:=⟨w.heap.size,0,none⟩) (Nat.le_refl _) (.int .u64 (U0:Int))).setCell (p:=⟨w.heap.size,1,none⟩) (Nat.le_refl _) (.int .u64 (U1:Int))).setCell (p:=⟨w.heap.size,2,none⟩) (Nat.le_refl _) (.int .u64 (V0:Int))).setCell (p:=⟨w.heap.size,3,none⟩) (Nat.le_refl _) (.int .u64 (V1:Int))).setCell (p:=⟨w.heap.size,4,none⟩) (Nat.le_refl _) (.bool ev);clear hR r0 r1 r2 r3 r4
   generalize (((((wr.setCell ⟨w.heap.size,0,none⟩ (.int .u64 (U0:Int))).setCell ⟨w.heap.size,1,none⟩ (.int .u64 (U1:Int))).setCell ⟨w.heap.size,2,none⟩ (.int .u64 (V0:Int))).setCell ⟨w.heap.size,3,none⟩ (.int .u64 (V1:Int))).setCell ⟨w.heap.size,4,none⟩ (.bool ev))=WW at*
   obtain⟨k0,k1,k2,k3,k4⟩:=hW.cells;refine bodyPost_ret (v:= .agg #[.int .u64 (U0:Int),.int .u64 (U1:Int),.int .u64 (V0:Int),.int .u64 (V1:Int),.bool ev]) (by simp[results,Tryz.results188,go_sem,k0,k1,k2,k3,k4]) rfl ?_;exact⟨ev,U0,U1,V0,V1,rfl,HSIM.out.out,hb1⟩
end
end Go.Proofs.YtclbiihcbfnjmaaGreat
