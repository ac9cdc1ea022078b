/-
  Parts.
-/
import Derived.Test.YtclbiihcbfnjmaaGreatK7
set_option linter.unusedSimpArgs false
set_option maxRecDepth 100000
set_option maxHeartbeats 8000000
namespace Go.Proofs.YtclbiihcbfnjmaaGreat
section
open Go.RowKit

theorem FL {p:Addr}{n:Nat}{f:Nat->Nat}{w:World}{B:Nat}(h:Rd B .u16 w (some p) n f):∀(j:Nat) (u:Value),(eZ .u16 n f)[j]?=some u->w.cell? (p.add j)=some u:=by
 intro j u hu
 have hj:j<n:=by
  rcases Nat.lt_or_ge j n with hj|hj
  ·exact hj
  ·rw[List.getElem?_eq_none (by rw[en];exact hj)] at hu;cases hu
 obtain⟨b,o,e,hb,hc⟩:=h (by omega)
 have e':p=⟨b,o,none⟩:=by injection e
 subst e';rw[kn hj] at hu;have h1:=hc j hj;unfold Addr.add
 split
 ·rename_i h0;subst h0;rw[<-hu];exact h1
 ·rw[<-hu];exact h1
theorem FM (w:World)(A:Option Addr):aN w A 0:=fun h=>absurd h (by rw[cF];exact Nat.lt_irrefl 0)

def Qu (x y:Nat)(w:World)(e:Ending)(w':World):Prop:=
 ∃A c B d,e= .returned (.tuple #[.slice A (ln aj (x/y)) c,.slice B (ln aj (x%y)) d])/\aN w' A (x/y)/\aN w' B (x%y)/\Below w.heap.size w w'
theorem zG (A B:Option Addr)(c d x y:Nat)(w:World)(hA:aN w A x)(hB:aN w B y)(hy1:ln aj y=1)(la:ln aj x<=1000000):
  Calls Tryz.prog 161 #[.slice A (ln aj x) c,.slice B (ln aj y) d] w (Qu x y w):=by
 obtain⟨b,o,rfl,hb,hc⟩:=hB (by omega);have c1:=hc 0 (by omega)
 have hv:aB aj y 0=y:=by
  have h:=cL aD (x:=y);rw[hy1,aZ,jC] at h
  simpa using h
 have hy0:0<y:=(cK aD).1 (by omega)
 have hy2:y<=65535:=by have:=bh y 0;omega
 rw[hv,Nat.add_zero] at c1
 have o2:IntKind.i64.wrap (y:Int)=(y:Int):=by rw[IntKind.wrap_i64];omega
 have HS:=Lib.hid (FI A c x y w hA hy0 hy2 (by omega));have HL:=Lib.hid hy1;rw[hy1];clear hc hv hy1
 go_enter Tryz.func161,Tryz.ntmps161
 go_wp2_with fail
 refine HS.out.mono ?_
 rintro e w1 ⟨A',c',B',d',rfl,h1,h2,h3,h4,h5⟩
 go_wp2_with fail
 go_ret2
 exact⟨A',c',B',d',rfl,h1,h2,h5⟩
theorem qZ {P:Program}{w:World}(t ty e:TypeId)(i:TypeInfo)(ht:P.underlying t=some (.slice e))(hi:P.info? e=some i)(g c0 c:Nat):
  (Builtin.append_ #[t,t] ty #[.slice (some ⟨g,0,none⟩) 0 c0,.slice none 0 c]).run P w= .ok (.slice (some ⟨g,0,none⟩) 0 c0) w:=by
 simp[Builtin.append_,run_underlying ht,sizeOf,typeInfo,hi,Builtin.lenOf,Builtin.firstCells,storeCells]
theorem nT {P:Program}{w:World}{ops:Array Oper}{rest:List Oper}{o:Oper}{a:Act}{Q:Exit->Act->World->Prop}(hgd:o.guard=none)(s x:Operand)(t:TypeId)
  (ho:o.op= .call {callee:= .builtin .append,args:=#[s,x],argTypes:=#[t,t]}) (e:TypeId) (i:TypeInfo) (ht:P.underlying t=some (.slice e)) (hi:P.info? e=some i)
  (g c0 n c:Nat) (hn:n=0) (hs:a.eval s= .slice (some ⟨g,0,none⟩) 0 c0) (hx:a.eval x= .slice none n c) (h:wpList P ops Q rest (a.put o.dst (.slice (some ⟨g,0,none⟩) 0 c0)) w):wpList P ops Q (o::rest) a w:=by
 subst hn
 refine wpList_plain hgd fun K hK=> ?_
 have hrun:=qZ (P:=P) (w:=w) t o.type e i ht hi g c0 c;unfold Oper.wp
 simp[execOp,ho,resolve,invoke,builtin,hs,hx,hrun,Result.andThen]
 exact hK _ _ h
theorem Qv :ln aj 1=1:=wE aD (by decide) (.inr (by decide))
theorem Qw (w:World)(v:Nat)(hv:v<65536)(h0:0<v):aN (w.alloc (.cells #[.int .u16 (v:Int)] 108)) (some ⟨w.heap.size,0,none⟩) v:=by
 have hcell:=heap_alloc_new w (.cells #[.int .u16 (v:Int)] 108);have h1:ln aj v=1:=wE aD (show v<aj^1 from hv) (.inr h0);unfold aN;rw[h1];intro _;refine⟨_,0,rfl,by simp,fun i hi=> ?_⟩
 obtain rfl:i=0:=by omega
 refine(cell_of_row _ _ 0 _ _ (0,0) hcell).trans ?_;show some (Value.int .u16 (v:Int))=_
 have h2:aB aj v 0=v:=by
  unfold aB;rw[Nat.pow_zero,Nat.div_one];exact Nat.mod_eq_of_lt hv
 rw[h2]
theorem Iz {x y:Nat}(hx:ln aj x<=900000)(hy:ln aj y<=900000){k:Nat}(h:Ra x y k){i:Nat}(hi:i<=k):ln aj (y*2^i)<=900001:=h.ln2 hi hx hy
theorem Qx {x e:Nat}(hx:ln aj x<=900000):ln aj (x/e)<=900000/\ln aj (x%e)<=900000/\ln aj (2*(x/e))<=900001:=by
 have h1:=Nat.le_trans (bO aD (Nat.div_le_self x e)) hx;have h2:=Nat.le_trans (bO aD (Nat.mod_le x e)) hx;have h3:=qS (B:=aj) aD (m:=900000) (x:=x/e) (y:=x/e) h1 h1;rw[<-Nat.two_mul] at h3;exact⟨h1,h2,h3⟩
def ahG (x y m:Nat)(w:World)(D Q R:Option Addr):Prop:=aN w D (y*2^m)/\aN w Q (x/(y*2^m))/\aN w R (x%(y*2^m))

theorem vF (A B:Option Addr)(c d x y:Nat)(w:World)(hA:aN w A x)(hB:aN w B y)(hy1:ln aj y≠1)(hy:0<y)(la:ln aj x<=900000)(lb:ln aj y<=900000):
  Calls Tryz.prog 161 #[.slice A (ln aj x) c,.slice B (ln aj y) d] w (Qu x y w):=by
 have t1:(((ln aj y:Nat):Int)==1)=false:=beq_eq_false_iff_ne.2 (by omega);obtain⟨i0,hi,IC,vG,Oy⟩:=info_parts kq
 go_enter Tryz.func161,Tryz.ntmps161
 go_wp2_with fail
 clear t1
 go_loopw [6,7] (fun n v wr=>∃(k:Nat) (D:Option Addr) (e:Nat),n= .int .i64 (k:Int)/\v= .slice D (ln aj (y*2^k)) e/\aN wr D (y*2^k)/\Hid (Ra x y k)/\k<=16*ln aj x/\Below w.heap.size w wr) (fun n _ _=>x+1-(intOf n).toNat)
 case atStart=>exact⟨0,B,d,rfl,by rw[Nat.pow_zero,Nat.mul_one],by rw[Nat.pow_zero,Nat.mul_one];exact hB,Lib.hid (fun i hi=>absurd hi (by omega)),by omega,Below.refl _ _⟩
 case round=>
  obtain⟨k,D,e,rfl,rfl,hD,hdb,hk,aV⟩:=hrel
  by_cases hlt:x<y*2^k
  ·
   have hs:=Qp hlt;have HS:=Lib.hid hs;have T:=decide_eq_true hlt;have hc:=qX A D c e x (y*2^k) wr (aN.below hA aV) hD (by omega);unfold mO at hc;rw[T] at hc;have HC:=Lib.hid hc;clear hs T hc;go_wp2_with fail
   refine HC.out.mono ?_
   rintro e2 w2 ⟨rfl,nd,rfl⟩
   have dD:Below w.heap.size w (wr.drewN nd):=cI aV nd;have DV:aN (wr.drewN nd) B y:=aN.below hB dD;clear hD
   obtain⟨w2,zP⟩:∃w2,w2=wr.drewN nd:=⟨_,rfl⟩
   rw[<-zP] at dD DV⊢;clear zP HC;go_wp2_with fail
   go_loopw [8,9] (fun v i wr=>∃(j:Nat) (D:Option Addr) (e:Nat),j<=k/\i= .int .i64 (j:Int)/\v= .slice D (ln aj (y*2^j)) e/\aN wr D (y*2^j)/\Below w.heap.size w wr) (fun _ i _=>k-(intOf i).toNat)
   case atStart=>exact⟨0,B,d,Nat.zero_le _,rfl,by rw[Nat.pow_zero,Nat.mul_one],by rw[Nat.pow_zero,Nat.mul_one];exact DV,dD⟩
   case round=>
    obtain⟨j,D2,e2,hj,rfl,rfl,hD2,dM⟩:=hrel;have hmx:=Iz la lb hdb.out hj
    by_cases hjk:j<k
    ·
     have t2:decide ((j:Int)<(k:Int))=true:=decide_eq_true (by omega);have hc:=tD D2 D2 e2 e2 (y*2^j) (y*2^j) wr hD2 hD2 (by omega) (by omega);rw[gH] at hc;have HC:=Lib.hid hc;clear hc;go_wp2_with fail
     refine HC.out.mono ?_
     rintro e3 w3 ⟨D3,c3,rfl,hD3,-,fT⟩
     go_wp2_with fail
     go_roundw
     case rel=>exact⟨j+1,D3,c3,hjk,by go_num,rfl,hD3,dM.trans (fT.mono dM.size)⟩
     case measure=>simp[intOf];omega
    ·
     obtain rfl:j=k:=by omega
     have t2:decide ((j:Int)<(j:Int))=false:=decide_eq_false (by omega);have hA3:aN wr A x:=aN.below hA dM
     obtain⟨w3,rfl⟩:∃w3:World,w3=wr:=⟨_,rfl⟩
     obtain⟨yy,Gj⟩:=HS.out
     go_upto_region 14 with(fail)
     go_cut [11] from 43 to 45 (fun r wx=>∃R cr,r= .slice R (ln aj (x%(y*2^j))) cr/\aN wx R x/\Below w3.heap.size w3 wx)
     case first=>
      have hbe:Below w3.heap.size w3 (w3.alloc (.cells #[] 108)):=(Below.refl _ _).alloc (Nat.le_refl _) _;have HR:=Lib.hid Gj;clear yy Gj t2
      cases A with
      |none=>
       have hx0:ln aj x=0:=by
        rcases Nat.eq_zero_or_pos (ln aj x) with h0|h0
        ·exact h0
        ·
         obtain⟨_,_,h1,_⟩:=hA3 h0
         cases h1
       have HX0:=Lib.hid hx0;clear hx0;go_wp2_with (at_builtin;refine nT (by rfl) _ _ 25 (by rfl) 108 i0 Tryz.underlying25 hi w3.heap.size 0 (ln aj x) c HX0.out (by rfl) (by rfl) ?_)
       go_meet
       exact⟨some ⟨w3.heap.size,0,none⟩,0,by rw[HR.out,HX0.out],fun h=>absurd h (by rw[HX0.out];exact Nat.lt_irrefl 0),hbe⟩
      |some p=>
       have HC:=Lib.hid (FL (Rd.below hA3 hbe))
       have HL:(eZ .u16 (ln aj x) (aB aj x)).length=ln aj x*1:=by rw[en];omega
       have H1:∀u∈eZ .u16 (ln aj x) (aB aj x),u.oneCell'=true:=by simp[eZ,Value.oneCell']
       have HM:0+ln aj x<=maxLen:=by unfold maxLen;omega
       have HB:(0+ln aj x)*2<=140737488355328:=by omega
       have HSZ:w3.heap.size<=(w3.alloc (.cells #[] 108)).heap.size:=by simp
       go_wp2_with (at_builtin;refine wpList_append_own _ rfl _ _ 25 rfl w3.heap.size 108 i0 (.int .u16 0) 1 2 Tryz.underlying25 hi IC vG Oy rfl (by decide) _ _ _ rfl (World.ownsRow_made w3 #[] 0 (Nat.le_refl _) (by decide) rfl) p (ln aj x) c (eZ .u16 (ln aj x) (aB aj x)) rfl HL HC.out H1 HM HB HSZ ?_;intro v' w4 hown hgrow _;obtain⟨A4,c4,rfl⟩:=mM hown)
       go_meet
       rw[Nat.zero_add,List.nil_append] at hown;obtain⟨A5,c5,e5,_,hr5⟩:=qG.mI hown
       injection e5 with e5 e6 e7
       subst e5;refine⟨A4,c4,by rw[HR.out],hr5.rd,hbe.grown hgrow (by simp) (fun k e=>by cases e;exact Nat.le_refl _)⟩
     case rest=>
     obtain⟨R,cr,rfl,lV,gQ⟩:=hcut;have hst:ahG x y j wc D2 none R:=⟨aN.below hD2 gQ,by rw[yy];exact FM _ _,by rw[Gj];exact lV⟩;have eF:=dM.trans (gQ.mono dM.size);have HQ:=Lib.hid yy;clear lV gQ yy Gj t2 HS hD2 hdb hA3
     obtain⟨w5,rfl⟩:∃w5:World,w5=wc:=⟨_,rfl⟩
     go_wp2_with fail
     go_loopw [8,10,11,12] (fun dv q r i wr=>∃(p m:Nat) (D Q R:Option Addr) (cd cq cr:Nat),p+m=j/\i= .int .i64 (p:Int)/\dv= .slice D (ln aj (y*2^m)) cd/\q= .slice Q (ln aj (x/(y*2^m))) cq/\r= .slice R (ln aj (x%(y*2^m))) cr/\ahG x y m wr D Q R/\ln aj (y*2^m)<=900001/\Below w.heap.size w wr) (fun _ _ _ i _=>j-(intOf i).toNat)
     case atStart=>exact⟨0,j,D2,none,R,e2,0,cr,by omega,rfl,rfl,by rw[HQ.out,cF],rfl,hst,hmx,eF⟩
     case round=>
      obtain⟨p,m,D,Q,R,cd,cq,cr,hpm,rfl,rfl,rfl,rfl,⟨hD,hQ,hR⟩,zO,kG⟩:=hrel
      by_cases hpj:p<j
      ·
       obtain⟨m,rfl⟩:∃m',m=m'+1:=⟨m-1,by omega⟩
       have t3:decide ((p:Int)<(j:Int))=true:=decide_eq_true (by omega);have hE0:0<y*2^m:=Nat.mul_pos hy (Nat.pow_pos (by decide));obtain⟨d1,d2⟩:=Vv (x:=x) (e:=y*2^m) hE0
       have bG:y*2^m*2=y*2^(m+1):=by rw[Nat.pow_succ,Nat.mul_assoc]
       obtain⟨L1,L2,L3⟩:=Qx (x:=x) (e:=y*2^(m+1)) la;have hlm:ln aj (y*2^m)<=900001:=Nat.le_trans (bO aD (by rw[<-bG];omega)) zO;rw[bG] at d1 d2;have hh:=Ki D cd (y*2^(m+1)) wr hD (by omega);rw[zF] at hh
       have hp:=fun W c1 c2 hq=>tD Q Q c1 c2 (x/(y*2^(m+1))) (x/(y*2^(m+1))) W hq hq (by omega) (by omega)
       rw[<-Nat.two_mul] at hp;have HH:=Lib.hid hh;have HP:=Lib.hid hp;have XH:=Lib.hid d1;have XI:=Lib.hid d2;clear hh hp d1 d2 bG;go_wp2_with fail
       refine HH.out.mono ?_
       rintro e5 w5 ⟨D5,c5,rfl,hD5,-,fO⟩
       have hQ5:=aN.below hQ fO;have wM:=aN.below hR fO;replace kG:=kG.trans (fO.mono kG.size);clear fO hD hQ hR HH;go_wp2_with fail
       refine(HP.out w5 cq cq hQ5).mono ?_
       rintro e6 w6 ⟨Q6,c6,rfl,hQ6,-,Kf⟩
       have hD6:=aN.below hD5 Kf;have hR6:=aN.below wM Kf;replace kG:=kG.trans (Kf.mono kG.size);clear Kf hD5 hQ5 wM HP;have hc:=qX R D5 cr c5 (x%(y*2^(m+1))) (y*2^m) w6 hR6 hD6 (by omega);unfold mO at hc
       by_cases hRD:x%(y*2^(m+1))<y*2^m
       ·
        rw[decide_eq_true hRD] at hc;have HC:=Lib.hid hc;have p9:=XH.out;have FU:=XI.out;rw[if_pos hRD] at p9 FU;rw[Nat.add_zero] at p9;have XH:=Lib.hid p9;have XI:=Lib.hid FU;clear hc p9 FU hRD;go_wp2_with fail
        refine HC.out.mono ?_
        rintro e7 w7 ⟨rfl,nd,rfl⟩
        go_wp2_with fail
        go_roundw
        case rel=>
         refine⟨p+1,m,D5,Q6,R,c5,c6,cr,by omega,by go_num,rfl,by rw[XH.out],by rw[XI.out],⟨aN.below hD6 (cI (Below.refl _ _) nd), ?_, ?_⟩,hlm,cI kG nd⟩
         ·rw[XH.out];exact aN.below hQ6 (cI (Below.refl _ _) nd)
         ·rw[XI.out];exact aN.below hR6 (cI (Below.refl _ _) nd)
        case measure=>simp[intOf];omega
       ·
        rw[decide_eq_false hRD] at hc;have HC:=Lib.hid hc;have p9:=XH.out;have FU:=XI.out;rw[if_neg hRD] at p9 FU;have XH:=Lib.hid p9;have XI:=Lib.hid FU;have hm1:=FK R D5 cr c5 (x%(y*2^(m+1))) (y*2^m);have HM:=Lib.hid hm1
        have Cg:=fun W hq=>tD Q6 (some ⟨W.heap.size,0,none⟩) c6 1 (2*(x/(y*2^(m+1)))) 1 (W.alloc (.cells #[.int .u16 1] 108)) hq (Qw W 1 (by decide) (by decide)) (by omega) (by rw[Qv];decide)
        rw[Qv] at Cg;have HP1:=Lib.hid Cg;clear hc p9 FU hm1 Cg;go_wp2_with fail
        refine HC.out.mono ?_
        rintro e7 w7 ⟨rfl,nd,rfl⟩
        go_wp2_with fail
        refine(HM.out _ (aN.below hR6 (cI (Below.refl _ _) nd)) (aN.below hD6 (cI (Below.refl _ _) nd)) (by omega) (by omega)).mono ?_
        rintro e8 w8 ⟨R8,c8,rfl,hR8,-,NV⟩
        have hD8:aN w8 D5 (y*2^m):=aN.below hD6 ((cI (Below.refl _ _) nd).trans NV);have hQ8:aN w8 Q6 _:=aN.below hQ6 ((cI (Below.refl _ _) nd).trans NV);replace kG:=(cI kG nd).trans (NV.mono kG.size);clear NV hD6 hQ6 hR6;have hba:=(Below.refl w8.heap.size w8).alloc (Nat.le_refl _) (.cells #[.int .u16 1] 108);go_wp2_with fail
        refine(HP1.out w8 (aN.below hQ8 hba)).mono ?_
        rintro e9 w9 ⟨Q9,c9,rfl,hQ9,-,hb9⟩
        have abG:=hba.trans (hb9.mono hba.size);go_wp2_with fail
        go_roundw
        case rel=>
         refine⟨p+1,m,D5,Q9,R8,c5,c9,c8,by omega,by go_num,rfl,by rw[XH.out],by rw[XI.out],⟨aN.below hD8 abG, ?_, ?_⟩,hlm,kG.trans (abG.mono kG.size)⟩
         ·rw[XH.out];exact hQ9
         ·rw[XI.out];exact aN.below hR8 abG
        case measure=>simp[intOf];omega
      ·
       obtain rfl:p=j:=by omega
       obtain rfl:m=0:=by omega
       have t3:decide ((p:Int)<(p:Int))=false:=decide_eq_false (by omega);rw[Nat.pow_zero,Nat.mul_one] at hQ hR⊢;go_wp2_with fail
       go_ret2
       exact⟨Q,cq,R,cr,rfl,hQ,hR,kG⟩
  ·
   have hdk:=Ra.succ hdb.out hlt;have hkk:=vE hy hdk;have hkx:=qY hy (show y*2^k<=x by omega);have HD:=Lib.hid hdk;have T:=decide_eq_false hlt;have hc:=qX A D c e x (y*2^k) wr (aN.below hA aV) hD (by omega);unfold mO at hc;rw[T] at hc;have HC:=Lib.hid hc;have hmx:=Iz la lb hdb.out (Nat.le_refl _);have hp:=tD D D e e (y*2^k) (y*2^k);rw[gH] at hp;have HP:=Lib.hid hp;clear T hc hp hdk hlt;go_wp2_with fail
   refine HC.out.mono ?_
   rintro e2 w2 ⟨rfl,nd,rfl⟩
   go_wp2_with fail
   refine(HP.out (wr.drewN nd) hD hD (by omega) (by omega)).mono ?_
   rintro e3 w3 ⟨D3,c3,rfl,hD3,-,fT⟩
   have dM:Below w.heap.size w w3:=(cI aV nd).trans (fT.mono aV.size);go_wp2_with fail
   go_roundw
   case rel=>exact⟨k+1,D3,c3,by go_num,rfl,hD3,HD.out,by omega,dM⟩
   case measure=>simp[intOf];omega
end
section
open Go.RowKit

theorem pP (A B:Option Addr)(c d x y:Nat)(w:World)(hA:aN w A x)(hB:aN w B y)(hy:0<y)(la:ln aj x<=900000)(lb:ln aj y<=900000):
  Calls Tryz.prog 161 #[.slice A (ln aj x) c,.slice B (ln aj y) d] w (Qu x y w):=by
 by_cases h:ln aj y=1
 ·exact zG A B c d x y w hA hB h (by omega)
 ·exact vF A B c d x y w hA hB h hy la lb
def zH (w:World):Value->Nat
 | .slice (some p) n _=>vs aj (fun i=>match w.cell? ⟨p.block,p.off+i,none⟩ with|some (.int _ z)=>z.toNat|_=>0) n
 |_=>0
theorem rY {w:World}{A:Option Addr}{x c:Nat}(h:aN w A x):zH w (.slice A (ln aj x) c)=x:=by
 rcases Nat.eq_zero_or_pos (ln aj x) with h0|h0
 ·
  have hx:x=0:=by
   rcases Nat.eq_zero_or_pos x with e|e
   ·exact e
   ·have:=(cK aD).2 e;omega
  subst hx
  cases A<;>simp[zH,cF,vs]
 ·
  obtain⟨b,o,rfl,hb,hc⟩:=h h0
  have h1:vs aj (fun i=>match w.cell? ⟨b,o+i,none⟩ with|some (.int _ z)=>z.toNat|_=>0) (ln aj x)=vs aj (aB aj x) (ln aj x):=ei fun i hi=>by rw[hc i hi];simp
  show vs aj (fun i=>match w.cell? ⟨b,o+i,none⟩ with|some (.int _ z)=>z.toNat|_=>0) (ln aj x)=x;rw[h1,cL aD]
def ahH (G:Nat)(w0:World)(a b:Value)(wr:World)(y:Nat):Prop:=
 ∃A c B d x,a= .slice A (ln aj x) c/\b= .slice B (ln aj y) d/\aN wr A x/\aN wr B y/\Nat.gcd x y=G/\ln aj x<=900000/\ln aj y<=900000/\Below w0.heap.size w0 wr
theorem C6 (A B:Option Addr)(c d x y:Nat)(w:World)(hA:aN w A x)(hB:aN w B y)(la:ln aj x<=900000)(lb:ln aj y<=900000):
  Calls Tryz.prog 134 #[.slice A (ln aj x) c,.slice B (ln aj y) d] w fun e w'=>∃A' c',e= .returned (.slice A' (ln aj (Nat.gcd x y)) c')/\aN w' A' (Nat.gcd x y)/\Below w.heap.size w w':=by
 obtain⟨G,hG⟩:∃G,Nat.gcd x y=G:=⟨_,rfl⟩
 rw[hG];have HG:=Lib.hid hG;clear hG
 go_enter Tryz.func134,Tryz.ntmps134
 go_wp2_with fail
 go_loopw [0,1] (fun a b wr=>∃v,ahH G w a b wr v) (fun _ b wr=>zH wr b)
 case atStart=>exact⟨y,A,c,B,d,x,rfl,rfl,hA,hB,HG.out,la,lb,Below.refl _ _⟩
 case round=>
  obtain⟨y',A,c,B,d,x',rfl,rfl,hA,hB,hg,la,lb,aV⟩:=hrel;have hval:=rY (c:=d) hB
  by_cases h0:0<y'
  ·
   have t1:0<ln aj y':=(cK aD).2 h0;have hlr:ln aj (x'%y')<=900000:=Nat.le_trans (bO aD (Nat.le_of_lt (Nat.mod_lt _ h0))) lb;have hmod:=Nat.mod_lt x' h0;have HV:=Lib.hid hval;have HG2:=Lib.hid hg;clear hval hg;go_wp2_with fail
   refine(pP A B c d x' y' wr hA hB h0 la lb).mono ?_
   rintro e w2 ⟨Q,cq,R,cr,rfl,-,hR,dL⟩
   have rW:=rY (c:=cr) hR;have HV2:=Lib.hid rW;clear rW;go_wp2_with fail
   go_roundw
   case rel=>exact⟨x'%y',B,d,R,cr,y',rfl,rfl,aN.below hB dL,hR,by rw[Nat.gcd_comm,<-Nat.gcd_rec,Nat.gcd_comm];exact HG2.out,lb,hlr,aV.trans (dL.mono aV.size)⟩
   case measure=>rw[HV.out,HV2.out];exact hmod
  ·
   obtain rfl:y'=0:=by omega
   have hx':x'=G:=by rw[<-hg,Nat.gcd_zero_right]
   have t1:decide (0<ln aj 0)=false:=by rw[cF];rfl
   have HX:=Lib.hid hx';clear hval hx' hg;go_wp2_with fail
   go_ret
   exact⟨A,c,by rw[HX.out];rfl,by rw[<-HX.out];exact hA,aV⟩
end
end Go.Proofs.YtclbiihcbfnjmaaGreat
