/-
  Parts.
-/
import Derived.Test.YtclbiihcbfnjmaaGreatK7
set_option linter.unusedSimpArgs false
set_option maxRecDepth 100000
set_option maxHeartbeats 8000000
namespace Go.Proofs.YtclbiihcbfnjmaaGreat
section
open Go.RowKit

theorem Iq {p:Addr}{n:Nat}{f:Nat->Nat}{w:World}{B:Nat}(h:Rd B .u16 w (some p) n f):∀(j:Nat) (u:Value),(gC .u16 n f)[j]?=some u->w.cell? (p.add j)=some u:=by
 intro j u hu
 have hj:j<n:=by
  rcases cX j n with hj|hj
  ·exact hj
  ·rw[List.getElem?_eq_none (by rw[fA];exact hj)] at hu;cases hu
 obtain⟨b,o,e,hb,hc⟩:=h (by omega)
 have e':p=⟨b,o,none⟩:=by injection e
 subst e';rw[lE hj] at hu;have h1:=hc j hj;unfold Addr.add
 split
 ·rename_i h0;subst h0;rw[<-hu];exact h1
 ·rw[<-hu];exact h1
theorem Ir (w:World)(A:Option Addr):aJ w A 0:=fun h=>absurd h (by rw[cY];exact Nat.lt_irrefl 0)

def Tw (x y:Nat)(w:World)(e:Ending)(w':World):Prop:=
 ∃A c B d,e= .returned (.tuple #[.slice A (ln ai (x/y)) c,.slice B (ln ai (x%y)) d])/\aJ w' A (x/y)/\aJ w' B (x%y)/\Below w.heap.size w w'
theorem Ck (A B:Option Addr)(c d x y:Nat)(w:World)(hA:aJ w A x)(hB:aJ w B y)(hy1:ln ai y=1)(la:ln ai x<=1000000):
  Calls Tryz.prog 161 #[.slice A (ln ai x) c,.slice B (ln ai y) d] w (Tw x y w):=by
 obtain⟨b,o,rfl,hb,hc⟩:=hB (by omega);have c1:=hc 0 (by omega)
 have hv:aB ai y 0=y:=by
  have h:=dB aA (x:=y);rw[hy1,bz,kI] at h
  simpa using h
 have hy0:0<y:=(dM aA).1 (by omega)
 have hy2:y<=65535:=by have:=bu y 0;omega
 rw[hv,ko] at c1
 have o2:IntKind.i64.wrap (y:Int)=(y:Int):=by rw[cL];omega
 have HS:=af (Ij A c x y w hA hy0 hy2 (by omega));have HL:=af hy1;rw[hy1];clear hc hv hy1
 go_enter Tryz.func161,Tryz.ntmps161
 go_wp2_with fail
 refine HS.out.mono ?_
 rintro e w1 ⟨A',c',B',d',rfl,h1,h2,h3,h4,h5⟩
 go_wp2_with fail
 go_ret2
 exact⟨A',c',B',d',rfl,h1,h2,h5⟩
theorem tA {P:Program}{w:World}(t ty e:TypeId)(i:TypeInfo)(ht:P.underlying t=some (.slice e))(hi:P.info? e=some i)(g c0 c:Nat):
  (Builtin.append_ #[t,t] ty #[.slice (some ⟨g,0,none⟩) 0 c0,.slice none 0 c]).run P w= .ok (.slice (some ⟨g,0,none⟩) 0 c0) w:=by
 simp[Builtin.append_,run_underlying ht,sizeOf,typeInfo,hi,Builtin.lenOf,Builtin.firstCells,storeCells]
theorem pL {P:Program}{w:World}{ops:Array Oper}{rest:List Oper}{o:Oper}{a:Act}{Q:Exit->Act->World->Prop}(hgd:o.guard=none)(s x:Operand)(t:TypeId)
  (ho:o.op= .call {callee:= .builtin .append,args:=#[s,x],argTypes:=#[t,t]}) (e:TypeId) (i:TypeInfo) (ht:P.underlying t=some (.slice e)) (hi:P.info? e=some i)
  (g c0 n c:Nat) (hn:n=0) (hs:a.eval s= .slice (some ⟨g,0,none⟩) 0 c0) (hx:a.eval x= .slice none n c) (h:wpList P ops Q rest (a.put o.dst (.slice (some ⟨g,0,none⟩) 0 c0)) w):wpList P ops Q (o::rest) a w:=by
 subst hn
 refine wpList_plain hgd fun K hK=> ?_
 have hrun:=tA (P:=P) (w:=w) t o.type e i ht hi g c0 c;unfold Oper.wp
 simp[execOp,ho,resolve,invoke,builtin,hs,hx,hrun,Result.andThen]
 exact hK _ _ h
theorem Tx :ln ai 1=1:=yE aA (by decide) (.inr (by decide))
theorem Ty (w:World)(v:Nat)(hv:v<65536)(h0:0<v):aJ (w.alloc (.cells #[.int .u16 (v:Int)] 108)) (some ⟨w.heap.size,0,none⟩) v:=by
 have hcell:=eU w (.cells #[.int .u16 (v:Int)] 108);have h1:ln ai v=1:=yE aA (show v<ai^1 from hv) (.inr h0);unfold aJ;rw[h1];intro _;refine⟨_,0,rfl,by simp,fun i hi=> ?_⟩
 obtain rfl:i=0:=by omega
 refine(gZ _ _ 0 _ _ (0,0) hcell).trans ?_;show some (Value.int .u16 (v:Int))=_
 have h2:aB ai v 0=v:=by
  unfold aB;rw[Nat.pow_zero,Nat.div_one];exact fm hv
 rw[h2]
theorem Ks {x y:Nat}(hx:ln ai x<=900000)(hy:ln ai y<=900000){k:Nat}(h:TW x y k){i:Nat}(hi:i<=k):ln ai (y*2^i)<=900001:=h.ln2 hi hx hy
theorem Tz {x e:Nat}(hx:ln ai x<=900000):ln ai (x/e)<=900000/\ln ai (x%e)<=900000/\ln ai (2*(x/e))<=900001:=by
 have h1:=ay (cN aA (Nat.div_le_self x e)) hx;have h2:=ay (cN aA (Nat.mod_le x e)) hx;have h3:=sV (B:=ai) aA (m:=900000) (x:=x/e) (y:=x/e) h1 h1;rw[<-Nat.two_mul] at h3;exact⟨h1,h2,h3⟩
def ajW (x y m:Nat)(w:World)(D Q R:Option Addr):Prop:=aJ w D (y*2^m)/\aJ w Q (x/(y*2^m))/\aJ w R (x%(y*2^m))

theorem xL (A B:Option Addr)(c d x y:Nat)(w:World)(hA:aJ w A x)(hB:aJ w B y)(hy1:ln ai y≠1)(hy:0<y)(la:ln ai x<=900000)(lb:ln ai y<=900000):
  Calls Tryz.prog 161 #[.slice A (ln ai x) c,.slice B (ln ai y) d] w (Tw x y w):=by
 have t1:(((ln ai y:Nat):Int)==1)=false:=gh.2 (by omega);obtain⟨i0,hi,Kx,xM,El⟩:=info_parts lG
 go_enter Tryz.func161,Tryz.ntmps161
 go_wp2_with fail
 clear t1
 go_loopw [6,7] (fun n v wr=>∃(k:Nat) (D:Option Addr) (e:Nat),n= .int .i64 (k:Int)/\v= .slice D (ln ai (y*2^k)) e/\aJ wr D (y*2^k)/\Hid (TW x y k)/\k<=16*ln ai x/\Below w.heap.size w wr) (fun n _ _=>x+1-(intOf n).toNat)
 case atStart=>exact⟨0,B,d,rfl,by rw[Nat.pow_zero,fJ],by rw[Nat.pow_zero,fJ];exact hB,af (fun i hi=>absurd hi (by omega)),by omega,aU _ _⟩
 case round=>
  obtain⟨k,D,e,rfl,rfl,hD,hdb,hk,bh⟩:=hrel
  by_cases hlt:x<y*2^k
  ·
   have hs:=Tr hlt;have HS:=af hs;have T:=aL hlt;have hc:=pz A D c e x (y*2^k) wr (aJ.below hA bh) hD (by omega);unfold oI at hc;rw[T] at hc;have HC:=af hc;clear hs T hc;go_wp2_with fail
   refine HC.out.mono ?_
   rintro e2 w2 ⟨rfl,nd,rfl⟩
   have dS:Below w.heap.size w (wr.drewN nd):=dG bh nd;have FA:aJ (wr.drewN nd) B y:=aJ.below hB dS;clear hD
   obtain⟨w2,KU⟩:∃w2,w2=wr.drewN nd:=⟨_,rfl⟩
   rw[<-KU] at dS FA⊢;clear KU HC;go_wp2_with fail
   go_loopw [8,9] (fun v i wr=>∃(j:Nat) (D:Option Addr) (e:Nat),j<=k/\i= .int .i64 (j:Int)/\v= .slice D (ln ai (y*2^j)) e/\aJ wr D (y*2^j)/\Below w.heap.size w wr) (fun _ i _=>k-(intOf i).toNat)
   case atStart=>exact⟨0,B,d,bF _,rfl,by rw[Nat.pow_zero,fJ],by rw[Nat.pow_zero,fJ];exact FA,dS⟩
   case round=>
    obtain⟨j,D2,e2,hj,rfl,rfl,hD2,eT⟩:=hrel;have hmx:=Ks la lb hdb.out hj
    by_cases hjk:j<k
    ·
     have t2:decide ((j:Int)<(k:Int))=true:=aL (by omega);have hc:=rO D2 D2 e2 e2 (y*2^j) (y*2^j) wr hD2 hD2 (by omega) (by omega);rw[iW] at hc;have HC:=af hc;clear hc;go_wp2_with fail
     refine HC.out.mono ?_
     rintro e3 w3 ⟨D3,c3,rfl,hD3,-,iz⟩
     go_wp2_with fail
     go_roundw
     case rel=>exact⟨j+1,D3,c3,hjk,by go_num,rfl,hD3,eT.trans (iz.mono eT.size)⟩
     case measure=>simp[intOf];omega
    ·
     obtain rfl:j=k:=by omega
     have t2:decide ((j:Int)<(j:Int))=false:=aH (by omega);have hA3:aJ wr A x:=aJ.below hA eT
     obtain⟨w3,rfl⟩:∃w3:World,w3=wr:=⟨_,rfl⟩
     obtain⟨xq,Jc⟩:=HS.out
     go_upto_region 14 with(fail)
     go_cut [11] from 43 to 45 (fun r wx=>∃R cr,r= .slice R (ln ai (x%(y*2^j))) cr/\aJ wx R x/\Below w3.heap.size w3 wx)
     case first=>
      have hbe:Below w3.heap.size w3 (w3.alloc (.cells #[] 108)):=(aU _ _).alloc (aq _) _;have HR:=af Jc;clear xq Jc t2
      cases A with
      |none=>
       have hx0:ln ai x=0:=by
        rcases dF (ln ai x) with h0|h0
        ·exact h0
        ·
         obtain⟨_,_,h1,_⟩:=hA3 h0
         cases h1
       have HX0:=af hx0;clear hx0;go_wp2_with (at_builtin;refine pL (by rfl) _ _ 25 (by rfl) 108 i0 Tryz.underlying25 hi w3.heap.size 0 (ln ai x) c HX0.out (by rfl) (by rfl) ?_)
       go_meet
       exact⟨some ⟨w3.heap.size,0,none⟩,0,by rw[HR.out,HX0.out],fun h=>absurd h (by rw[HX0.out];exact Nat.lt_irrefl 0),hbe⟩
      |some p=>
       have HC:=af (Iq (Rd.below hA3 hbe))
       have HL:(gC .u16 (ln ai x) (aB ai x)).length=ln ai x*1:=by rw[fA];omega
       have H1:∀u∈gC .u16 (ln ai x) (aB ai x),u.oneCell'=true:=by simp[gC,Value.oneCell']
       have HM:0+ln ai x<=maxLen:=by unfold maxLen;omega
       have HB:(0+ln ai x)*2<=140737488355328:=by omega
       have HSZ:w3.heap.size<=(w3.alloc (.cells #[] 108)).heap.size:=by simp
       go_wp2_with (at_builtin;refine wpList_append_own _ rfl _ _ 25 rfl w3.heap.size 108 i0 (.int .u16 0) 1 2 Tryz.underlying25 hi Kx xM El rfl (by decide) _ _ _ rfl (World.ownsRow_made w3 #[] 0 (aq _) (by decide) rfl) p (ln ai x) c (gC .u16 (ln ai x) (aB ai x)) rfl HL HC.out H1 HM HB HSZ ?_;intro v' w4 hown hgrow _;obtain⟨A4,c4,rfl⟩:=oG hown)
       go_meet
       rw[fk,List.nil_append] at hown;obtain⟨A5,c5,e5,_,hr5⟩:=sL.oA hown
       injection e5 with e5 e6 e7
       subst e5;refine⟨A4,c4,by rw[HR.out],hr5.rd,hbe.grown hgrow (by simp) (fun k e=>by cases e;exact aq _)⟩
     case rest=>
     obtain⟨R,cr,rfl,nW,jf⟩:=hcut;have hst:ajW x y j wc D2 none R:=⟨aJ.below hD2 jf,by rw[xq];exact Ir _ _,by rw[Jc];exact nW⟩;have fK:=eT.trans (jf.mono eT.size);have HQ:=af xq;clear nW jf xq Jc t2 HS hD2 hdb hA3
     obtain⟨w5,rfl⟩:∃w5:World,w5=wc:=⟨_,rfl⟩
     go_wp2_with fail
     go_loopw [8,10,11,12] (fun dv q r i wr=>∃(p m:Nat) (D Q R:Option Addr) (cd cq cr:Nat),p+m=j/\i= .int .i64 (p:Int)/\dv= .slice D (ln ai (y*2^m)) cd/\q= .slice Q (ln ai (x/(y*2^m))) cq/\r= .slice R (ln ai (x%(y*2^m))) cr/\ajW x y m wr D Q R/\ln ai (y*2^m)<=900001/\Below w.heap.size w wr) (fun _ _ _ i _=>j-(intOf i).toNat)
     case atStart=>exact⟨0,j,D2,none,R,e2,0,cr,by omega,rfl,rfl,by rw[HQ.out,cY],rfl,hst,hmx,fK⟩
     case round=>
      obtain⟨p,m,D,Q,R,cd,cq,cr,hpm,rfl,rfl,rfl,rfl,⟨hD,hQ,hR⟩,Cr,lS⟩:=hrel
      by_cases hpj:p<j
      ·
       obtain⟨m,rfl⟩:∃m',m=m'+1:=⟨m-1,by omega⟩
       have t3:decide ((p:Int)<(j:Int))=true:=aL (by omega);have hE0:0<y*2^m:=dP hy (bM (by decide));obtain⟨d1,d2⟩:=YH (x:=x) (e:=y*2^m) hE0
       have dD:y*2^m*2=y*2^(m+1):=by rw[cF,cA]
       obtain⟨L1,L2,L3⟩:=Tz (x:=x) (e:=y*2^(m+1)) la;have hlm:ln ai (y*2^m)<=900001:=ay (cN aA (by rw[<-dD];omega)) Cr;rw[dD] at d1 d2;have hh:=Mu D cd (y*2^(m+1)) wr hD (by omega);rw[Ci] at hh
       have hp:=fun W c1 c2 hq=>rO Q Q c1 c2 (x/(y*2^(m+1))) (x/(y*2^(m+1))) W hq hq (by omega) (by omega)
       rw[<-Nat.two_mul] at hp;have HH:=af hh;have HP:=af hp;have HD1:=af d1;have HD2:=af d2;clear hh hp d1 d2 dD;go_wp2_with fail
       refine HH.out.mono ?_
       rintro e5 w5 ⟨D5,c5,rfl,hD5,-,fC⟩
       have hQ5:=aJ.below hQ fC;have yL:=aJ.below hR fC;replace lS:=lS.trans (fC.mono lS.size);clear fC hD hQ hR HH;go_wp2_with fail
       refine(HP.out w5 cq cq hQ5).mono ?_
       rintro e6 w6 ⟨Q6,c6,rfl,hQ6,-,pK⟩
       have hD6:=aJ.below hD5 pK;have hR6:=aJ.below yL pK;replace lS:=lS.trans (pK.mono lS.size);clear pK hD5 hQ5 yL HP;have hc:=pz R D5 cr c5 (x%(y*2^(m+1))) (y*2^m) w6 hR6 hD6 (by omega);unfold oI at hc
       by_cases hRD:x%(y*2^(m+1))<y*2^m
       ·
        rw[aL hRD] at hc;have HC:=af hc;have rY:=HD1.out;have Iz:=HD2.out;rw[if_pos hRD] at rY Iz;rw[ko] at rY;have HD1:=af rY;have HD2:=af Iz;clear hc rY Iz hRD;go_wp2_with fail
        refine HC.out.mono ?_
        rintro e7 w7 ⟨rfl,nd,rfl⟩
        go_wp2_with fail
        go_roundw
        case rel=>
         refine⟨p+1,m,D5,Q6,R,c5,c6,cr,by omega,by go_num,rfl,by rw[HD1.out],by rw[HD2.out],⟨aJ.below hD6 (dG (aU _ _) nd), ?_, ?_⟩,hlm,dG lS nd⟩
         ·rw[HD1.out];exact aJ.below hQ6 (dG (aU _ _) nd)
         ·rw[HD2.out];exact aJ.below hR6 (dG (aU _ _) nd)
        case measure=>simp[intOf];omega
       ·
        rw[aH hRD] at hc;have HC:=af hc;have rY:=HD1.out;have Iz:=HD2.out;rw[if_neg hRD] at rY Iz;have HD1:=af rY;have HD2:=af Iz;have hm1:=qG R D5 cr c5 (x%(y*2^(m+1))) (y*2^m);have HM:=af hm1
        have DL:=fun W hq=>rO Q6 (some ⟨W.heap.size,0,none⟩) c6 1 (2*(x/(y*2^(m+1)))) 1 (W.alloc (.cells #[.int .u16 1] 108)) hq (Ty W 1 (by decide) (by decide)) (by omega) (by rw[Tx];decide)
        rw[Tx] at DL;have HP1:=af DL;clear hc rY Iz hm1 DL;go_wp2_with fail
        refine HC.out.mono ?_
        rintro e7 w7 ⟨rfl,nd,rfl⟩
        go_wp2_with fail
        refine(HM.out _ (aJ.below hR6 (dG (aU _ _) nd)) (aJ.below hD6 (dG (aU _ _) nd)) (by omega) (by omega)).mono ?_
        rintro e8 w8 ⟨R8,c8,rfl,hR8,-,hb8⟩
        have hD8:aJ w8 D5 (y*2^m):=aJ.below hD6 ((dG (aU _ _) nd).trans hb8);have hQ8:aJ w8 Q6 _:=aJ.below hQ6 ((dG (aU _ _) nd).trans hb8);replace lS:=(dG lS nd).trans (hb8.mono lS.size);clear hb8 hD6 hQ6 hR6;have hba:=(aU w8.heap.size w8).alloc (aq _) (.cells #[.int .u16 1] 108);go_wp2_with fail
        refine(HP1.out w8 (aJ.below hQ8 hba)).mono ?_
        rintro e9 w9 ⟨Q9,c9,rfl,hQ9,-,hb9⟩
        have aez:=hba.trans (hb9.mono hba.size);go_wp2_with fail
        go_roundw
        case rel=>
         refine⟨p+1,m,D5,Q9,R8,c5,c9,c8,by omega,by go_num,rfl,by rw[HD1.out],by rw[HD2.out],⟨aJ.below hD8 aez, ?_, ?_⟩,hlm,lS.trans (aez.mono lS.size)⟩
         ·rw[HD1.out];exact hQ9
         ·rw[HD2.out];exact aJ.below hR8 aez
        case measure=>simp[intOf];omega
      ·
       obtain rfl:p=j:=by omega
       obtain rfl:m=0:=by omega
       have t3:decide ((p:Int)<(p:Int))=false:=aH (by omega);rw[Nat.pow_zero,fJ] at hQ hR⊢;go_wp2_with fail
       go_ret2
       exact⟨Q,cq,R,cr,rfl,hQ,hR,lS⟩
  ·
   have hdk:=TW.succ hdb.out hlt;have hkk:=xJ hy hdk;have hkx:=sZ hy (show y*2^k<=x by omega);have HD:=af hdk;have T:=aH hlt;have hc:=pz A D c e x (y*2^k) wr (aJ.below hA bh) hD (by omega);unfold oI at hc;rw[T] at hc;have HC:=af hc;have hmx:=Ks la lb hdb.out (aq _);have hp:=rO D D e e (y*2^k) (y*2^k);rw[iW] at hp;have HP:=af hp;clear T hc hp hdk hlt;go_wp2_with fail
   refine HC.out.mono ?_
   rintro e2 w2 ⟨rfl,nd,rfl⟩
   go_wp2_with fail
   refine(HP.out (wr.drewN nd) hD hD (by omega) (by omega)).mono ?_
   rintro e3 w3 ⟨D3,c3,rfl,hD3,-,iz⟩
   have eT:Below w.heap.size w w3:=(dG bh nd).trans (iz.mono bh.size);go_wp2_with fail
   go_roundw
   case rel=>exact⟨k+1,D3,c3,by go_num,rfl,hD3,HD.out,by omega,eT⟩
   case measure=>simp[intOf];omega
end
section
open Go.RowKit

theorem rC (A B:Option Addr)(c d x y:Nat)(w:World)(hA:aJ w A x)(hB:aJ w B y)(hy:0<y)(la:ln ai x<=900000)(lb:ln ai y<=900000):
  Calls Tryz.prog 161 #[.slice A (ln ai x) c,.slice B (ln ai y) d] w (Tw x y w):=by
 by_cases h:ln ai y=1
 ·exact Ck A B c d x y w hA hB h (by omega)
 ·exact xL A B c d x y w hA hB h hy la lb
def Cl (w:World):Value->Nat
 | .slice (some p) n _=>vs ai (fun i=>match w.cell? ⟨p.block,p.off+i,none⟩ with|some (.int _ z)=>z.toNat|_=>0) n
 |_=>0
theorem uk {w:World}{A:Option Addr}{x c:Nat}(h:aJ w A x):Cl w (.slice A (ln ai x) c)=x:=by
 rcases dF (ln ai x) with h0|h0
 ·
  have hx:x=0:=by
   rcases dF x with e|e
   ·exact e
   ·have:=(dM aA).2 e;omega
  subst hx
  cases A<;>simp[Cl,cY,vs]
 ·
  obtain⟨b,o,rfl,hb,hc⟩:=h h0
  have h1:vs ai (fun i=>match w.cell? ⟨b,o+i,none⟩ with|some (.int _ z)=>z.toNat|_=>0) (ln ai x)=vs ai (aB ai x) (ln ai x):=fo fun i hi=>by rw[hc i hi];simp
  show vs ai (fun i=>match w.cell? ⟨b,o+i,none⟩ with|some (.int _ z)=>z.toNat|_=>0) (ln ai x)=x;rw[h1,dB aA]
def ajX (G:Nat)(w0:World)(a b:Value)(wr:World)(y:Nat):Prop:=
 ∃A c B d x,a= .slice A (ln ai x) c/\b= .slice B (ln ai y) d/\aJ wr A x/\aJ wr B y/\Nat.gcd x y=G/\ln ai x<=900000/\ln ai y<=900000/\Below w0.heap.size w0 wr
theorem EB (A B:Option Addr)(c d x y:Nat)(w:World)(hA:aJ w A x)(hB:aJ w B y)(la:ln ai x<=900000)(lb:ln ai y<=900000):
  Calls Tryz.prog 134 #[.slice A (ln ai x) c,.slice B (ln ai y) d] w fun e w'=>∃A' c',e= .returned (.slice A' (ln ai (Nat.gcd x y)) c')/\aJ w' A' (Nat.gcd x y)/\Below w.heap.size w w':=by
 obtain⟨G,hG⟩:∃G,Nat.gcd x y=G:=⟨_,rfl⟩
 rw[hG];have HG:=af hG;clear hG
 go_enter Tryz.func134,Tryz.ntmps134
 go_wp2_with fail
 go_loopw [0,1] (fun a b wr=>∃v,ajX G w a b wr v) (fun _ b wr=>Cl wr b)
 case atStart=>exact⟨y,A,c,B,d,x,rfl,rfl,hA,hB,HG.out,la,lb,aU _ _⟩
 case round=>
  obtain⟨y',A,c,B,d,x',rfl,rfl,hA,hB,hg,la,lb,bh⟩:=hrel;have hval:=uk (c:=d) hB
  by_cases h0:0<y'
  ·
   have t1:0<ln ai y':=(dM aA).2 h0;have hlr:ln ai (x'%y')<=900000:=ay (cN aA (bG (bK _ h0))) lb;have hmod:=bK x' h0;have HV:=af hval;have HG2:=af hg;clear hval hg;go_wp2_with fail
   refine(rC A B c d x' y' wr hA hB h0 la lb).mono ?_
   rintro e w2 ⟨Q,cq,R,cr,rfl,-,hR,eS⟩
   have uf:=uk (c:=cr) hR;have Gq:=af uf;clear uf;go_wp2_with fail
   go_roundw
   case rel=>exact⟨x'%y',B,d,R,cr,y',rfl,rfl,aJ.below hB eS,hR,by rw[jP,<-Nat.gcd_rec,jP];exact HG2.out,lb,hlr,bh.trans (eS.mono bh.size)⟩
   case measure=>rw[HV.out,Gq.out];exact hmod
  ·
   obtain rfl:y'=0:=by omega
   have hx':x'=G:=by rw[<-hg,Nat.gcd_zero_right]
   have t1:decide (0<ln ai 0)=false:=by rw[cY];rfl
   have HX:=af hx';clear hval hx' hg;go_wp2_with fail
   go_ret
   exact⟨A,c,by rw[HX.out];rfl,by rw[<-HX.out];exact hA,bh⟩
end
end Go.Proofs.YtclbiihcbfnjmaaGreat
