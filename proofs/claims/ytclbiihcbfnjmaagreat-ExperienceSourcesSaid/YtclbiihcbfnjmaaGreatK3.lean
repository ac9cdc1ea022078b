/-
  Parts.
-/
import Derived.Test.YtclbiihcbfnjmaaGreatK1
import Derived.Deep.CutBlock
import Derived.Deep.DeepCutAuto
set_option maxRecDepth 100000
set_option maxHeartbeats 2000000
namespace Go.Proofs.YtclbiihcbfnjmaaGreat
section
open Go.RowKit

def WI (w:World)(z:Int)(e:Ending)(w':World):Prop:=
 ∃A c,e= .returned (.agg #[.bool (decide (z<0)),.slice A (ln ai z.natAbs) c])/\dW w.heap.size w' A (ln ai z.natAbs) c (aB ai z.natAbs)/\Below w.heap.size w w'

def aF (w:World)(g:Nat)(s:Bool)(v:Value):Prop:=w.heap[g]?=some (.cells #[.bool s,v] 27 (0,0))
theorem aF.cells {w:World}{g:Nat}{s:Bool}{v:Value}(h:aF w g s v):w.cell? ⟨g,0,none⟩=some (.bool s)/\w.cell? ⟨g,1,none⟩=some v:=by
 refine⟨?_, ?_⟩<;>exact(gZ w g _ _ _ (0,0) h).trans rfl
theorem aF.frozen {w:World}{g:Nat}{s:Bool}{v:Value}(h:aF w g s v)(i:Nat):w.frozen? ⟨g,i,none⟩=false:=by
 simp[World.frozen?,show w.heap[g]?=_ from h]
theorem aF.lt {w:World}{g:Nat}{s:Bool}{v:Value}(h:aF w g s v):g<w.heap.size:=kJ h
theorem aF.below {w w':World}{B g:Nat}{s:Bool}{v:Value}(h:aF w g s v)(hb:Below B w w')(hg:g<B):aF w' g s v:=(hb.block g hg).trans h
theorem aF.new (w:World)(s:Bool)(v:Value):aF (w.alloc (.cells #[.bool s,v] 27)) w.heap.size s v:=eU _ _
theorem aF.set {w:World}{g:Nat}{s:Bool}{v:Value}(h:aF w g s v)(s':Bool)(v':Value):aF ((w.setCell ⟨g,0,none⟩ (.bool s')).setCell ⟨g,1,none⟩ v') g s' v':=by
 unfold aF at h⊢
 simp[World.setCell,Array.getElem?_modify,h]
theorem LZ {base n:Nat}{w:World}{v:Value}{f:Nat->Nat}(h:w.ownsRow base 108 1 v n (gC .u16 n f)):∃A c,v= .slice A n c/\dW base w A n c f:=by
 rcases Row.oA h with⟨rfl,h0⟩|⟨g,c,rfl,_⟩
 ·subst h0;exact⟨none,0,rfl,h⟩
 ·exact⟨_,_,rfl,h⟩

theorem aen {B:Nat}(hB:2<=B)(x k:Nat):ln B (x%B^(k+1))=if aB B x k=0 then ln B (x%B^k) else k+1:=by
 have hpk:0<B^k:=bM (by omega)
 have e:x%B^(k+1)=x%B^k+B^k*aB B x k:=by
  rw[<-GF,<-GF];rfl
 have hm:=bK x hpk
 by_cases h0:aB B x k=0
 ·rw[if_pos h0,e,h0,Nat.mul_zero,ko]
 ·
  rw[if_neg h0];refine yE hB (bK _ (bM (by omega))) (.inr ?_);rw[e,Nat.add_sub_cancel];have:B^k*1<=B^k*aB B x k:=cT _ (by omega);rw[fJ] at this;exact ay this (Nat.le_add_left _ _)
theorem Ma {B:Nat}(hB:2<=B)(x k:Nat):ln B (x%B^k)<=k:=(bJ hB).2 (bK _ (bM (by omega)))
theorem Mb (x k:Nat):((x:Int)/2^(16*k))%65536=((aB ai x k:Nat):Int):=by
 have h:(2:Nat)^(16*k)=ai^k:=by rw[Nat.pow_mul];rfl
 have e:((x:Int)/2^(16*k))=((x/2^(16*k):Nat):Int):=by rw[jl,Int.natCast_pow];rfl
 rw[e,h];rfl

theorem EA (z:Int)(w:World)(h1:-9223372036854775808<=z)(h2:z<=9223372036854775807):Calls Tryz.prog 73 #[.int .i64 z] w (WI w z):=by
 obtain⟨x,hx⟩:∃x,x=z.natAbs:=⟨_,rfl⟩
 have Mc:x<18446744073709551616:=by omega
 go_enter Tryz.func73,Tryz.ntmps73
 go_upto_if 10 with(fail)
 go_cut [3] (fun v wx=>v= .int .u64 (x:Int)/\wx=w.alloc (.cells #[.bool false,.slice none 0 0] 27))
 case first=>
  by_cases hneg:z<0
  ·
   go_wp2_with fail
   go_meet
   refine⟨?_,rfl⟩
   congr 1
   rw[jk,jk];omega
  ·
   go_wp2_with fail
   go_meet
   refine⟨?_,rfl⟩
   congr 1
   rw[jk];omega
 case rest=>
  obtain⟨rfl,rfl⟩:=hcut;have HX:=af hx;clear hx;go_wp2_with fail
  go_loopw [5,13] (fun cnt i wr=>∃k:Nat,k<=4/\i= .int .i64 (k:Int)/\cnt= .int .i64 (ln ai (x%ai^k):Nat)/\Row wr (w.heap.size+1) 143 .u16 4 4 (fun j=>if j<k then aB ai x j else 0)/\
   wr.heap[w.heap.size]?=some (.cells #[.bool false,.slice none 0 0] 27 (0,0))/\Below w.heap.size w wr) (fun _ i _=>4-(intOf i).toNat)
  case atStart=>
   refine⟨0,by omega,rfl,by simp[Nat.mod_one,cY], ?_, ?_, ?_⟩
   ·
    refine⟨_,by have:=eU (w.alloc (.cells #[.bool false,.slice none 0 0] 27)) (.cells #[.int .u16 0,.int .u16 0,.int .u16 0,.int .u16 0] 143);rwa [fe] at this,rfl,fun i hi=> ?_⟩
    match i,hi with
    |0,_=>rfl
    |1,_=>rfl
    |2,_=>rfl
    |3,_=>rfl
   ·exact(ei _ _ _ (by simp)).trans (eU _ _)
   ·exact((aU _ w).alloc (aq _) _).alloc (by simp) _
  case round=>
   obtain⟨k,hk,rfl,rfl,hrow,hres,bh⟩:=hrel;have hl:=Ma aA x k;have ap8:=hrow.lt
   by_cases hlt:k<4
   ·
    have c1:=hrow.cell (i:=k) hlt;have c2:=hrow.frozen k;have hd:=bu x k;have hsd:=Mb x k;have hstep:=aen aA x k
    have hw:IntKind.u16.wrap ((x:Int)/2^(16*k))=((aB ai x k:Nat):Int):=by rw[<-hsd];exact oz _
    have HST:=af hstep;clear hsd hstep
    have EV:Row (wr.setCell ⟨w.heap.size+1,k,none⟩ (.int .u16 (aB ai x k:Nat))) (w.heap.size+1) 143 .u16 4 4 (fun j=>if j<k+1 then aB ai x j else 0):=
     hrow.set (by simp) fun j _ hj=>by simp only[show j<k+1↔j<k by omega]
    have hres2:=(dL wr ⟨w.heap.size+1,k,none⟩ (.int .u16 (aB ai x k:Nat)) w.heap.size (by simp)).trans hres;have dS:=bh.setCell (p:=⟨w.heap.size+1,k,none⟩) (by simp) (.int .u16 (aB ai x k:Nat));have ajF:=af hres2;clear hres2 hres
    by_cases hz:aB ai x k=0
    ·
     have tz:(((aB ai x k:Nat):Int) !=0)=false:=by rw[hz];rfl
     have HZ:=af hz;clear hz;go_wp2_with fail
     go_roundw
     case rel=>exact⟨k+1,by omega,by go_num,by rw[HST.out,if_pos HZ.out],EV,ajF.out,dS⟩
     case measure=>simp[intOf];omega
    ·
     have tz:(((aB ai x k:Nat):Int) !=0)=true:=jK.2 (by omega);have HZ:=af hz;clear hz;go_wp2_with fail
     go_roundw
     case rel=>exact⟨k+1,by omega,by go_num,by rw[HST.out,if_neg HZ.out];go_num,EV,ajF.out,dS⟩
     case measure=>simp[intOf];omega
   ·
    obtain rfl:k=4:=by omega
    have e4:x%ai^4=x:=fm Mc;rw[e4] at hl⊢
    have hl4:((ln ai x:Nat):Int)<=4:=by omega
    have hl0:0<=((ln ai x:Nat):Int):=by omega
    have har:(Tryz.prog).arrayLen 143=4:=by kernel_rfl
    have Yn:((ln ai x:Nat):Int)<=((Tryz.prog).arrayLen 143:Int):=by rw[har];omega
    clear e4;go_wp2_with fail
    have hrd:Rd wr.heap.size .u16 wr (some ⟨w.heap.size+1,0,none⟩) (ln ai x) (aB ai x):=(hrow.rd (n:=ln ai x) (by omega) ap8).congr fun i hi=>if_pos (show i<4 by omega)
    refine(tV _ (ln ai x) 4 (aB ai x) wr hrd (by omega)).mono ?_
    rintro e w3 ⟨v,rfl,hown,iz,-⟩
    obtain⟨A,c,rfl,hown⟩:=LZ hown;have hW:aF w3 w.heap.size false (.slice none 0 0):=aF.below hres iz (by omega);obtain⟨r0,r1⟩:=hW.cells;have g0:=hW.frozen 0;have g1:=hW.frozen 1;have ap9:=bh.trans (iz.mono bh.size);have wZ:=hW.set (decide (z<0)) (.slice A (ln ai x) c);have aqa:=(ap9.setCell (p:=⟨w.heap.size,0,none⟩) (aq _) (.bool (decide (z<0)))).setCell (p:=⟨w.heap.size,1,none⟩) (aq _) (.slice A (ln ai x) c)
    have nW:w.heap.size<wr.heap.size:=by omega
    have EW:dW w.heap.size ((w3.setCell ⟨w.heap.size,0,none⟩ (.bool (decide (z<0)))).setCell ⟨w.heap.size,1,none⟩ (.slice A (ln ai x) c)) A (ln ai x) c (aB ai x):=
     dW.lower (base:=wr.heap.size) (ownsRow_setCell_below (ownsRow_setCell_below hown (a:=⟨w.heap.size,0,none⟩) nW _) (a:=⟨w.heap.size,1,none⟩) nW _) (bG nW)
    have ajG:=af EW;have HW2:=af wZ;clear hown EW wZ;go_wp2_with fail
    have wZ:=HW2.out;have EW:=ajG.out;clear hW r0 r1 HW2 ajG
    generalize ((w3.setCell ⟨w.heap.size,0,none⟩ (.bool (decide (z<0)))).setCell ⟨w.heap.size,1,none⟩ (.slice A (ln ai x) c))=WW at*
    obtain⟨k0,k1⟩:=wZ.cells;refine aK (v:= .agg #[.bool (decide (z<0)),.slice A (ln ai x) c]) (by simp[results,Tryz.results73,go_sem,k0,k1]) rfl ?_;rw[HX.out] at EW⊢;exact⟨A,c,rfl,EW,aqa⟩
end
section
open Go.RowKit

def ust (x k j:Nat):Nat:=if j<2*k then aB ai x j else 0

theorem EX (z:Bool)(A:Option Addr)(c:Nat)(w:World):Calls Tryz.prog 173 #[.bool z,.slice A 0 c] w (WW w false 0):=by
 have ht:∀w:World,Calls Tryz.prog 174 #[.slice A 0 c] w fun e w'=>e= .returned (.slice A 0 c)/\w=w':=fun w=>by
  have ht:=En A c 0 w (aO.zero w A) (by rw[cY];omega) (by rw[cY];omega);rw[cY] at ht;exact ht
 have HT:=af ht;clear ht
 go_enter Tryz.func173,Tryz.ntmps173
 go_wp2_with fail
 refine(HT.out _).mono ?_
 rintro e w1 ⟨rfl,rfl⟩
 go_wp2
 refine aK (v:= .agg #[.bool false,.slice none 0 0]) (by simp[results,Tryz.results173,go_sem]) rfl ?_;refine⟨none,0,by rw[cY], ?_, ?_⟩
 ·rw[cY];exact dW.nil ..
 ·repeat(first|exact aU _ _|refine Below.setCell ?_ (aq _) _|refine Below.alloc ?_ (aq _) _)
theorem Hs (z:Bool)(A:Option Addr)(c x:Nat)(w:World)(h:aO w A x)(hc:ln ah x<=c)(hn:ln ah x<=1000000)(hx:0<x):
  Calls Tryz.prog 173 #[.bool z,.slice A (ln ah x) c] w (WW w z x):=by
 have hpos:=(dM aE).2 hx;have rQ:=lC x;have aqb:=(dM aA).2 hx;have HL2:=af rQ
 have Yo:ln ai x<=2*ln ah x:=by omega
 have asW:2*ln ah x<=ln ai x+1:=by omega
 clear rQ;obtain⟨b,o,rfl,hb,hca⟩:=h hpos
 have ht:∀w':World,Below w.heap.size w w'->Calls Tryz.prog 174 #[.slice (some ⟨b,o,none⟩) (ln ah x) c] w' fun e w1=>e= .returned (.slice (some ⟨b,o,none⟩) (ln ah x) c)/\w'=w1:=
  fun w' hb'=>En _ c x w' (aO.below h hb') hc (by omega)
 have HT:=af ht;clear ht;have hmk:=Ww (2*ln ah x) (2*ln ah x) (aq _) (by omega);rw[show((2*ln ah x:Nat):Int)=2*(ln ah x:Int) by omega] at hmk
 have k1:(((ln ah x:Nat):Int)==0)=false:=by simp;omega
 go_enter Tryz.func173,Tryz.ntmps173
 go_wp2_with fail
 refine(HT.out _ ((aU _ _).alloc (aq _) _)).mono ?_
 rintro e w1 ⟨rfl,rfl⟩
 go_wp2_with fail
 clear hmk
 go_loopw [20] (fun i wr=>∃k:Nat,k<=ln ah x/\i= .int .i64 k/\Row wr (w.heap.size+1) 108 .u16 (2*ln ah x) (2*ln ah x) (ust x k)/\wr.heap[w.heap.size]?=some (.cells #[.bool false,.slice none 0 0] 27 (0,0))/\Below w.heap.size w wr) (fun i _=>ln ah x-(intOf i).toNat)
 case atStart=>
  refine⟨0,bF _,rfl, ?_, ?_,((aU _ _).alloc (aq _) _).alloc (by simp) _⟩
  ·
   have hr:=Row.made (w:=w.alloc (.cells #[.bool false,.slice none 0 0] 27)) (t:= 108) (m:=2*ln ah x) (k:= .u16);rw[fe] at hr
   exact hr.congr fun j _=>by simp[ust]
  ·exact(ei _ _ _ (by simp)).trans (eU _ _)
 case round=>
  obtain⟨k,hk,rfl,hrow,hres,bh⟩:=hrel
  by_cases hlt:k<ln ah x
  ·
   have c0:=(bh.cell (p:=⟨b,o+k,none⟩) hb).trans (hca k hlt);have c1:=hrow.cell (i:=2*k) (by omega);have c2:=hrow.frozen (2*k);have c3:=hrow.cell (i:=2*k+1) (by omega);have c4:=hrow.frozen (2*k+1);have hxk:=aV x k
   have e1:IntKind.u16.wrap ((aB ah x k:Nat):Int)=((aB ai x (2*k):Nat):Int):=by
    rw[oz];have h1:=sK x k;have h2:=bu x (2*k);omega
   have e2:((aB ah x k:Nat):Int)/65536=((aB ai x (2*k+1):Nat):Int):=by
    have h1:=sK x k;have h2:=bu x (2*k);omega
   have E1:=af e1;have E2:=af e2;clear e1 e2;go_wp2_with fail
   go_roundw
   case rel=>
    rw[E1.out,E2.out];refine⟨k+1,by omega,by go_num, ?_,(dL _ _ _ _ (by simp)).trans ((dL _ _ _ _ (by simp)).trans hres),(bh.setCell (by simp) _).setCell (by simp) _⟩
    exact(hrow.set (f':=fun j=>if j=2*k then aB ai x (2*k) else ust x k j) (by simp) fun j _ hj=>by simp[hj]).set (by simp[ust];omega) fun j _ hj=>by
     simp only[ust]
     by_cases e:j=2*k
     ·subst e;simp
     ·simp only[e,if_false,show j<2*(k+1)↔j<2*k by omega]
   case measure=>simp[intOf];omega
  ·
   obtain rfl:k=ln ah x:=by omega
   have yV:=hrow.congr (f':=aB ai x) fun j hj=>by simp only[ust,if_pos hj]
   have c0:=yV.cell (i:=2*ln ah x-1) (by omega)
   have r0:wr.cell? ⟨w.heap.size,0,none⟩=some (.bool false):=by rw[gZ _ _ _ _ _ (0,0) hres];rfl
   have r1:wr.cell? ⟨w.heap.size,1,none⟩=some (.slice none 0 0):=by rw[gZ _ _ _ _ _ (0,0) hres];rfl
   have r2:∀i,wr.frozen? ⟨w.heap.size,i,none⟩=false:=fun i=>by simp[World.frozen?,hres]
   have r3:=r2 0;have r4:=r2 1;clear r2
   by_cases pJ:ln ai x=2*ln ah x
   ·
    have hne:=rq aA hx;rw[pJ] at hne
    have t1:(((aB ai x (2*ln ah x-1):Nat):Int)==0)=false:=by simp;exact hne
    have aeo:=af pJ;clear pJ hne;go_wp2_with fail
    refine aK (v:= .agg #[.bool z,.slice (some ⟨w.heap.size+1,0,none⟩) (2*ln ah x) (2*ln ah x)]) (by simp[results,Tryz.results173,go_sem,r0,r1]) rfl ?_;refine⟨_,_,by rw[aeo.out], ?_,(bh.setCell (aq _) _).setCell (aq _) _⟩;exact dW.RB ((yV.far (p:=⟨w.heap.size,0,none⟩) (by simp) _).far (p:=⟨w.heap.size,1,none⟩) (by simp) _) (by omega) Yo Yo (by omega)
   ·
    have aau:ln ai x=2*ln ah x-1:=by omega
    have hz:aB ai x (2*ln ah x-1)=0:=cU ((bJ aA).1 (by omega))
    have t1:(((aB ai x (2*ln ah x-1):Nat):Int)==0)=true:=by simp;exact hz
    have aeo:=af aau;clear pJ aau hz;go_wp2_with fail
    refine aK (v:= .agg #[.bool z,.slice (some ⟨w.heap.size+1,0,none⟩) (2*ln ah x-1) (2*ln ah x)]) (by simp[results,Tryz.results173,go_sem,r0,r1]) rfl ?_;refine⟨_,_,by rw[aeo.out], ?_,(bh.setCell (aq _) _).setCell (aq _) _⟩;exact dW.RB ((yV.far (p:=⟨w.heap.size,0,none⟩) (by simp) _).far (p:=⟨w.heap.size,1,none⟩) (by simp) _) (by omega) Yo Yo (by omega)
theorem fQ (z:Bool)(A:Option Addr)(c x:Nat)(w:World)(h:aO w A x)(hc:ln ah x<=c)(hn:ln ah x<=1000000):
  Calls Tryz.prog 173 #[.bool z,.slice A (ln ah x) c] w (WW w (z&&decide (0<x)) x):=by
 rcases dF x with rfl|hx
 ·
  rw[cY,show(z&&decide (0<0))=false by cases z<;>rfl];exact EX z A c w
 ·
  rw[show(z&&decide (0<x))=z by rw[aL hx];cases z<;>rfl];exact Hs z A c x w h hc hn hx
end
section
open Go.RowKit

def Md (f g:Nat->Nat):Nat->Nat
 |0=>0
 |k+1=>(f k+g k+Md f g k)/4294967296
def sdg (f g:Nat->Nat)(k:Nat):Nat:=(f k+g k+Md f g k)%4294967296
theorem Ht {f g:Nat->Nat}(hf:∀i,f i<4294967296)(hg:∀i,g i<4294967296)(k:Nat):Md f g k<=1:=by
 induction k with
 |zero=>exact bF _
 |succ k ih=>
  have:=hf k;have:=hg k;rw[Md];omega
theorem SS (f g:Nat->Nat)(k:Nat):sdg f g k<4294967296:=bK _ (by decide)
theorem Yp (f g:Nat->Nat)(n:Nat):vs ah (sdg f g) n+ah^n*Md f g n=vs ah f n+vs ah g n:=by
 induction n with
 |zero=>simp[vs,Md]
 |succ n ih=>
  have h:=qo (t:=f n+g n) ih (show sdg f g n=(f n+g n+Md f g n)%ah by rfl);rw[aY] at h;rw[bz ah f,bz ah g];have e:Md f g (n+1)=(f n+g n+Md f g n)/ah:=rfl;rw[e];omega
theorem yW {a b:Nat}(h:ln ah b<=ln ah a):vs ah (sdg (aB ah a) (aB ah b)) (ln ah a+1)=a+b:=by
 have h1:=Yp (aB ah a) (aB ah b) (ln ah a+1);have h2:a<ah^(ln ah a+1):=(bJ aE).1 (by omega);have h3:b<ah^(ln ah a+1):=(bJ aE).1 (by omega)
 have h4:Md (aB ah a) (aB ah b) (ln ah a+1)=0:=by
  have hc:=Ht (fun i=>aV a i) (fun i=>aV b i) (ln ah a);rw[Md,cU (bt aE a),cU ((bJ aE).1 h)];omega
 rw[h4,cR h2,cR h3,Nat.mul_zero,ko] at h1;exact h1

theorem Me (A B:Option Addr)(c d a b:Nat)(w:World)(ha:aO w A a)(hb:aO w B b)(hba:ln ah b<=ln ah a)(hn:ln ah a<=1000000):
  Calls Tryz.prog 183 #[.slice A (ln ah a) c,.slice B (ln ah b) d] w (TM w (a+b)):=by
 have HN:=af (@yW a b hba);have hmk:=Ei 0 (ln ah a+1) (by omega) (by omega);rw[show((ln ah a+1:Nat):Int)=(ln ah a:Int)+1 by omega,show((0:Nat):Int)=0 by rfl] at hmk
 have k0:¬(ln ah a:Int)<(ln ah b:Int):=by omega
 go_enter Tryz.func183,Tryz.ntmps183
 go_wp2_with fail
 refine(pQ _ _).mono ?_
 rintro e w1 ⟨rfl,rfl⟩
 go_wp2_with fail
 clear hmk
 go_loopw [24] (fun i wr=>∃k:Nat,k<=ln ah a/\i= .int .i64 k/\Coll w.heap.size (w.heap.size+1+1+1) (w.heap.size+1+1) (w.heap.size+1) w.heap.size (ln ah a+1) (sdg (aB ah a) (aB ah b)) wr k (Md (aB ah a) (aB ah b) k)/\Below w.heap.size w wr) (fun i _=>ln ah a-(intOf i).toNat)
 case atStart=>exact⟨0,bF _,rfl,vX _ _ _,vY _ _ _ _ _⟩
 case round=>
  obtain⟨k,hk,rfl,wM,bh⟩:=hrel;have hcr:=Ht (fun i=>aV a i) (fun i=>aV b i) k
  by_cases hlt:k<ln ah a
  ·
   have hx:=aV a k;have hy:=aV b k;obtain⟨p,q,rfl,hp,hca⟩:=ha (by omega);have c0:=(bh.cell (p:=⟨p,q+k,none⟩) hp).trans (hca k hlt)
   by_cases hkb:k<ln ah b
   ·
    obtain⟨p',q',rfl,hp',hcb⟩:=hb (by omega);have c1:=(bh.cell (p:=⟨p',q'+k,none⟩) hp').trans (hcb k hkb);have oF:=iw _ _ _ _ _ _ _ _ _ (aB ah a k+aB ah b k) ((aB ah a k:Int)+aB ah b k) _ wM (by omega) (by omega) rfl (by omega);have HC:=af oF;clear oF;go_wp2_with fail
    refine HC.out.mono ?_
    rintro e w2 ⟨rfl,ic,dS⟩
    go_wp2
    go_roundw
    case rel=>exact⟨k+1,by omega,by go_num,ic,bh.trans dS⟩
    case measure=>simp[intOf];omega
   ·
    have h0:aB ah b k=0:=cU ((bJ aE).1 (by omega));have oF:=iw _ _ _ _ _ _ _ _ _ (aB ah a k+aB ah b k) (aB ah a k:Int) _ wM (by omega) (by omega) rfl (by omega);have HC:=af oF;clear oF h0;go_wp2_with fail
    refine HC.out.mono ?_
    rintro e w2 ⟨rfl,ic,dS⟩
    go_wp2
    go_roundw
    case rel=>exact⟨k+1,by omega,by go_num,ic,bh.trans dS⟩
    case measure=>simp[intOf];omega
  ·
   obtain rfl:k=ln ah a:=by omega
   have h0:aB ah a (ln ah a)=0:=cU (bt aE a);have h1:aB ah b (ln ah a)=0:=cU ((bJ aE).1 hba);have oF:=iw _ _ _ _ _ _ _ _ _ 0 0 _ wM (by omega) (by omega) (by rw[sdg,h0,h1]) (by omega);have HC:=af oF;clear oF h0 h1;go_wp2_with fail
   refine HC.out.mono ?_
   rintro e w2 ⟨rfl,ic,dS⟩
   have c3:=cell_of_one ic.var;have ht:=gH (some ⟨w.heap.size,0,none⟩) _ (ln ah a+1) _ w2 (ic.row.rd (aq _) ic.row.lt) (fun i _=>SS ..) (aq _) (by omega);rw[HN.out] at ht;have HT:=af ht;clear ht;go_wp2_with fail
   refine HT.out.mono ?_
   rintro e w3 ⟨rfl,rfl,ia,hlc⟩
   go_wp2
   go_ret
   exact⟨_,_,rfl,hlc,ia,bh.trans dS⟩
theorem Mf (A B:Option Addr)(c d a b:Nat)(w:World)(ha:aO w A a)(hb:aO w B b)(hba:ln ah a<ln ah b)(hn:ln ah b<=1000000):
  Calls Tryz.prog 183 #[.slice A (ln ah a) c,.slice B (ln ah b) d] w (TM w (b+a)):=by
 have HN:=af (@yW b a (by omega));have hmk:=Ei 0 (ln ah b+1) (by omega) (by omega);rw[show((ln ah b+1:Nat):Int)=(ln ah b:Int)+1 by omega,show((0:Nat):Int)=0 by rfl] at hmk
 have k0:(ln ah a:Int)<(ln ah b:Int):=by omega
 go_enter Tryz.func183,Tryz.ntmps183
 go_wp2_with fail
 refine(pQ _ _).mono ?_
 rintro e w1 ⟨rfl,rfl⟩
 go_wp2_with fail
 clear hmk
 go_loopw [24] (fun i wr=>∃k:Nat,k<=ln ah b/\i= .int .i64 k/\Coll w.heap.size (w.heap.size+1+1+1) (w.heap.size+1+1) (w.heap.size+1) w.heap.size (ln ah b+1) (sdg (aB ah b) (aB ah a)) wr k (Md (aB ah b) (aB ah a) k)/\Below w.heap.size w wr) (fun i _=>ln ah b-(intOf i).toNat)
 case atStart=>exact⟨0,bF _,rfl,vX _ _ _,vY _ _ _ _ _⟩
 case round=>
  obtain⟨k,hk,rfl,wM,bh⟩:=hrel;have hcr:=Ht (fun i=>aV b i) (fun i=>aV a i) k
  by_cases hlt:k<ln ah b
  ·
   have hx:=aV b k;have hy:=aV a k;obtain⟨p,q,rfl,hp,hca⟩:=hb (by omega);have c0:=(bh.cell (p:=⟨p,q+k,none⟩) hp).trans (hca k hlt)
   by_cases hkb:k<ln ah a
   ·
    obtain⟨p',q',rfl,hp',hcb⟩:=ha (by omega);have c1:=(bh.cell (p:=⟨p',q'+k,none⟩) hp').trans (hcb k hkb);have oF:=iw _ _ _ _ _ _ _ _ _ (aB ah b k+aB ah a k) ((aB ah b k:Int)+aB ah a k) _ wM (by omega) (by omega) rfl (by omega);have HC:=af oF;clear oF;go_wp2_with fail
    refine HC.out.mono ?_
    rintro e w2 ⟨rfl,ic,dS⟩
    go_wp2
    go_roundw
    case rel=>exact⟨k+1,by omega,by go_num,ic,bh.trans dS⟩
    case measure=>simp[intOf];omega
   ·
    have h0:aB ah a k=0:=cU ((bJ aE).1 (by omega));have oF:=iw _ _ _ _ _ _ _ _ _ (aB ah b k+aB ah a k) (aB ah b k:Int) _ wM (by omega) (by omega) rfl (by omega);have HC:=af oF;clear oF h0;go_wp2_with fail
    refine HC.out.mono ?_
    rintro e w2 ⟨rfl,ic,dS⟩
    go_wp2
    go_roundw
    case rel=>exact⟨k+1,by omega,by go_num,ic,bh.trans dS⟩
    case measure=>simp[intOf];omega
  ·
   obtain rfl:k=ln ah b:=by omega
   have h0:aB ah b (ln ah b)=0:=cU (bt aE b);have h1:aB ah a (ln ah b)=0:=cU ((bJ aE).1 (by omega));have oF:=iw _ _ _ _ _ _ _ _ _ 0 0 _ wM (by omega) (by omega) (by rw[sdg,h0,h1]) (by omega);have HC:=af oF;clear oF h0 h1;go_wp2_with fail
   refine HC.out.mono ?_
   rintro e w2 ⟨rfl,ic,dS⟩
   have c3:=cell_of_one ic.var;have ht:=gH (some ⟨w.heap.size,0,none⟩) _ (ln ah b+1) _ w2 (ic.row.rd (aq _) ic.row.lt) (fun i _=>SS ..) (aq _) (by omega);rw[HN.out] at ht;have HT:=af ht;clear ht;go_wp2_with fail
   refine HT.out.mono ?_
   rintro e w3 ⟨rfl,rfl,ia,hlc⟩
   go_wp2
   go_ret
   exact⟨_,_,rfl,hlc,ia,bh.trans dS⟩
theorem EZ (A B:Option Addr)(c d a b:Nat)(w:World)(ha:aO w A a)(hb:aO w B b)(hn:ln ah a<=1000000)(hm:ln ah b<=1000000):
  Calls Tryz.prog 183 #[.slice A (ln ah a) c,.slice B (ln ah b) d] w (TM w (a+b)):=by
 by_cases h:ln ah b<=ln ah a
 ·exact Me A B c d a b w ha hb h hn
 ·
  rw[Nat.add_comm a b];exact Mf A B c d a b w ha hb (by omega) hm
end
section
open Go.RowKit

def Ca (f g:Nat->Nat):Nat->Nat
 |0=>0
 |k+1=>lH (f k) (g k) (Ca f g k)
def Kg (f g:Nat->Nat)(k:Nat):Nat:=ja (f k) (g k) (Ca f g k)
theorem wN (f g:Nat->Nat)(k:Nat):Ca f g k<=1:=by
 cases k with
 |zero=>exact bF _
 |succ k=>exact BG ..
theorem Kh {f g:Nat->Nat}(hf:∀i,f i<4294967296)(hg:∀i,g i<4294967296)(n:Nat):vs ah f n+ah^n*Ca f g n=vs ah (Kg f g) n+vs ah g n:=by
 induction n with
 |zero=>simp[vs,Ca]
 |succ n ih=>
  have h:=sub_eq (hf n) (hg n) (wN f g n)
  have h2:ah^n*(f n+4294967296*lH (f n) (g n) (Ca f g n))=ah^n*(ja (f n) (g n) (Ca f g n)+g n+Ca f g n):=by rw[h]
  rw[bz,bz,bz,Ca,Kg,cF,cA];simp only[Nat.mul_add] at h2;rw[show ah*lH (f n) (g n) (Ca f g n)=4294967296*lH (f n) (g n) (Ca f g n) by rfl];omega
theorem Cb (f g:Nat->Nat)(k:Nat):Kg f g k<4294967296:=mY ..
theorem Mg {a b:Nat}(h:b<=a):vs ah (Kg (aB ah a) (aB ah b)) (ln ah a)=a-b:=by
 have h1:=Kh (fun i=>aV a i) (fun i=>aV b i) (ln ah a);have h2:=bt aE a;rw[cR h2,cR (eH h h2)] at h1
 have h3:vs ah (Kg (aB ah a) (aB ah b)) (ln ah a)<ah^ln ah a:=kf fun j _=>Cb ..
 rcases lI (wN (aB ah a) (aB ah b) (ln ah a)) with e|e
 ·rw[e] at h1;omega
 ·rw[e] at h1;omega

def mst (a b k j:Nat):Nat:=if j<k then Kg (aB ah a) (aB ah b) j else aB ah a j

theorem sS (A B:Option Addr)(c d a b:Nat)(w:World)(ha:aO w A a)(hb:aO w B b)(hba:b<=a)(hn:ln ah a<=1000000):
  Calls Tryz.prog 184 #[.slice A (ln ah a) c,.slice B (ln ah b) d] w (TM w (a-b)):=by
 have hlen:=cN aE hba;have HN:=af (@Mg a b hba)
 go_enter Tryz.func184,Tryz.ntmps184
 go_wp2_with fail
 refine(tU _ _ _ (aB ah a) _ ha (by omega)).mono ?_
 rintro e w1 ⟨v,rfl,hown,bh,-⟩
 obtain⟨A1,c1,rfl,hnc,hrow⟩:=sL.oA hown;clear hown;go_wp2_with fail
 go_loopw [6,13] (fun br i wr=>∃k:Nat,k<=ln ah a/\i= .int .i64 k/\br= .int .u32 (Ca (aB ah a) (aB ah b) k:Nat)/\sL w.heap.size wr A1 171 .u32 c1 (ln ah a) (mst a b k)/\Below w.heap.size w wr) (fun _ i _=>ln ah a-(intOf i).toNat)
 case atStart=>exact⟨0,bF _,rfl,rfl,hrow.congr fun j _=>by simp[mst],bh⟩
 case round=>
  obtain⟨k,hk,rfl,rfl,hrow,bh⟩:=hrel;have Qb:=wN (aB ah a) (aB ah b) k
  by_cases hlt:k<ln ah a
  ·
   have hx:=aV a k;have hy:=aV b k;obtain⟨g,rfl,hg,hr⟩:=hrow (by omega);have c0:=hr.cell hlt;have c2:=hr.frozen k;rw[show mst a b k k=aB ah a k by simp[mst]] at c0
   have EV:∀u,u=Kg (aB ah a) (aB ah b) k->Row (wr.setCell ⟨g,k,none⟩ (.int .u32 (u:Int))) g 171 .u32 c1 (ln ah a) (mst a b (k+1)):=fun u hu=>
    hr.set (by simp[mst,hu]) fun j _ hj=>by simp only[mst,show j<k+1↔j<k by omega]
   have Hu:=af EV;clear EV
   by_cases hkb:k<ln ah b
   ·
    obtain⟨p',q',rfl,hp',hcb⟩:=hb (by omega);have c1:=(bh.cell (p:=⟨p',q'+k,none⟩) hp').trans (hcb k hkb);go_wp2_with (go_at_call 198;refine(sN _ _ _ _ hx hy Qb).mono ?_;rintro e w' ⟨rfl,rfl⟩)
    go_roundw
    case rel=>exact⟨k+1,by omega,by go_num,rfl,fun _=>⟨g,rfl,hg,Hu.out _ rfl⟩,bh.setCell (by exact hg) _⟩
    case measure=>simp[intOf];omega
   ·
    have h0:aB ah b k=0:=cU ((bJ aE).1 (by omega));have H0:=af h0;clear h0;go_wp2_with (go_at_call 198;refine(GK _ _ _ hx Qb).mono ?_;rintro e w' ⟨rfl,rfl⟩)
    go_roundw
    case rel=>exact⟨k+1,by omega,by go_num,by rw[Ca,H0.out],fun _=>⟨g,rfl,hg,Hu.out _ (by rw[Kg,H0.out])⟩,bh.setCell (by exact hg) _⟩
    case measure=>simp[intOf];omega
  ·
   obtain rfl:k=ln ah a:=by omega
   have hrd:=hrow.rd.congr (f':=Kg (aB ah a) (aB ah b)) fun j hj=>by simp only[mst,if_pos hj]
   have ht:=gH A1 _ c1 _ wr hrd (fun i _=>Cb ..) hnc (by omega);rw[HN.out] at ht;go_wp2_with fail
   refine ht.mono ?_
   rintro e w2 ⟨rfl,rfl,ia,hlc⟩
   go_wp2
   go_ret
   exact⟨A1,c1,rfl,hlc,ia,bh⟩
end
section
open Go.RowKit

def jt (s:Bool)(x:Nat):Int:=if s then-(x:Int) else x
theorem cE (s:Bool)(x:Nat):(jt s x).natAbs=x:=by unfold jt;split<;>omega
theorem ju (s:Bool)(x:Nat):decide (jt s x<0)=(s&&decide (0<x)):=by
 cases s
 ·simp[jt]
 ·simp[jt]
theorem rE (z:Int):jt (decide (z<0)) z.natAbs=z:=by
 unfold jt
 by_cases h:z<0
 ·rw[if_pos (aL h)];omega
 ·rw[if_neg (by simpa using h)];omega
theorem bT {w w1:World}{B R:Nat}{s:Bool}{v:Value}(h:aF w1 R s v)(hb:Below B w w1)(hR:B<=R)(s':Bool)(v':Value):
  aF ((w1.setCell ⟨R,0,none⟩ (.bool s')).setCell ⟨R,1,none⟩ v') R s' v'/\Below B w ((w1.setCell ⟨R,0,none⟩ (.bool s')).setCell ⟨R,1,none⟩ v'):=
 ⟨h.set s' v',(hb.setCell (p:=⟨R,0,none⟩) hR _).setCell (p:=⟨R,1,none⟩) hR _⟩
theorem dR {w1:World}{R base n c:Nat}{A:Option Addr}{f:Nat->Nat}(h:dW base w1 A n c f)(hR:R<base)(s':Bool)(v':Value):
  dW base ((w1.setCell ⟨R,0,none⟩ (.bool s')).setCell ⟨R,1,none⟩ v') A n c f:=
 ownsRow_setCell_below (ownsRow_setCell_below h (a:=⟨R,0,none⟩) hR _) (a:=⟨R,1,none⟩) hR _
def RI (w:World)(z:Int)(e:Ending)(w':World):Prop:=
 (ln ai z.natAbs<=1024/\∃A c,e= .returned (.tuple #[.agg #[.bool (decide (z<0)),.slice A (ln ai z.natAbs) c],.int .i64 0])/\dW w.heap.size w' A (ln ai z.natAbs) c (aB ai z.natAbs)/\Below w.heap.size w w')\/
 (1024<ln ai z.natAbs/\e= .returned (.tuple #[.agg #[.bool false,.slice none 0 0],.int .i64 3])/\Below w.heap.size w w')
theorem nA (s:Bool)(A:Option Addr)(c x:Nat)(w:World)(h:aO w A x)(hc:ln ah x<=c)(hn:ln ah x<=1000000):
  Calls Tryz.prog 157 #[.bool s,.slice A (ln ah x) c] w (RI w (jt s x)):=by
 have asX:ln ai x<=2000000:=by have:=lC x;omega
 go_enter Tryz.func157,Tryz.ntmps157
 go_wp2_with fail
 have nW:=aF.new w false (.slice none 0 0);have hb0:Below w.heap.size w (w.alloc (.cells #[.bool false,.slice none 0 0] 27)):=(aU _ w).alloc (aq _) _;refine(fQ s A c x _ (aO.below h hb0) hc hn).mono ?_
 rintro e w1 ⟨B,d,rfl,hown,eD⟩
 have xI:=nW.below eD nW.lt;have ajH:=hb0.trans (eD.mono hb0.size);obtain⟨r0,r1⟩:=xI.cells;have g0:=xI.frozen 0;have g1:=xI.frozen 1;have hlt:=xI.lt
 by_cases hl:1024<ln ai x
 ·
  have t1:(1024:Int)<(ln ai x:Int):=by omega
  go_wp2_with fail
  obtain⟨hW,nX⟩:=bT xI ajH (aq _) false (.slice none 0 0)
  generalize ((w1.setCell ⟨w.heap.size,0,none⟩ (.bool false)).setCell ⟨w.heap.size,1,none⟩ (.slice none 0 0))=WW at*
  have wZ:aF (WW.alloc (.cells #[.bool (s&&decide (0<x)),.slice B (ln ai x) d] 27)) w.heap.size false (.slice none 0 0):=(ei _ _ _ hW.lt).trans hW;obtain⟨k0,k1⟩:=wZ.cells;refine aK (v:= .tuple #[.agg #[.bool false,.slice none 0 0],.int .i64 3]) (by simp[results,Tryz.results157,go_sem,k0,k1]) rfl ?_;exact .inr ⟨by rw[cE];exact hl,rfl,nX.alloc nX.size _⟩
 ·
  have t1:¬((1024:Int)<(ln ai x:Int)):=by omega
  go_wp2_with fail
  obtain⟨hW,nX⟩:=bT xI ajH (aq _) (s&&decide (0<x)) (.slice B (ln ai x) d);have hO:=(dR (R:=w.heap.size) hown (by simp) (s&&decide (0<x)) (.slice B (ln ai x) d)).lower (base':=w.heap.size) (by simp)
  generalize ((w1.setCell ⟨w.heap.size,0,none⟩ (.bool (s&&decide (0<x)))).setCell ⟨w.heap.size,1,none⟩ (.slice B (ln ai x) d))=WW at*
  have wZ:aF (WW.alloc (.cells #[.bool (s&&decide (0<x)),.slice B (ln ai x) d] 27)) w.heap.size (s&&decide (0<x)) (.slice B (ln ai x) d):=(ei _ _ _ hW.lt).trans hW;obtain⟨k0,k1⟩:=wZ.cells;refine aK (v:= .tuple #[.agg #[.bool (s&&decide (0<x)),.slice B (ln ai x) d],.int .i64 0]) (by simp[results,Tryz.results157,go_sem,k0,k1]) rfl ?_;refine .inl ⟨by rw[cE];omega,B,d,by rw[cE,ju],by rw[cE];exact hO.alloc _,nX.alloc nX.size _⟩
end
section
open Go.RowKit

def Mh (f h:Nat->Nat):Nat->Bool
 |0=>true
 |n+1=>Mh f h n&&(f n==h n)
theorem yX {f h:Nat->Nat}{k n:Nat}(hk:k<n)(he:f k≠h k):Mh f h n=false:=by
 induction n with
 |zero=>omega
 |succ n ih=>
  simp only[Mh]
  by_cases e:k=n
  ·subst e;rw[beq_false_of_ne he,Bool.and_false]
  ·rw[ih (by omega),jJ]
theorem Fa {f h:Nat->Nat}{k:Nat}(hk:Mh f h k=true)(he:f k=h k):Mh f h (k+1)=true:=by
 simp only[Mh];rw[hk,he];simp
def Mi (n m:Nat)(f h:Nat->Nat):Bool:=(n==m)&&Mh f h n

theorem Fb (A B:Option Addr)(n m c d:Nat)(f h:Nat->Nat)(w:World)(hA:Rd w.heap.size .u16 w A n f)(hB:Rd w.heap.size .u16 w B m h)
  (hn:n<=1000000) (hm:m<=1000000):
  Calls Tryz.prog 185 #[.slice A n c,.slice B m d] w fun e w'=>e= .returned (.bool (Mi n m f h))/\∃q,w'=w.drewN q:=by
 go_enter Tryz.func185,Tryz.ntmps185
 by_cases hl:n=m
 ·
  subst hl
  have t0:((n:Int) !=(n:Int))=false:=by simp
  go_wp2_with fail
  go_loopw [13] (fun i wr=>∃k:Nat,k<=n/\i= .int .i64 (k:Int)/\Mh f h k=true/\∃q,wr=w.drewN q) (fun i _=>n-(intOf i).toNat)
  case atStart=>exact⟨0,bF _,rfl,rfl,0,rfl⟩
  case round=>
   obtain⟨k,hk,rfl,hok,q,rfl⟩:=hrel;have HOK:=af hok;clear hok
   by_cases hlt:k<n
   ·
    obtain⟨pa,qa,rfl,hpa,hca⟩:=hA (by omega);obtain⟨pb,qb,rfl,hpb,hcb⟩:=hB (by omega);have c1:=hca k hlt;have c2:=hcb k hlt;clear hca hcb
    by_cases he:f k=h k
    ·
     have t1:(((f k:Nat):Int) !=((h k:Nat):Int))=false:=by rw[he];simp
     have HE:=af he;clear he;go_wp2_with fail
     go_quiet (fail)
     go_wp2
     go_roundw
     case rel=>exact⟨k+1,by omega,by go_num,Fa HOK.out HE.out,q+nq,rfl⟩
     case measure=>simp[intOf];omega
    ·
     have t1:(((f k:Nat):Int) !=((h k:Nat):Int))=true:=jK.2 (by omega)
     have eR:Mi n n f h=false:=by unfold Mi;rw[yX hlt he,Bool.and_false]
     have HF:=af eR;clear eR he;go_wp2_with fail
     go_quiet (fail)
     go_wp2
     go_ret
     exact⟨aT HF.out.symm,q+nq,gU ..⟩
   ·
    obtain rfl:k=n:=by omega
    have eR:Mi k k f h=true:=by unfold Mi;rw[HOK.out];simp
    have HF:=af eR;clear eR;go_wp2_with fail
    go_ret
    exact⟨aT HF.out.symm,q,rfl⟩
 ·
  have t0:((n:Int) !=(m:Int))=true:=jK.2 (by omega)
  have eR:Mi n m f h=false:=by unfold Mi;rw[beq_false_of_ne hl,jJ]
  have HF:=af eR;clear eR;go_wp2_with fail
  go_ret
  exact⟨aT HF.out.symm,0,rfl⟩

def jO (s t:Bool)(n m:Nat)(f h:Nat->Nat):Bool:=(s==t)&&Mi n m f h
theorem SU (s t:Bool)(A B:Option Addr)(n m c d:Nat)(f h:Nat->Nat)(w:World)(hA:Rd w.heap.size .u16 w A n f)(hB:Rd w.heap.size .u16 w B m h)(hn:n<=1000000)(hm:m<=1000000):
  Calls Tryz.prog 172 #[.agg #[.bool s,.slice A n c],.agg #[.bool t,.slice B m d]] w fun e w'=>e= .returned (.bool (jO s t n m f h))/\Below w.heap.size w w':=by
 have b1:Below w.heap.size w (w.alloc (.cells #[.bool s,.slice A n c] 27)):=(aU _ w).alloc (aq _) _;have b2:=b1.alloc b1.size (.cells #[.bool t,.slice B m d] 27)
 go_enter Tryz.func172,Tryz.ntmps172
 by_cases hst:s=t
 ·
  subst hst
  have t0:(s==s)=true:=by simp
  go_wp2_with fail
  refine(Fb A B n m c d f h _ ((hA.below b2).more b2.size) ((hB.below b2).more b2.size) hn hm).mono ?_
  rintro e w3 ⟨rfl,q,rfl⟩
  go_wp2_with fail
  go_ret
  exact⟨aT (by simp[jO]),dG b2 q⟩
 ·
  have t0:(s==t)=false:=by simp[hst]
  have eR:jO s t n m f h=false:=by unfold jO;rw[t0,jJ]
  have HF:=af eR;clear eR;go_wp2_with fail
  go_ret
  exact⟨aT HF.out.symm,b2⟩
end
section
open Go.RowKit

def Cc :Value->Nat
 | .slice _ n _=>n
 |_=>0
theorem sU (k:IntKind)(m:Nat)(f:Nat->Nat):gC k m f++ [.int k (f m:Int)]=gC k (m+1) f:=by simp[gC,List.range_succ]
theorem aF.aep {w:World}{g:Nat}{s:Bool}{v:Value}(h:aF w g s v)(o:Obj):aF (w.alloc o) g s v:=(ei _ _ _ h.lt).trans h
theorem aF.grown {w w':World}{g:Nat}{s:Bool}{v:Value}{row:Option Nat}(h:aF w g s v)(hg:w.grownBy w' row)(hne:some g≠row):aF w' g s v:=(hg.block g h.lt hne).trans h
theorem Yq {w:World}{base t size n:Nat}{v:Value}{xs:List Value}(h:w.ownsRow base t size v n xs){g:Nat}(hg:g<base):some g≠v.ownBlock:=fun e=>by
 have:=(h.lt g e.symm).1;omega
theorem Mj {base B t size n:Nat}{w w':World}{v:Value}{xs:List Value}(h:w.ownsRow base t size v n xs)(hb:Below B w w')(hB:w.heap.size<=B):w'.ownsRow base t size v n xs:=by
 obtain⟨h1,h2⟩:=h;refine⟨h1, ?_⟩
 rcases h2 with h2|⟨g,cap,cur,hv,hg,hh,r⟩
 ·exact .inl h2
 ·
  have hlt:=kJ hh;exact .inr ⟨g,cap,cur,hv,hg,(hb.block g (by omega)).trans hh,r⟩
end
section
open Go.RowKit

def TU (base:Nat)(w':World)(z:Int)(s:Bool)(A:Option Addr)(n c:Nat)(k:Int):Prop:=
 (ln ai z.natAbs<=1024/\s=decide (z<0)/\n=ln ai z.natAbs/\k=0/\dW base w' A n c (aB ai z.natAbs))\/
 (1024<ln ai z.natAbs/\s=false/\A=none/\n=0/\c=0/\k=3)
theorem RI.vals {w w':World}{z:Int}{e:Ending}(h:RI w z e w'):∃s A n c k,e= .returned (.tuple #[.agg #[.bool s,.slice A n c],.int .i64 k])/\TU w.heap.size w' z s A n c k/\Below w.heap.size w w':=by
 rcases h with⟨h1,A,c,he,ho,hb⟩|⟨h1,he,hb⟩
 ·exact⟨_,_,_,_,_,he,.inl ⟨h1,rfl,rfl,rfl,ho⟩,hb⟩
 ·exact⟨_,_,_,_,_,he,.inr ⟨h1,rfl,rfl,rfl,rfl,rfl⟩,hb⟩
theorem TU.ri {w w':World}{z:Int}{s:Bool}{A:Option Addr}{n c:Nat}{k:Int}(h:TU w.heap.size w' z s A n c k)(hb:Below w.heap.size w w'):RI w z (.returned (.tuple #[.agg #[.bool s,.slice A n c],.int .i64 k])) w':=by
 rcases h with⟨h1,rfl,rfl,rfl,ho⟩|⟨h1,rfl,rfl,rfl,rfl,rfl⟩
 ·exact .inl ⟨h1,A,c,rfl,ho,hb⟩
 ·exact .inr ⟨h1,rfl,hb⟩
theorem TU.store {base R:Nat}{w':World}{z:Int}{s:Bool}{A:Option Addr}{n c:Nat}{k:Int}(h:TU base w' z s A n c k)(hR:R<base)(s':Bool)(v':Value):TU base ((w'.setCell ⟨R,0,none⟩ (.bool s')).setCell ⟨R,1,none⟩ v') z s A n c k:=by
 rcases h with⟨h1,e1,e2,e3,ho⟩|h
 ·exact .inl ⟨h1,e1,e2,e3,dR ho hR s' v'⟩
 ·exact .inr h
theorem TU.lower {base base':Nat}{w':World}{z:Int}{s:Bool}{A:Option Addr}{n c:Nat}{k:Int}(h:TU base w' z s A n c k)(hb:base'<=base):TU base' w' z s A n c k:=by
 rcases h with⟨h1,e1,e2,e3,ho⟩|h
 ·exact .inl ⟨h1,e1,e2,e3,ho.lower hb⟩
 ·exact .inr h
theorem sV {B x y m:Nat}(hB:2<=B)(hx:ln B x<=m)(hy:ln B y<=m):ln B (x+y)<=m+1:=by
 have h1:=(bJ hB).1 hx;have h2:=(bJ hB).1 hy;refine(bJ hB).2 ?_;have h3:B^m*2<=B^m*B:=cT _ hB;rw[cF];omega
theorem Fc {s:Bool}{x y:Nat}:jt s (x+y)=jt s x+jt s y:=by cases s<;>simp[jt]<;>omega
theorem rJ {s t:Bool}{x y:Nat}(h:s≠t)(hyx:y<=x):jt s (x-y)=jt s x+jt t y:=by
 cases s<;>cases t<;>simp_all [jt]<;>omega
theorem SV {a b:Nat}:0<=kQ a b↔b<=a:=by
 unfold kQ;split<;>(try split)<;>omega
theorem Yt (s t:Bool)(A B:Option Addr)(c d x y:Nat)(w:World)(hx:aO w A x)(hy:aO w B y)(hn:ln ah x<=900000)(hm:ln ah y<=900000):
  Calls Tryz.prog 171 #[.bool s,.slice A (ln ah x) c,.bool t,.slice B (ln ah y) d] w (RI w (jt s x+jt t y)):=by
 have nW:=aF.new w false (.slice none 0 0);have hb0:Below w.heap.size w (w.alloc (.cells #[.bool false,.slice none 0 0] 27)):=(aU _ w).alloc (aq _) _;have hx0:=aO.below hx hb0;have hy0:=aO.below hy hb0;have hxy:ln ah (x+y)<=900000+1:=sV aE hn hm
 go_enter Tryz.func171,Tryz.ntmps171
 by_cases hst:s=t
 ·
  subst hst;rw[<-Fc];go_wp2_with fail
  refine(EZ A B c d x y _ hx0 hy0 (by omega) (by omega)).mono ?_
  rintro e w1 ⟨C,cc,rfl,xG,ia,eD⟩
  go_wp2_with fail
  refine(nA s C cc (x+y) w1 ia xG (by omega)).mono ?_
  rintro e w2 uN
  obtain⟨s',A',n',c',k,rfl,hv,eS⟩:=uN.vals;have kV:=(nW.below eD nW.lt).below eS (bY nW.lt eD.size);have Fe:=(hb0.trans (eD.mono hb0.size)).trans (eS.mono (ay hb0.size eD.size));have hlt:=bY nW.lt eD.size;obtain⟨r0,r1⟩:=kV.cells;have g0:=kV.frozen 0;have g1:=kV.frozen 1;obtain⟨hW,nX⟩:=bT kV Fe (aq _) s' (.slice A' n' c');have nO:=(hv.store hlt s' (.slice A' n' c')).lower (bG hlt);have HW:=af hW;have HV:=af nO;clear hv nO hW uN;go_wp2_with fail
  have hW:=HW.out;have nO:=HV.out;clear HW HV kV r0 r1
  generalize ((w2.setCell ⟨w.heap.size,0,none⟩ (.bool s')).setCell ⟨w.heap.size,1,none⟩ (.slice A' n' c'))=WW at*
  obtain⟨k0,k1⟩:=hW.cells;refine aK (v:= .tuple #[.agg #[.bool s',.slice A' n' c'],.int .i64 k]) (by simp[results,Tryz.results171,go_sem,k0,k1]) rfl ?_;exact nO.ri nX
 ·
  have t1:(s==t)=false:=by simp[hst]
  go_wp2_with fail
  refine(iu A B c d x y _ hx0 hy0 (by omega)).mono ?_
  rintro e w1 ⟨rfl,n,rfl⟩
  have Yu:=dG (aU (w.alloc (.cells #[.bool false,.slice none 0 0] 27)).heap.size (w.alloc (.cells #[.bool false,.slice none 0 0] 27))) n
  by_cases hle:y<=x
  ·
   have h1:=SV.2 hle;go_wp2_with fail
   refine(sS A B c d x y _ (aO.below hx0 Yu) (aO.below hy0 Yu) hle (by omega)).mono ?_
   rintro e w1 ⟨C,cc,rfl,xG,ia,aeq⟩
   have eD:=Yu.trans aeq;go_wp2_with fail
   refine(nA s C cc (x-y) w1 ia xG (ay (cN aE (Nat.sub_le x y)) (by omega))).mono ?_
   rintro e w2 uN
   obtain⟨s',A',n',c',k,rfl,hv,eS⟩:=uN.vals;have kV:=(nW.below eD nW.lt).below eS (bY nW.lt eD.size);have Fe:=(hb0.trans (eD.mono hb0.size)).trans (eS.mono (ay hb0.size eD.size));have hlt:=bY nW.lt eD.size;obtain⟨r0,r1⟩:=kV.cells;have g0:=kV.frozen 0;have g1:=kV.frozen 1;obtain⟨hW,nX⟩:=bT kV Fe (aq _) s' (.slice A' n' c');have nO:=(hv.store hlt s' (.slice A' n' c')).lower (bG hlt);have HW:=af hW;have HV:=af nO;clear hv nO hW uN;go_wp2_with fail
   have hW:=HW.out;have nO:=HV.out;clear HW HV kV r0 r1
   generalize ((w2.setCell ⟨w.heap.size,0,none⟩ (.bool s')).setCell ⟨w.heap.size,1,none⟩ (.slice A' n' c'))=WW at*
   obtain⟨k0,k1⟩:=hW.cells;refine aK (v:= .tuple #[.agg #[.bool s',.slice A' n' c'],.int .i64 k]) (by simp[results,Tryz.results171,go_sem,k0,k1]) rfl ?_;rw[rJ hst hle] at nO;exact nO.ri nX
  ·
   have h1:¬(0<=kQ x y):=fun h=>hle (SV.1 h)
   go_wp2_with fail
   refine(sS B A d c y x _ (aO.below hy0 Yu) (aO.below hx0 Yu) (by omega) (by omega)).mono ?_
   rintro e w1 ⟨C,cc,rfl,xG,ia,aeq⟩
   have eD:=Yu.trans aeq;go_wp2_with fail
   refine(nA t C cc (y-x) w1 ia xG (ay (cN aE (Nat.sub_le y x)) (by omega))).mono ?_
   rintro e w2 uN
   obtain⟨s',A',n',c',k,rfl,hv,eS⟩:=uN.vals;have kV:=(nW.below eD nW.lt).below eS (bY nW.lt eD.size);have Fe:=(hb0.trans (eD.mono hb0.size)).trans (eS.mono (ay hb0.size eD.size));have hlt:=bY nW.lt eD.size;obtain⟨r0,r1⟩:=kV.cells;have g0:=kV.frozen 0;have g1:=kV.frozen 1;obtain⟨hW,nX⟩:=bT kV Fe (aq _) s' (.slice A' n' c');have nO:=(hv.store hlt s' (.slice A' n' c')).lower (bG hlt);have HW:=af hW;have HV:=af nO;clear hv nO hW uN;go_wp2_with fail
   have hW:=HW.out;have nO:=HV.out;clear HW HV kV r0 r1
   generalize ((w2.setCell ⟨w.heap.size,0,none⟩ (.bool s')).setCell ⟨w.heap.size,1,none⟩ (.slice A' n' c'))=WW at*
   obtain⟨k0,k1⟩:=hW.cells;refine aK (v:= .tuple #[.agg #[.bool s',.slice A' n' c'],.int .i64 k]) (by simp[results,Tryz.results171,go_sem,k0,k1]) rfl ?_;rw[rJ (Ne.symm hst) (show x<=y by omega),kP] at nO;exact nO.ri nX
end
section
open Go.RowKit

theorem Yv (d:Nat)(v:Nat->Nat)(n:Nat):vs ah (jV d v) n+ah^n*gN d v n=d*vs ah v n:=by
 induction n with
 |zero=>simp[vs,gN]
 |succ n ih=>
  have h:=qo (t:=d*v n) ih (show jV d v n=(d*v n+gN d v n)%ah by rfl);rw[bz ah v,aY,gV d];exact h
theorem sW {d x n:Nat}(hd:d<4294967296)(hn:ln ah x<n):vs ah (jV d (aB ah x)) n=d*x:=by
 have h1:=Yv d (aB ah x) n;have hx:x<ah^n:=(bJ aE).1 (by omega);rw[cR hx] at h1
 have h2:d*x<ah^n:=by
  obtain⟨m,rfl⟩:∃m,n=m+1:=⟨n-1,by omega⟩
  have h3:x<ah^m:=(bJ aE).1 (by omega);rw[cF,bC (ah^m)];exact Nat.mul_lt_mul_of_lt_of_le hd (bG h3) (bM (by decide))
 rcases dF (gN d (aB ah x) n) with h0|h0
 ·rw[h0,Nat.mul_zero,ko] at h1;exact h1
 ·
  have h4:ah^n*1<=ah^n*gN d (aB ah x) n:=cT _ h0;omega
theorem Hv {u v a b n:Nat}(hu:u<4294967296)(hv:v<4294967296)(ha:ln ah a<n)(hb:ln ah b<n)(h:v*b<=u*a):vs ah (Kg (jV u (aB ah a)) (jV v (aB ah b))) n=u*a-v*b:=by
 have h1:=Kh (f:=jV u (aB ah a)) (g:=jV v (aB ah b)) (fun i=>iT ..) (fun i=>iT ..) n;rw[sW hu ha,sW hv hb] at h1
 have h2:vs ah (Kg (jV u (aB ah a)) (jV v (aB ah b))) n<ah^n:=kf fun j _=>Cb ..
 have h3:vs ah (jV u (aB ah a)) n<ah^n:=kf fun j _=>iT ..
 rw[sW hu ha] at h3
 rcases lI (wN (jV u (aB ah a)) (jV v (aB ah b)) n) with e|e
 ·rw[e] at h1;omega
 ·rw[e] at h1;omega
theorem uZ {d k:Nat}{v:Nat->Nat}(h:v k=0)(hc:gN d v k<4294967296):jV d v k=gN d v k/\gN d v (k+1)=0:=by
 rw[jV,gN,h,Nat.mul_zero,fk];exact⟨fm hc,jI hc⟩

def dst (f g:Nat->Nat)(k j:Nat):Nat:=if j<k then Kg f g j else 0

theorem iU (A B:Option Addr)(c d u v a b:Nat)(w:World)(ha:aO w A a)(hb:aO w B b)(hu:u<4294967296)(hv:v<4294967296)(hab:v*b<=u*a)(hn:ln ah a<=1000000)(hm:ln ah b<=1000000):
  Calls Tryz.prog 189 #[.int .u64 (u:Int),.slice A (ln ah a) c,.int .u64 (v:Int),.slice B (ln ah b) d] w (TM w (u*a-v*b)):=by
 obtain⟨N,hN⟩:∃N,N=max (ln ah a) (ln ah b):=⟨_,rfl⟩
 have hNa:ln ah a<=N:=by omega
 have hNb:ln ah b<=N:=by omega
 have hN1:N<=1000000:=by omega
 have htot:=Hv hu hv (show ln ah a<N+1 by omega) (show ln ah b<N+1 by omega) hab;have HT0:=af htot;have hmk:=Ei (N+1) (N+1) (aq _) (by omega)
 have aqc:∀(w:World) (ts:Array TypeId) (t:TypeId),(Builtin.max_ ts t #[.int .i64 (ln ah a:Int),.int .i64 (ln ah b:Int)]).run Tryz.prog w= .ok (.int .i64 (N:Int)) w:=by
  intro w ts t;rw[run_max_int2]
  congr 2
  split<;>omega
 rw[show((N+1:Nat):Int)=(N:Int)+1 by omega] at hmk;clear htot hN
 go_enter Tryz.func189,Tryz.ntmps189
 go_wp2_with fail
 clear hmk aqc
 go_loopw [10,11,12,23] (fun x y bo i wr=>∃k:Nat,k<=N+1/\i= .int .i64 k/\x= .int .u64 (gN u (aB ah a) k:Nat)/\y= .int .u64 (gN v (aB ah b) k:Nat)/\bo= .int .u32 (Ca (jV u (aB ah a)) (jV v (aB ah b)) k:Nat)/\
   Row wr w.heap.size 171 .u32 (N+1) (N+1) (dst (jV u (aB ah a)) (jV v (aB ah b)) k)/\Below w.heap.size w wr) (fun _ _ _ i _=>N+1-(intOf i).toNat)
 case atStart=>exact⟨0,bF _,rfl,rfl,rfl,rfl,Row.made.congr fun j _=>by simp[dst],(aU _ _).alloc (aq _) _⟩
 case round=>
  obtain⟨k,hk,rfl,rfl,rfl,rfl,hrow,bh⟩:=hrel;have Qb:=wN (jV u (aB ah a)) (jV v (aB ah b)) k;have m1:=vZ hu (fun i=>aV a i) k;have m2:=vZ hv (fun i=>aV b i) k
  by_cases hlt:k<N+1
  ·
   have w1:=hrow.cell (i:=k) (by omega);have w2:=hrow.frozen k
   have EV:=fun(p:Int) (hp:p=((ja (jV u (aB ah a) k) (jV v (aB ah b) k) (Ca (jV u (aB ah a)) (jV v (aB ah b)) k):Nat):Int))=>hrow.GG (i:=k) (x:=p) (f':=dst (jV u (aB ah a)) (jV v (aB ah b)) (k+1)) (by rw[hp];simp[dst,Kg]) fun j _ hj=>by simp only[dst,show j<k+1↔j<k by omega]
   have Hu:=af EV;clear EV
   by_cases hak:k<ln ah a
   ·
    by_cases vt:k<ln ah b
    ·
     have ad:=aV a k;obtain⟨pa,qa,rfl,hpa,hca⟩:=ha (by omega);have ac:=(bh.cell (p:=⟨pa,qa+k,none⟩) hpa).trans (hca k hak);have ap:=fG hu ad
     have aI:(u:Int)*(aB ah a k:Nat)<=18446744065119617025:=by rw[<-cM];omega
     have a0:0<=(u:Int)*(aB ah a k:Nat):=by rw[<-cM];omega
     have SW:(((gN u (aB ah a) k:Nat):Int)+(u:Int)*(aB ah a k:Nat))%4294967296=((jV u (aB ah a) k:Nat):Int):=by rw[kP];exact rA ..
     have SX:(((gN u (aB ah a) k:Nat):Int)+(u:Int)*(aB ah a k:Nat))/4294967296=((gN u (aB ah a) (k+1):Nat):Int):=by rw[kP];exact rz ..
     have AE1:=af SW;have AE2:=af SX;clear ap SW SX;have bd:=aV b k;obtain⟨pb,qb,rfl,hpb,hcb⟩:=hb (by omega);have bc:=(bh.cell (p:=⟨pb,qb+k,none⟩) hpb).trans (hcb k vt);have bp:=fG hv bd
     have bI:(v:Int)*(aB ah b k:Nat)<=18446744065119617025:=by rw[<-cM];omega
     have b0:0<=(v:Int)*(aB ah b k:Nat):=by rw[<-cM];omega
     have SY:(((gN v (aB ah b) k:Nat):Int)+(v:Int)*(aB ah b k:Nat))%4294967296=((jV v (aB ah b) k:Nat):Int):=by rw[kP];exact rA ..
     have SZ:(((gN v (aB ah b) k:Nat):Int)+(v:Int)*(aB ah b k:Nat))/4294967296=((gN v (aB ah b) (k+1):Nat):Int):=by rw[kP];exact rz ..
     have BE1:=af SY;have BE2:=af SZ;clear bp SY SZ;go_wp2_with fail
     refine(oV (Z:=Ca (jV u (aB ah a)) (jV v (aB ah b)) k) AE1.out BE1.out rfl (iT ..) (iT ..) Qb _).mono ?_
     rintro e w3 ⟨rfl,rfl⟩
     go_wp2_with fail
     go_roundw
     case rel=>exact⟨k+1,by omega,by go_num,(gn (Value.int .u64) AE2.out),(gn (Value.int .u64) BE2.out),rfl,Hu.out _ rfl,bh.setCell (aq _) _⟩
     case measure=>simp[intOf];omega
    ·
     have ad:=aV a k;obtain⟨pa,qa,rfl,hpa,hca⟩:=ha (by omega);have ac:=(bh.cell (p:=⟨pa,qa+k,none⟩) hpa).trans (hca k hak);have ap:=fG hu ad
     have aI:(u:Int)*(aB ah a k:Nat)<=18446744065119617025:=by rw[<-cM];omega
     have a0:0<=(u:Int)*(aB ah a k:Nat):=by rw[<-cM];omega
     have SW:(((gN u (aB ah a) k:Nat):Int)+(u:Int)*(aB ah a k:Nat))%4294967296=((jV u (aB ah a) k:Nat):Int):=by rw[kP];exact rA ..
     have SX:(((gN u (aB ah a) k:Nat):Int)+(u:Int)*(aB ah a k:Nat))/4294967296=((gN u (aB ah a) (k+1):Nat):Int):=by rw[kP];exact rz ..
     have AE1:=af SW;have AE2:=af SX;clear ap SW SX;obtain⟨SY,SZ⟩:=uZ (d:=v) (v:=aB ah b) (cU ((bJ aE).1 (show ln ah b<=k by omega))) m2;have BE1:=af SY;have BE2:=af SZ;clear SY SZ;go_wp2_with fail
     refine(oV (Z:=Ca (jV u (aB ah a)) (jV v (aB ah b)) k) AE1.out (by rw[BE1.out]) rfl (iT ..) (iT ..) Qb _).mono ?_
     rintro e w3 ⟨rfl,rfl⟩
     go_wp2_with fail
     go_roundw
     case rel=>exact⟨k+1,by omega,by go_num,(gn (Value.int .u64) AE2.out),(gn (Value.int .u64) (by rw[BE2.out];omega)),rfl,Hu.out _ rfl,bh.setCell (aq _) _⟩
     case measure=>simp[intOf];omega
   ·
    by_cases vt:k<ln ah b
    ·
     obtain⟨SW,SX⟩:=uZ (d:=u) (v:=aB ah a) (cU ((bJ aE).1 (show ln ah a<=k by omega))) m1;have AE1:=af SW;have AE2:=af SX;clear SW SX;have bd:=aV b k;obtain⟨pb,qb,rfl,hpb,hcb⟩:=hb (by omega);have bc:=(bh.cell (p:=⟨pb,qb+k,none⟩) hpb).trans (hcb k vt);have bp:=fG hv bd
     have bI:(v:Int)*(aB ah b k:Nat)<=18446744065119617025:=by rw[<-cM];omega
     have b0:0<=(v:Int)*(aB ah b k:Nat):=by rw[<-cM];omega
     have SY:(((gN v (aB ah b) k:Nat):Int)+(v:Int)*(aB ah b k:Nat))%4294967296=((jV v (aB ah b) k:Nat):Int):=by rw[kP];exact rA ..
     have SZ:(((gN v (aB ah b) k:Nat):Int)+(v:Int)*(aB ah b k:Nat))/4294967296=((gN v (aB ah b) (k+1):Nat):Int):=by rw[kP];exact rz ..
     have BE1:=af SY;have BE2:=af SZ;clear bp SY SZ;go_wp2_with fail
     refine(oV (Z:=Ca (jV u (aB ah a)) (jV v (aB ah b)) k) (by rw[AE1.out]) BE1.out rfl (iT ..) (iT ..) Qb _).mono ?_
     rintro e w3 ⟨rfl,rfl⟩
     go_wp2_with fail
     go_roundw
     case rel=>exact⟨k+1,by omega,by go_num,(gn (Value.int .u64) (by rw[AE2.out];omega)),(gn (Value.int .u64) BE2.out),rfl,Hu.out _ rfl,bh.setCell (aq _) _⟩
     case measure=>simp[intOf];omega
    ·
     obtain⟨SW,SX⟩:=uZ (d:=u) (v:=aB ah a) (cU ((bJ aE).1 (show ln ah a<=k by omega))) m1;have AE1:=af SW;have AE2:=af SX;clear SW SX;obtain⟨SY,SZ⟩:=uZ (d:=v) (v:=aB ah b) (cU ((bJ aE).1 (show ln ah b<=k by omega))) m2;have BE1:=af SY;have BE2:=af SZ;clear SY SZ;go_wp2_with fail
     refine(oV (Z:=Ca (jV u (aB ah a)) (jV v (aB ah b)) k) (by rw[AE1.out]) (by rw[BE1.out]) rfl (iT ..) (iT ..) Qb _).mono ?_
     rintro e w3 ⟨rfl,rfl⟩
     go_wp2_with fail
     go_roundw
     case rel=>exact⟨k+1,by omega,by go_num,(gn (Value.int .u64) (by rw[AE2.out];omega)),(gn (Value.int .u64) (by rw[BE2.out];omega)),rfl,Hu.out _ rfl,bh.setCell (aq _) _⟩
     case measure=>simp[intOf];omega
  ·
   obtain rfl:k=N+1:=by omega
   have hrd:=(hrow.rd (aq _) hrow.lt).congr (f':=Kg (jV u (aB ah a)) (jV v (aB ah b))) fun j hj=>by simp only[dst,if_pos hj]
   have ht:=gH (some ⟨w.heap.size,0,none⟩) _ (N+1) _ wr hrd (fun i _=>Cb ..) (aq _) (by omega);rw[HT0.out] at ht;have HT:=af ht;clear ht;go_wp2_with fail
   refine HT.out.mono ?_
   rintro e w3 ⟨rfl,rfl,ia,hlc⟩
   go_wp2
   go_ret
   exact⟨_,_,rfl,hlc,ia,bh⟩
end
end Go.Proofs.YtclbiihcbfnjmaaGreat
