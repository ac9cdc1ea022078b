/-
  Parts.
-/
import Derived.Test.YtclbiihcbfnjmaaGreatK1
import Derived.Deep.CutBlock
import Derived.Deep.DeepCutAuto
set_option maxRecDepth 100000
set_option maxHeartbeats 2000000
namespace Go.Proofs.YtclbiihcbfnjmaaGreat
section
open Go.RowKit

def WI (w:World)(z:Int)(e:Ending)(w':World):Prop:=
 ∃A c,e= .returned (.agg #[.bool (decide (z<0)),.slice A (ln aj z.natAbs) c])/\cO w.heap.size w' A (ln aj z.natAbs) c (aB aj z.natAbs)/\Below w.heap.size w w'

def aG (w:World)(g:Nat)(s:Bool)(v:Value):Prop:=w.heap[g]?=some (.cells #[.bool s,v] 27 (0,0))
theorem aG.cells {w:World}{g:Nat}{s:Bool}{v:Value}(h:aG w g s v):w.cell? ⟨g,0,none⟩=some (.bool s)/\w.cell? ⟨g,1,none⟩=some v:=by
 refine⟨?_, ?_⟩<;>exact(cell_of_row w g _ _ _ (0,0) h).trans rfl
theorem aG.frozen {w:World}{g:Nat}{s:Bool}{v:Value}(h:aG w g s v)(i:Nat):w.frozen? ⟨g,i,none⟩=false:=by
 simp[World.frozen?,show w.heap[g]?=_ from h]
theorem aG.lt {w:World}{g:Nat}{s:Bool}{v:Value}(h:aG w g s v):g<w.heap.size:=jE h
theorem aG.below {w w':World}{B g:Nat}{s:Bool}{v:Value}(h:aG w g s v)(hb:Below B w w')(hg:g<B):aG w' g s v:=(hb.block g hg).trans h
theorem aG.new (w:World)(s:Bool)(v:Value):aG (w.alloc (.cells #[.bool s,v] 27)) w.heap.size s v:=heap_alloc_new _ _
theorem aG.set {w:World}{g:Nat}{s:Bool}{v:Value}(h:aG w g s v)(s':Bool)(v':Value):aG ((w.setCell ⟨g,0,none⟩ (.bool s')).setCell ⟨g,1,none⟩ v') g s' v':=by
 unfold aG at h⊢
 simp[World.setCell,Array.getElem?_modify,h]
theorem JV {base n:Nat}{w:World}{v:Value}{f:Nat->Nat}(h:w.ownsRow base 108 1 v n (eZ .u16 n f)):∃A c,v= .slice A n c/\cO base w A n c f:=by
 rcases Row.mI h with⟨rfl,h0⟩|⟨g,c,rfl,_⟩
 ·subst h0;exact⟨none,0,rfl,h⟩
 ·exact⟨_,_,rfl,h⟩

theorem abv {B:Nat}(hB:2<=B)(x k:Nat):ln B (x%B^(k+1))=if aB B x k=0 then ln B (x%B^k) else k+1:=by
 have hpk:0<B^k:=Nat.pow_pos (by omega)
 have e:x%B^(k+1)=x%B^k+B^k*aB B x k:=by
  rw[<-EU,<-EU];rfl
 have hm:=Nat.mod_lt x hpk
 by_cases h0:aB B x k=0
 ·rw[if_pos h0,e,h0,Nat.mul_zero,Nat.add_zero]
 ·
  rw[if_neg h0];refine wE hB (Nat.mod_lt _ (Nat.pow_pos (by omega))) (.inr ?_);rw[e,Nat.add_sub_cancel];have:B^k*1<=B^k*aB B x k:=Nat.mul_le_mul_left _ (by omega);rw[Nat.mul_one] at this;exact Nat.le_trans this (Nat.le_add_left _ _)
theorem JW {B:Nat}(hB:2<=B)(x k:Nat):ln B (x%B^k)<=k:=(bf hB).2 (Nat.mod_lt _ (Nat.pow_pos (by omega)))
theorem JX (x k:Nat):((x:Int)/2^(16*k))%65536=((aB aj x k:Nat):Int):=by
 have h:(2:Nat)^(16*k)=aj^k:=by rw[Nat.pow_mul];rfl
 have e:((x:Int)/2^(16*k))=((x/2^(16*k):Nat):Int):=by rw[Int.natCast_ediv,Int.natCast_pow];rfl
 rw[e,h];rfl

theorem C5 (z:Int)(w:World)(h1:-9223372036854775808<=z)(h2:z<=9223372036854775807):Calls Tryz.prog 73 #[.int .i64 z] w (WI w z):=by
 obtain⟨x,hx⟩:∃x,x=z.natAbs:=⟨_,rfl⟩
 have JY:x<18446744073709551616:=by omega
 go_enter Tryz.func73,Tryz.ntmps73
 go_upto_if 10 with(fail)
 go_cut [3] (fun v wx=>v= .int .u64 (x:Int)/\wx=w.alloc (.cells #[.bool false,.slice none 0 0] 27))
 case first=>
  by_cases hneg:z<0
  ·
   go_wp2_with fail
   go_meet
   refine⟨?_,rfl⟩
   congr 1
   rw[IntKind.wrap_u64,IntKind.wrap_u64];omega
  ·
   go_wp2_with fail
   go_meet
   refine⟨?_,rfl⟩
   congr 1
   rw[IntKind.wrap_u64];omega
 case rest=>
  obtain⟨rfl,rfl⟩:=hcut;have HX:=Lib.hid hx;clear hx;go_wp2_with fail
  go_loopw [5,13] (fun cnt i wr=>∃k:Nat,k<=4/\i= .int .i64 (k:Int)/\cnt= .int .i64 (ln aj (x%aj^k):Nat)/\Row wr (w.heap.size+1) 143 .u16 4 4 (fun j=>if j<k then aB aj x j else 0)/\
   wr.heap[w.heap.size]?=some (.cells #[.bool false,.slice none 0 0] 27 (0,0))/\Below w.heap.size w wr) (fun _ i _=>4-(intOf i).toNat)
  case atStart=>
   refine⟨0,by omega,rfl,by simp[Nat.mod_one,cF], ?_, ?_, ?_⟩
   ·
    refine⟨_,by have:=heap_alloc_new (w.alloc (.cells #[.bool false,.slice none 0 0] 27)) (.cells #[.int .u16 0,.int .u16 0,.int .u16 0,.int .u16 0] 143);rwa [World.size_alloc] at this,rfl,fun i hi=> ?_⟩
    match i,hi with
    |0,_=>rfl
    |1,_=>rfl
    |2,_=>rfl
    |3,_=>rfl
   ·exact(Below.heap_alloc _ _ _ (by simp)).trans (heap_alloc_new _ _)
   ·exact((Below.refl _ w).alloc (Nat.le_refl _) _).alloc (by simp) _
  case round=>
   obtain⟨k,hk,rfl,rfl,hrow,hres,aV⟩:=hrel;have hl:=JW aD x k;have aoc:=hrow.lt
   by_cases hlt:k<4
   ·
    have c1:=hrow.cell (i:=k) hlt;have c2:=hrow.frozen k;have hd:=bh x k;have hsd:=JX x k;have hstep:=abv aD x k
    have hw:IntKind.u16.wrap ((x:Int)/2^(16*k))=((aB aj x k:Nat):Int):=by rw[<-hsd];exact IntKind.wrap_u16 _
    have HST:=Lib.hid hstep;clear hsd hstep
    have Dt:Row (wr.setCell ⟨w.heap.size+1,k,none⟩ (.int .u16 (aB aj x k:Nat))) (w.heap.size+1) 143 .u16 4 4 (fun j=>if j<k+1 then aB aj x j else 0):=
     hrow.set (by simp) fun j _ hj=>by simp only[show j<k+1↔j<k by omega]
    have hres2:=(Below.heap_setCell wr ⟨w.heap.size+1,k,none⟩ (.int .u16 (aB aj x k:Nat)) w.heap.size (by simp)).trans hres;have dD:=aV.setCell (p:=⟨w.heap.size+1,k,none⟩) (by simp) (.int .u16 (aB aj x k:Nat));have ahp:=Lib.hid hres2;clear hres2 hres
    by_cases hz:aB aj x k=0
    ·
     have tz:(((aB aj x k:Nat):Int) !=0)=false:=by rw[hz];rfl
     have HZ:=Lib.hid hz;clear hz;go_wp2_with fail
     go_roundw
     case rel=>exact⟨k+1,by omega,by go_num,by rw[HST.out,if_pos HZ.out],Dt,ahp.out,dD⟩
     case measure=>simp[intOf];omega
    ·
     have tz:(((aB aj x k:Nat):Int) !=0)=true:=bne_iff_ne.2 (by omega);have HZ:=Lib.hid hz;clear hz;go_wp2_with fail
     go_roundw
     case rel=>exact⟨k+1,by omega,by go_num,by rw[HST.out,if_neg HZ.out];go_num,Dt,ahp.out,dD⟩
     case measure=>simp[intOf];omega
   ·
    obtain rfl:k=4:=by omega
    have e4:x%aj^4=x:=Nat.mod_eq_of_lt JY;rw[e4] at hl⊢
    have Rs:((ln aj x:Nat):Int)<=4:=by omega
    have hl0:0<=((ln aj x:Nat):Int):=by omega
    have har:(Tryz.prog).arrayLen 143=4:=by kernel_rfl
    have Ks:((ln aj x:Nat):Int)<=((Tryz.prog).arrayLen 143:Int):=by rw[har];omega
    clear e4;go_wp2_with fail
    have hrd:Rd wr.heap.size .u16 wr (some ⟨w.heap.size+1,0,none⟩) (ln aj x) (aB aj x):=(hrow.rd (n:=ln aj x) (by omega) aoc).congr fun i hi=>if_pos (show i<4 by omega)
    refine(rL _ (ln aj x) 4 (aB aj x) wr hrd (by omega)).mono ?_
    rintro e w3 ⟨v,rfl,hown,fT,-⟩
    obtain⟨A,c,rfl,hown⟩:=JV hown;have hW:aG w3 w.heap.size false (.slice none 0 0):=aG.below hres fT (by omega);obtain⟨r0,r1⟩:=hW.cells;have g0:=hW.frozen 0;have g1:=hW.frozen 1;have aod:=aV.trans (fT.mono aV.size);have Im:=hW.set (decide (z<0)) (.slice A (ln aj x) c);have aoe:=(aod.setCell (p:=⟨w.heap.size,0,none⟩) (Nat.le_refl _) (.bool (decide (z<0)))).setCell (p:=⟨w.heap.size,1,none⟩) (Nat.le_refl _) (.slice A (ln aj x) c)
    have lV:w.heap.size<wr.heap.size:=by omega
    have Du:cO w.heap.size ((w3.setCell ⟨w.heap.size,0,none⟩ (.bool (decide (z<0)))).setCell ⟨w.heap.size,1,none⟩ (.slice A (ln aj x) c)) A (ln aj x) c (aB aj x):=
     cO.lower (base:=wr.heap.size) (ownsRow_setCell_below (ownsRow_setCell_below hown (a:=⟨w.heap.size,0,none⟩) lV _) (a:=⟨w.heap.size,1,none⟩) lV _) (Nat.le_of_lt lV)
    have ahq:=Lib.hid Du;have HW2:=Lib.hid Im;clear hown Du Im;go_wp2_with fail
    have Im:=HW2.out;have Du:=ahq.out;clear hW r0 r1 HW2 ahq
    generalize ((w3.setCell ⟨w.heap.size,0,none⟩ (.bool (decide (z<0)))).setCell ⟨w.heap.size,1,none⟩ (.slice A (ln aj x) c))=WW at*
    obtain⟨k0,k1⟩:=Im.cells;refine bodyPost_ret (v:= .agg #[.bool (decide (z<0)),.slice A (ln aj x) c]) (by simp[results,Tryz.results73,go_sem,k0,k1]) rfl ?_;rw[HX.out] at Du⊢;exact⟨A,c,rfl,Du,aoe⟩
end
section
open Go.RowKit

def ust (x k j:Nat):Nat:=if j<2*k then aB aj x j else 0

theorem Dw (z:Bool)(A:Option Addr)(c:Nat)(w:World):Calls Tryz.prog 173 #[.bool z,.slice A 0 c] w (WW w false 0):=by
 have ht:∀w:World,Calls Tryz.prog 174 #[.slice A 0 c] w fun e w'=>e= .returned (.slice A 0 c)/\w=w':=fun w=>by
  have ht:=CQ A c 0 w (aL.zero w A) (by rw[cF];omega) (by rw[cF];omega);rw[cF] at ht;exact ht
 have HT:=Lib.hid ht;clear ht
 go_enter Tryz.func173,Tryz.ntmps173
 go_wp2_with fail
 refine(HT.out _).mono ?_
 rintro e w1 ⟨rfl,rfl⟩
 go_wp2
 refine bodyPost_ret (v:= .agg #[.bool false,.slice none 0 0]) (by simp[results,Tryz.results173,go_sem]) rfl ?_;refine⟨none,0,by rw[cF], ?_, ?_⟩
 ·rw[cF];exact cO.nil ..
 ·repeat(first|exact Below.refl _ _|refine Below.setCell ?_ (Nat.le_refl _) _|refine Below.alloc ?_ (Nat.le_refl _) _)
theorem Fw (z:Bool)(A:Option Addr)(c x:Nat)(w:World)(h:aL w A x)(hc:ln ah x<=c)(hn:ln ah x<=1000000)(hx:0<x):
  Calls Tryz.prog 173 #[.bool z,.slice A (ln ah x) c] w (WW w z x):=by
 have hpos:=(cK aF).2 hx;have kJ:=kg x;have aof:=(cK aD).2 hx;have HL2:=Lib.hid kJ
 have Vb:ln aj x<=2*ln ah x:=by omega
 have aqT:2*ln ah x<=ln aj x+1:=by omega
 clear kJ;obtain⟨b,o,rfl,hb,hca⟩:=h hpos
 have ht:∀w':World,Below w.heap.size w w'->Calls Tryz.prog 174 #[.slice (some ⟨b,o,none⟩) (ln ah x) c] w' fun e w1=>e= .returned (.slice (some ⟨b,o,none⟩) (ln ah x) c)/\w'=w1:=
  fun w' hb'=>CQ _ c x w' (aL.below h hb') hc (by omega)
 have HT:=Lib.hid ht;clear ht;have hmk:=aaD (2*ln ah x) (2*ln ah x) (Nat.le_refl _) (by omega);rw[show((2*ln ah x:Nat):Int)=2*(ln ah x:Int) by omega] at hmk
 have k1:(((ln ah x:Nat):Int)==0)=false:=by simp;omega
 go_enter Tryz.func173,Tryz.ntmps173
 go_wp2_with fail
 refine(HT.out _ ((Below.refl _ _).alloc (Nat.le_refl _) _)).mono ?_
 rintro e w1 ⟨rfl,rfl⟩
 go_wp2_with fail
 clear hmk
 go_loopw [20] (fun i wr=>∃k:Nat,k<=ln ah x/\i= .int .i64 k/\Row wr (w.heap.size+1) 108 .u16 (2*ln ah x) (2*ln ah x) (ust x k)/\wr.heap[w.heap.size]?=some (.cells #[.bool false,.slice none 0 0] 27 (0,0))/\Below w.heap.size w wr) (fun i _=>ln ah x-(intOf i).toNat)
 case atStart=>
  refine⟨0,Nat.zero_le _,rfl, ?_, ?_,((Below.refl _ _).alloc (Nat.le_refl _) _).alloc (by simp) _⟩
  ·
   have hr:=Row.made (w:=w.alloc (.cells #[.bool false,.slice none 0 0] 27)) (t:= 108) (m:=2*ln ah x) (k:= .u16);rw[World.size_alloc] at hr
   exact hr.congr fun j _=>by simp[ust]
  ·exact(Below.heap_alloc _ _ _ (by simp)).trans (heap_alloc_new _ _)
 case round=>
  obtain⟨k,hk,rfl,hrow,hres,aV⟩:=hrel
  by_cases hlt:k<ln ah x
  ·
   have c0:=(aV.cell (p:=⟨b,o+k,none⟩) hb).trans (hca k hlt);have c1:=hrow.cell (i:=2*k) (by omega);have c2:=hrow.frozen (2*k);have c3:=hrow.cell (i:=2*k+1) (by omega);have c4:=hrow.frozen (2*k+1);have QM:=aP x k
   have e1:IntKind.u16.wrap ((aB ah x k:Nat):Int)=((aB aj x (2*k):Nat):Int):=by
    rw[IntKind.wrap_u16];have h1:=qF x k;have h2:=bh x (2*k);omega
   have e2:((aB ah x k:Nat):Int)/65536=((aB aj x (2*k+1):Nat):Int):=by
    have h1:=qF x k;have h2:=bh x (2*k);omega
   have E1:=Lib.hid e1;have E2:=Lib.hid e2;clear e1 e2;go_wp2_with fail
   go_roundw
   case rel=>
    rw[E1.out,E2.out];refine⟨k+1,by omega,by go_num, ?_,(Below.heap_setCell _ _ _ _ (by simp)).trans ((Below.heap_setCell _ _ _ _ (by simp)).trans hres),(aV.setCell (by simp) _).setCell (by simp) _⟩
    exact(hrow.set (f':=fun j=>if j=2*k then aB aj x (2*k) else ust x k j) (by simp) fun j _ hj=>by simp[hj]).set (by simp[ust];omega) fun j _ hj=>by
     simp only[ust]
     by_cases e:j=2*k
     ·subst e;simp
     ·simp only[e,if_false,show j<2*(k+1)↔j<2*k by omega]
   case measure=>simp[intOf];omega
  ·
   obtain rfl:k=ln ah x:=by omega
   have wU:=hrow.congr (f':=aB aj x) fun j hj=>by simp only[ust,if_pos hj]
   have c0:=wU.cell (i:=2*ln ah x-1) (by omega)
   have r0:wr.cell? ⟨w.heap.size,0,none⟩=some (.bool false):=by rw[cell_of_row _ _ _ _ _ (0,0) hres];rfl
   have r1:wr.cell? ⟨w.heap.size,1,none⟩=some (.slice none 0 0):=by rw[cell_of_row _ _ _ _ _ (0,0) hres];rfl
   have r2:∀i,wr.frozen? ⟨w.heap.size,i,none⟩=false:=fun i=>by simp[World.frozen?,hres]
   have r3:=r2 0;have r4:=r2 1;clear r2
   by_cases nR:ln aj x=2*ln ah x
   ·
    have hne:=pK aD hx;rw[nR] at hne
    have t1:(((aB aj x (2*ln ah x-1):Nat):Int)==0)=false:=by simp;exact hne
    have abw:=Lib.hid nR;clear nR hne;go_wp2_with fail
    refine bodyPost_ret (v:= .agg #[.bool z,.slice (some ⟨w.heap.size+1,0,none⟩) (2*ln ah x) (2*ln ah x)]) (by simp[results,Tryz.results173,go_sem,r0,r1]) rfl ?_;refine⟨_,_,by rw[abw.out], ?_,(aV.setCell (Nat.le_refl _) _).setCell (Nat.le_refl _) _⟩;exact cO.Ox ((wU.far (p:=⟨w.heap.size,0,none⟩) (by simp) _).far (p:=⟨w.heap.size,1,none⟩) (by simp) _) (by omega) Vb Vb (by omega)
   ·
    have Xq:ln aj x=2*ln ah x-1:=by omega
    have hz:aB aj x (2*ln ah x-1)=0:=bQ ((bf aD).1 (by omega))
    have t1:(((aB aj x (2*ln ah x-1):Nat):Int)==0)=true:=by simp;exact hz
    have abw:=Lib.hid Xq;clear nR Xq hz;go_wp2_with fail
    refine bodyPost_ret (v:= .agg #[.bool z,.slice (some ⟨w.heap.size+1,0,none⟩) (2*ln ah x-1) (2*ln ah x)]) (by simp[results,Tryz.results173,go_sem,r0,r1]) rfl ?_;refine⟨_,_,by rw[abw.out], ?_,(aV.setCell (Nat.le_refl _) _).setCell (Nat.le_refl _) _⟩;exact cO.Ox ((wU.far (p:=⟨w.heap.size,0,none⟩) (by simp) _).far (p:=⟨w.heap.size,1,none⟩) (by simp) _) (by omega) Vb Vb (by omega)
theorem eO (z:Bool)(A:Option Addr)(c x:Nat)(w:World)(h:aL w A x)(hc:ln ah x<=c)(hn:ln ah x<=1000000):
  Calls Tryz.prog 173 #[.bool z,.slice A (ln ah x) c] w (WW w (z&&decide (0<x)) x):=by
 rcases Nat.eq_zero_or_pos x with rfl|hx
 ·
  rw[cF,show(z&&decide (0<0))=false by cases z<;>rfl];exact Dw z A c w
 ·
  rw[show(z&&decide (0<x))=z by rw[decide_eq_true hx];cases z<;>rfl];exact Fw z A c x w h hc hn hx
end
section
open Go.RowKit

def JZ (f g:Nat->Nat):Nat->Nat
 |0=>0
 |k+1=>(f k+g k+JZ f g k)/4294967296
def Xr (f g:Nat->Nat)(k:Nat):Nat:=(f k+g k+JZ f g k)%4294967296
theorem Fx {f g:Nat->Nat}(hf:∀i,f i<4294967296)(hg:∀i,g i<4294967296)(k:Nat):JZ f g k<=1:=by
 induction k with
 |zero=>exact Nat.zero_le _
 |succ k ih=>
  have:=hf k;have:=hg k;rw[JZ];omega
theorem PX (f g:Nat->Nat)(k:Nat):Xr f g k<4294967296:=Nat.mod_lt _ (by decide)
theorem Vc (f g:Nat->Nat)(n:Nat):vs ah (Xr f g) n+ah^n*JZ f g n=vs ah f n+vs ah g n:=by
 induction n with
 |zero=>simp[vs,JZ]
 |succ n ih=>
  have h:=oC (t:=f n+g n) ih (show Xr f g n=(f n+g n+JZ f g n)%ah by rfl);rw[Nat.mul_add] at h;rw[aZ ah f,aZ ah g];have e:JZ f g (n+1)=(f n+g n+JZ f g n)/ah:=rfl;rw[e];omega
theorem wV {a b:Nat}(h:ln ah b<=ln ah a):vs ah (Xr (aB ah a) (aB ah b)) (ln ah a+1)=a+b:=by
 have h1:=Vc (aB ah a) (aB ah b) (ln ah a+1);have h2:a<ah^(ln ah a+1):=(bf aF).1 (by omega);have h3:b<ah^(ln ah a+1):=(bf aF).1 (by omega)
 have h4:JZ (aB ah a) (aB ah b) (ln ah a+1)=0:=by
  have hc:=Fx (fun i=>aP a i) (fun i=>aP b i) (ln ah a);rw[JZ,bQ (aW aF a),bQ ((bf aF).1 h)];omega
 rw[h4,bM h2,bM h3,Nat.mul_zero,Nat.add_zero] at h1;exact h1

theorem J0 (A B:Option Addr)(c d a b:Nat)(w:World)(ha:aL w A a)(hb:aL w B b)(hba:ln ah b<=ln ah a)(hn:ln ah a<=1000000):
  Calls Tryz.prog 183 #[.slice A (ln ah a) c,.slice B (ln ah b) d] w (QT w (a+b)):=by
 have HN:=Lib.hid (@wV a b hba);have hmk:=CM 0 (ln ah a+1) (by omega) (by omega);rw[show((ln ah a+1:Nat):Int)=(ln ah a:Int)+1 by omega,show((0:Nat):Int)=0 by rfl] at hmk
 have k0:¬(ln ah a:Int)<(ln ah b:Int):=by omega
 go_enter Tryz.func183,Tryz.ntmps183
 go_wp2_with fail
 refine(oe _ _).mono ?_
 rintro e w1 ⟨rfl,rfl⟩
 go_wp2_with fail
 clear hmk
 go_loopw [24] (fun i wr=>∃k:Nat,k<=ln ah a/\i= .int .i64 k/\Coll w.heap.size (w.heap.size+1+1+1) (w.heap.size+1+1) (w.heap.size+1) w.heap.size (ln ah a+1) (Xr (aB ah a) (aB ah b)) wr k (JZ (aB ah a) (aB ah b) k)/\Below w.heap.size w wr) (fun i _=>ln ah a-(intOf i).toNat)
 case atStart=>exact⟨0,Nat.zero_le _,rfl,ur _ _ _,uu _ _ _ _ _⟩
 case round=>
  obtain⟨k,hk,rfl,uO,aV⟩:=hrel;have hcr:=Fx (fun i=>aP a i) (fun i=>aP b i) k
  by_cases hlt:k<ln ah a
  ·
   have hx:=aP a k;have hy:=aP b k;obtain⟨p,q,rfl,hp,hca⟩:=ha (by omega);have c0:=(aV.cell (p:=⟨p,q+k,none⟩) hp).trans (hca k hlt)
   by_cases Xp:k<ln ah b
   ·
    obtain⟨p',q',rfl,hp',hcb⟩:=hb (by omega);have c1:=(aV.cell (p:=⟨p',q'+k,none⟩) hp').trans (hcb k Xp);have mL:=fN _ _ _ _ _ _ _ _ _ (aB ah a k+aB ah b k) ((aB ah a k:Int)+aB ah b k) _ uO (by omega) (by omega) rfl (by omega);have HC:=Lib.hid mL;clear mL;go_wp2_with fail
    refine HC.out.mono ?_
    rintro e w2 ⟨rfl,fH,dD⟩
    go_wp2
    go_roundw
    case rel=>exact⟨k+1,by omega,by go_num,fH,aV.trans dD⟩
    case measure=>simp[intOf];omega
   ·
    have h0:aB ah b k=0:=bQ ((bf aF).1 (by omega));have mL:=fN _ _ _ _ _ _ _ _ _ (aB ah a k+aB ah b k) (aB ah a k:Int) _ uO (by omega) (by omega) rfl (by omega);have HC:=Lib.hid mL;clear mL h0;go_wp2_with fail
    refine HC.out.mono ?_
    rintro e w2 ⟨rfl,fH,dD⟩
    go_wp2
    go_roundw
    case rel=>exact⟨k+1,by omega,by go_num,fH,aV.trans dD⟩
    case measure=>simp[intOf];omega
  ·
   obtain rfl:k=ln ah a:=by omega
   have h0:aB ah a (ln ah a)=0:=bQ (aW aF a);have h1:aB ah b (ln ah a)=0:=bQ ((bf aF).1 hba);have mL:=fN _ _ _ _ _ _ _ _ _ 0 0 _ uO (by omega) (by omega) (by rw[Xr,h0,h1]) (by omega);have HC:=Lib.hid mL;clear mL h0 h1;go_wp2_with fail
   refine HC.out.mono ?_
   rintro e w2 ⟨rfl,fH,dD⟩
   have c3:=cell_of_one fH.var;have ht:=fy (some ⟨w.heap.size,0,none⟩) _ (ln ah a+1) _ w2 (fH.row.rd (Nat.le_refl _) fH.row.lt) (fun i _=>PX ..) (Nat.le_refl _) (by omega);rw[HN.out] at ht;have HT:=Lib.hid ht;clear ht;go_wp2_with fail
   refine HT.out.mono ?_
   rintro e w3 ⟨rfl,rfl,iw,hlc⟩
   go_wp2
   go_ret
   exact⟨_,_,rfl,hlc,iw,aV.trans dD⟩
theorem J1 (A B:Option Addr)(c d a b:Nat)(w:World)(ha:aL w A a)(hb:aL w B b)(hba:ln ah a<ln ah b)(hn:ln ah b<=1000000):
  Calls Tryz.prog 183 #[.slice A (ln ah a) c,.slice B (ln ah b) d] w (QT w (b+a)):=by
 have HN:=Lib.hid (@wV b a (by omega));have hmk:=CM 0 (ln ah b+1) (by omega) (by omega);rw[show((ln ah b+1:Nat):Int)=(ln ah b:Int)+1 by omega,show((0:Nat):Int)=0 by rfl] at hmk
 have k0:(ln ah a:Int)<(ln ah b:Int):=by omega
 go_enter Tryz.func183,Tryz.ntmps183
 go_wp2_with fail
 refine(oe _ _).mono ?_
 rintro e w1 ⟨rfl,rfl⟩
 go_wp2_with fail
 clear hmk
 go_loopw [24] (fun i wr=>∃k:Nat,k<=ln ah b/\i= .int .i64 k/\Coll w.heap.size (w.heap.size+1+1+1) (w.heap.size+1+1) (w.heap.size+1) w.heap.size (ln ah b+1) (Xr (aB ah b) (aB ah a)) wr k (JZ (aB ah b) (aB ah a) k)/\Below w.heap.size w wr) (fun i _=>ln ah b-(intOf i).toNat)
 case atStart=>exact⟨0,Nat.zero_le _,rfl,ur _ _ _,uu _ _ _ _ _⟩
 case round=>
  obtain⟨k,hk,rfl,uO,aV⟩:=hrel;have hcr:=Fx (fun i=>aP b i) (fun i=>aP a i) k
  by_cases hlt:k<ln ah b
  ·
   have hx:=aP b k;have hy:=aP a k;obtain⟨p,q,rfl,hp,hca⟩:=hb (by omega);have c0:=(aV.cell (p:=⟨p,q+k,none⟩) hp).trans (hca k hlt)
   by_cases Xp:k<ln ah a
   ·
    obtain⟨p',q',rfl,hp',hcb⟩:=ha (by omega);have c1:=(aV.cell (p:=⟨p',q'+k,none⟩) hp').trans (hcb k Xp);have mL:=fN _ _ _ _ _ _ _ _ _ (aB ah b k+aB ah a k) ((aB ah b k:Int)+aB ah a k) _ uO (by omega) (by omega) rfl (by omega);have HC:=Lib.hid mL;clear mL;go_wp2_with fail
    refine HC.out.mono ?_
    rintro e w2 ⟨rfl,fH,dD⟩
    go_wp2
    go_roundw
    case rel=>exact⟨k+1,by omega,by go_num,fH,aV.trans dD⟩
    case measure=>simp[intOf];omega
   ·
    have h0:aB ah a k=0:=bQ ((bf aF).1 (by omega));have mL:=fN _ _ _ _ _ _ _ _ _ (aB ah b k+aB ah a k) (aB ah b k:Int) _ uO (by omega) (by omega) rfl (by omega);have HC:=Lib.hid mL;clear mL h0;go_wp2_with fail
    refine HC.out.mono ?_
    rintro e w2 ⟨rfl,fH,dD⟩
    go_wp2
    go_roundw
    case rel=>exact⟨k+1,by omega,by go_num,fH,aV.trans dD⟩
    case measure=>simp[intOf];omega
  ·
   obtain rfl:k=ln ah b:=by omega
   have h0:aB ah b (ln ah b)=0:=bQ (aW aF b);have h1:aB ah a (ln ah b)=0:=bQ ((bf aF).1 (by omega));have mL:=fN _ _ _ _ _ _ _ _ _ 0 0 _ uO (by omega) (by omega) (by rw[Xr,h0,h1]) (by omega);have HC:=Lib.hid mL;clear mL h0 h1;go_wp2_with fail
   refine HC.out.mono ?_
   rintro e w2 ⟨rfl,fH,dD⟩
   have c3:=cell_of_one fH.var;have ht:=fy (some ⟨w.heap.size,0,none⟩) _ (ln ah b+1) _ w2 (fH.row.rd (Nat.le_refl _) fH.row.lt) (fun i _=>PX ..) (Nat.le_refl _) (by omega);rw[HN.out] at ht;have HT:=Lib.hid ht;clear ht;go_wp2_with fail
   refine HT.out.mono ?_
   rintro e w3 ⟨rfl,rfl,iw,hlc⟩
   go_wp2
   go_ret
   exact⟨_,_,rfl,hlc,iw,aV.trans dD⟩
theorem Dx (A B:Option Addr)(c d a b:Nat)(w:World)(ha:aL w A a)(hb:aL w B b)(hn:ln ah a<=1000000)(hm:ln ah b<=1000000):
  Calls Tryz.prog 183 #[.slice A (ln ah a) c,.slice B (ln ah b) d] w (QT w (a+b)):=by
 by_cases h:ln ah b<=ln ah a
 ·exact J0 A B c d a b w ha hb h hn
 ·
  rw[Nat.add_comm a b];exact J1 A B c d a b w ha hb (by omega) hm
end
section
open Go.RowKit

def zx (f g:Nat->Nat):Nat->Nat
 |0=>0
 |k+1=>kr (f k) (g k) (zx f g k)
def Io (f g:Nat->Nat)(k:Nat):Nat:=gI (f k) (g k) (zx f g k)
theorem uP (f g:Nat->Nat)(k:Nat):zx f g k<=1:=by
 cases k with
 |zero=>exact Nat.zero_le _
 |succ k=>exact yY ..
theorem Ip {f g:Nat->Nat}(hf:∀i,f i<4294967296)(hg:∀i,g i<4294967296)(n:Nat):vs ah f n+ah^n*zx f g n=vs ah (Io f g) n+vs ah g n:=by
 induction n with
 |zero=>simp[vs,zx]
 |succ n ih=>
  have h:=sub_eq (hf n) (hg n) (uP f g n)
  have h2:ah^n*(f n+4294967296*kr (f n) (g n) (zx f g n))=ah^n*(gI (f n) (g n) (zx f g n)+g n+zx f g n):=by rw[h]
  rw[aZ,aZ,aZ,zx,Io,Nat.pow_succ,Nat.mul_assoc];simp only[Nat.mul_add] at h2;rw[show ah*kr (f n) (g n) (zx f g n)=4294967296*kr (f n) (g n) (zx f g n) by rfl];omega
theorem zy (f g:Nat->Nat)(k:Nat):Io f g k<4294967296:=kX ..
theorem J2 {a b:Nat}(h:b<=a):vs ah (Io (aB ah a) (aB ah b)) (ln ah a)=a-b:=by
 have h1:=Ip (fun i=>aP a i) (fun i=>aP b i) (ln ah a);have h2:=aW aF a;rw[bM h2,bM (Nat.lt_of_le_of_lt h h2)] at h1
 have h3:vs ah (Io (aB ah a) (aB ah b)) (ln ah a)<ah^ln ah a:=jD fun j _=>zy ..
 rcases ku (uP (aB ah a) (aB ah b) (ln ah a)) with e|e
 ·rw[e] at h1;omega
 ·rw[e] at h1;omega

def Xt (a b k j:Nat):Nat:=if j<k then Io (aB ah a) (aB ah b) j else aB ah a j

theorem qQ (A B:Option Addr)(c d a b:Nat)(w:World)(ha:aL w A a)(hb:aL w B b)(hba:b<=a)(hn:ln ah a<=1000000):
  Calls Tryz.prog 184 #[.slice A (ln ah a) c,.slice B (ln ah b) d] w (QT w (a-b)):=by
 have hlen:=bO aF hba;have HN:=Lib.hid (@J2 a b hba)
 go_enter Tryz.func184,Tryz.ntmps184
 go_wp2_with fail
 refine(rK _ _ _ (aB ah a) _ ha (by omega)).mono ?_
 rintro e w1 ⟨v,rfl,hown,aV,-⟩
 obtain⟨A1,c1,rfl,hnc,hrow⟩:=qG.mI hown;clear hown;go_wp2_with fail
 go_loopw [6,13] (fun br i wr=>∃k:Nat,k<=ln ah a/\i= .int .i64 k/\br= .int .u32 (zx (aB ah a) (aB ah b) k:Nat)/\qG w.heap.size wr A1 171 .u32 c1 (ln ah a) (Xt a b k)/\Below w.heap.size w wr) (fun _ i _=>ln ah a-(intOf i).toNat)
 case atStart=>exact⟨0,Nat.zero_le _,rfl,rfl,hrow.congr fun j _=>by simp[Xt],aV⟩
 case round=>
  obtain⟨k,hk,rfl,rfl,hrow,aV⟩:=hrel;have Nx:=uP (aB ah a) (aB ah b) k
  by_cases hlt:k<ln ah a
  ·
   have hx:=aP a k;have hy:=aP b k;obtain⟨g,rfl,hg,hr⟩:=hrow (by omega);have c0:=hr.cell hlt;have c2:=hr.frozen k;rw[show Xt a b k k=aB ah a k by simp[Xt]] at c0
   have Dt:∀u,u=Io (aB ah a) (aB ah b) k->Row (wr.setCell ⟨g,k,none⟩ (.int .u32 (u:Int))) g 171 .u32 c1 (ln ah a) (Xt a b (k+1)):=fun u hu=>
    hr.set (by simp[Xt,hu]) fun j _ hj=>by simp only[Xt,show j<k+1↔j<k by omega]
   have Fy:=Lib.hid Dt;clear Dt
   by_cases Xp:k<ln ah b
   ·
    obtain⟨p',q',rfl,hp',hcb⟩:=hb (by omega);have c1:=(aV.cell (p:=⟨p',q'+k,none⟩) hp').trans (hcb k Xp);go_wp2_with (go_at_call 198;refine(qI _ _ _ _ hx hy Nx).mono ?_;rintro e w' ⟨rfl,rfl⟩)
    go_roundw
    case rel=>exact⟨k+1,by omega,by go_num,rfl,fun _=>⟨g,rfl,hg,Fy.out _ rfl⟩,aV.setCell (by exact hg) _⟩
    case measure=>simp[intOf];omega
   ·
    have h0:aB ah b k=0:=bQ ((bf aF).1 (by omega));have H0:=Lib.hid h0;clear h0;go_wp2_with (go_at_call 198;refine(Fa _ _ _ hx Nx).mono ?_;rintro e w' ⟨rfl,rfl⟩)
    go_roundw
    case rel=>exact⟨k+1,by omega,by go_num,by rw[zx,H0.out],fun _=>⟨g,rfl,hg,Fy.out _ (by rw[Io,H0.out])⟩,aV.setCell (by exact hg) _⟩
    case measure=>simp[intOf];omega
  ·
   obtain rfl:k=ln ah a:=by omega
   have hrd:=hrow.rd.congr (f':=Io (aB ah a) (aB ah b)) fun j hj=>by simp only[Xt,if_pos hj]
   have ht:=fy A1 _ c1 _ wr hrd (fun i _=>zy ..) hnc (by omega);rw[HN.out] at ht;go_wp2_with fail
   refine ht.mono ?_
   rintro e w2 ⟨rfl,rfl,iw,hlc⟩
   go_wp2
   go_ret
   exact⟨A1,c1,rfl,hlc,iw,aV⟩
end
section
open Go.RowKit

def jg (s:Bool)(x:Nat):Int:=if s then-(x:Int) else x
theorem bT (s:Bool)(x:Nat):(jg s x).natAbs=x:=by unfold jg;split<;>omega
theorem jj (s:Bool)(x:Nat):decide (jg s x<0)=(s&&decide (0<x)):=by
 cases s
 ·simp[jg]
 ·simp[jg]
theorem zl (z:Int):jg (decide (z<0)) z.natAbs=z:=by
 unfold jg
 by_cases h:z<0
 ·rw[if_pos (decide_eq_true h)];omega
 ·rw[if_neg (by simpa using h)];omega
theorem bP {w w1:World}{B R:Nat}{s:Bool}{v:Value}(h:aG w1 R s v)(hb:Below B w w1)(hR:B<=R)(s':Bool)(v':Value):
  aG ((w1.setCell ⟨R,0,none⟩ (.bool s')).setCell ⟨R,1,none⟩ v') R s' v'/\Below B w ((w1.setCell ⟨R,0,none⟩ (.bool s')).setCell ⟨R,1,none⟩ v'):=
 ⟨h.set s' v',(hb.setCell (p:=⟨R,0,none⟩) hR _).setCell (p:=⟨R,1,none⟩) hR _⟩
theorem cM {w1:World}{R base n c:Nat}{A:Option Addr}{f:Nat->Nat}(h:cO base w1 A n c f)(hR:R<base)(s':Bool)(v':Value):
  cO base ((w1.setCell ⟨R,0,none⟩ (.bool s')).setCell ⟨R,1,none⟩ v') A n c f:=
 ownsRow_setCell_below (ownsRow_setCell_below h (a:=⟨R,0,none⟩) hR _) (a:=⟨R,1,none⟩) hR _
def RI (w:World)(z:Int)(e:Ending)(w':World):Prop:=
 (ln aj z.natAbs<=1024/\∃A c,e= .returned (.tuple #[.agg #[.bool (decide (z<0)),.slice A (ln aj z.natAbs) c],.int .i64 0])/\cO w.heap.size w' A (ln aj z.natAbs) c (aB aj z.natAbs)/\Below w.heap.size w w')\/
 (1024<ln aj z.natAbs/\e= .returned (.tuple #[.agg #[.bool false,.slice none 0 0],.int .i64 3])/\Below w.heap.size w w')
theorem lA (s:Bool)(A:Option Addr)(c x:Nat)(w:World)(h:aL w A x)(hc:ln ah x<=c)(hn:ln ah x<=1000000):
  Calls Tryz.prog 157 #[.bool s,.slice A (ln ah x) c] w (RI w (jg s x)):=by
 have aqU:ln aj x<=2000000:=by have:=kg x;omega
 go_enter Tryz.func157,Tryz.ntmps157
 go_wp2_with fail
 have lV:=aG.new w false (.slice none 0 0);have hb0:Below w.heap.size w (w.alloc (.cells #[.bool false,.slice none 0 0] 27)):=(Below.refl _ w).alloc (Nat.le_refl _) _;refine(eO s A c x _ (aL.below h hb0) hc hn).mono ?_
 rintro e w1 ⟨B,d,rfl,hown,dI⟩
 have vD:=lV.below dI lV.lt;have ahr:=hb0.trans (dI.mono hb0.size);obtain⟨r0,r1⟩:=vD.cells;have g0:=vD.frozen 0;have g1:=vD.frozen 1;have hlt:=vD.lt
 by_cases hl:1024<ln aj x
 ·
  have t1:(1024:Int)<(ln aj x:Int):=by omega
  go_wp2_with fail
  obtain⟨hW,p5⟩:=bP vD ahr (Nat.le_refl _) false (.slice none 0 0)
  generalize ((w1.setCell ⟨w.heap.size,0,none⟩ (.bool false)).setCell ⟨w.heap.size,1,none⟩ (.slice none 0 0))=WW at*
  have Im:aG (WW.alloc (.cells #[.bool (s&&decide (0<x)),.slice B (ln aj x) d] 27)) w.heap.size false (.slice none 0 0):=(Below.heap_alloc _ _ _ hW.lt).trans hW;obtain⟨k0,k1⟩:=Im.cells;refine bodyPost_ret (v:= .tuple #[.agg #[.bool false,.slice none 0 0],.int .i64 3]) (by simp[results,Tryz.results157,go_sem,k0,k1]) rfl ?_;exact .inr ⟨by rw[bT];exact hl,rfl,p5.alloc p5.size _⟩
 ·
  have t1:¬((1024:Int)<(ln aj x:Int)):=by omega
  go_wp2_with fail
  obtain⟨hW,p5⟩:=bP vD ahr (Nat.le_refl _) (s&&decide (0<x)) (.slice B (ln aj x) d);have hO:=(cM (R:=w.heap.size) hown (by simp) (s&&decide (0<x)) (.slice B (ln aj x) d)).lower (base':=w.heap.size) (by simp)
  generalize ((w1.setCell ⟨w.heap.size,0,none⟩ (.bool (s&&decide (0<x)))).setCell ⟨w.heap.size,1,none⟩ (.slice B (ln aj x) d))=WW at*
  have Im:aG (WW.alloc (.cells #[.bool (s&&decide (0<x)),.slice B (ln aj x) d] 27)) w.heap.size (s&&decide (0<x)) (.slice B (ln aj x) d):=(Below.heap_alloc _ _ _ hW.lt).trans hW;obtain⟨k0,k1⟩:=Im.cells;refine bodyPost_ret (v:= .tuple #[.agg #[.bool (s&&decide (0<x)),.slice B (ln aj x) d],.int .i64 0]) (by simp[results,Tryz.results157,go_sem,k0,k1]) rfl ?_;refine .inl ⟨by rw[bT];omega,B,d,by rw[bT,jj],by rw[bT];exact hO.alloc _,p5.alloc p5.size _⟩
end
section
open Go.RowKit

def J3 (f h:Nat->Nat):Nat->Bool
 |0=>true
 |n+1=>J3 f h n&&(f n==h n)
theorem wW {f h:Nat->Nat}{k n:Nat}(hk:k<n)(he:f k≠h k):J3 f h n=false:=by
 induction n with
 |zero=>omega
 |succ n ih=>
  simp only[J3]
  by_cases e:k=n
  ·subst e;rw[beq_false_of_ne he,Bool.and_false]
  ·rw[ih (by omega),Bool.false_and]
theorem Dy {f h:Nat->Nat}{k:Nat}(hk:J3 f h k=true)(he:f k=h k):J3 f h (k+1)=true:=by
 simp only[J3];rw[hk,he];simp
def J4 (n m:Nat)(f h:Nat->Nat):Bool:=(n==m)&&J3 f h n

theorem Dz (A B:Option Addr)(n m c d:Nat)(f h:Nat->Nat)(w:World)(hA:Rd w.heap.size .u16 w A n f)(hB:Rd w.heap.size .u16 w B m h)
  (hn:n<=1000000) (hm:m<=1000000):
  Calls Tryz.prog 185 #[.slice A n c,.slice B m d] w fun e w'=>e= .returned (.bool (J4 n m f h))/\∃q,w'=w.drewN q:=by
 go_enter Tryz.func185,Tryz.ntmps185
 by_cases hl:n=m
 ·
  subst hl
  have t0:((n:Int) !=(n:Int))=false:=by simp
  go_wp2_with fail
  go_loopw [13] (fun i wr=>∃k:Nat,k<=n/\i= .int .i64 (k:Int)/\J3 f h k=true/\∃q,wr=w.drewN q) (fun i _=>n-(intOf i).toNat)
  case atStart=>exact⟨0,Nat.zero_le _,rfl,rfl,0,rfl⟩
  case round=>
   obtain⟨k,hk,rfl,hok,q,rfl⟩:=hrel;have HOK:=Lib.hid hok;clear hok
   by_cases hlt:k<n
   ·
    obtain⟨pa,qa,rfl,hpa,hca⟩:=hA (by omega);obtain⟨pb,qb,rfl,hpb,hcb⟩:=hB (by omega);have c1:=hca k hlt;have c2:=hcb k hlt;clear hca hcb
    by_cases he:f k=h k
    ·
     have t1:(((f k:Nat):Int) !=((h k:Nat):Int))=false:=by rw[he];simp
     have HE:=Lib.hid he;clear he;go_wp2_with fail
     go_quiet (fail)
     go_wp2
     go_roundw
     case rel=>exact⟨k+1,by omega,by go_num,Dy HOK.out HE.out,q+nq,rfl⟩
     case measure=>simp[intOf];omega
    ·
     have t1:(((f k:Nat):Int) !=((h k:Nat):Int))=true:=bne_iff_ne.2 (by omega)
     have iK:J4 n n f h=false:=by unfold J4;rw[wW hlt he,Bool.and_false]
     have HF:=Lib.hid iK;clear iK he;go_wp2_with fail
     go_quiet (fail)
     go_wp2
     go_ret
     exact⟨aS HF.out.symm,q+nq,World.drewN_drewN ..⟩
   ·
    obtain rfl:k=n:=by omega
    have iK:J4 k k f h=true:=by unfold J4;rw[HOK.out];simp
    have HF:=Lib.hid iK;clear iK;go_wp2_with fail
    go_ret
    exact⟨aS HF.out.symm,q,rfl⟩
 ·
  have t0:((n:Int) !=(m:Int))=true:=bne_iff_ne.2 (by omega)
  have iK:J4 n m f h=false:=by unfold J4;rw[beq_false_of_ne hl,Bool.false_and]
  have HF:=Lib.hid iK;clear iK;go_wp2_with fail
  go_ret
  exact⟨aS HF.out.symm,0,rfl⟩

def jh (s t:Bool)(n m:Nat)(f h:Nat->Nat):Bool:=(s==t)&&J4 n m f h
theorem PY (s t:Bool)(A B:Option Addr)(n m c d:Nat)(f h:Nat->Nat)(w:World)(hA:Rd w.heap.size .u16 w A n f)(hB:Rd w.heap.size .u16 w B m h)(hn:n<=1000000)(hm:m<=1000000):
  Calls Tryz.prog 172 #[.agg #[.bool s,.slice A n c],.agg #[.bool t,.slice B m d]] w fun e w'=>e= .returned (.bool (jh s t n m f h))/\Below w.heap.size w w':=by
 have b1:Below w.heap.size w (w.alloc (.cells #[.bool s,.slice A n c] 27)):=(Below.refl _ w).alloc (Nat.le_refl _) _;have b2:=b1.alloc b1.size (.cells #[.bool t,.slice B m d] 27)
 go_enter Tryz.func172,Tryz.ntmps172
 by_cases hst:s=t
 ·
  subst hst
  have t0:(s==s)=true:=by simp
  go_wp2_with fail
  refine(Dz A B n m c d f h _ ((hA.below b2).more b2.size) ((hB.below b2).more b2.size) hn hm).mono ?_
  rintro e w3 ⟨rfl,q,rfl⟩
  go_wp2_with fail
  go_ret
  exact⟨aS (by simp[jh]),cI b2 q⟩
 ·
  have t0:(s==t)=false:=by simp[hst]
  have iK:jh s t n m f h=false:=by unfold jh;rw[t0,Bool.false_and]
  have HF:=Lib.hid iK;clear iK;go_wp2_with fail
  go_ret
  exact⟨aS HF.out.symm,b2⟩
end
section
open Go.RowKit

def zz :Value->Nat
 | .slice _ n _=>n
 |_=>0
theorem qR (k:IntKind)(m:Nat)(f:Nat->Nat):eZ k m f++ [.int k (f m:Int)]=eZ k (m+1) f:=by simp[eZ,List.range_succ]
theorem aG.abx {w:World}{g:Nat}{s:Bool}{v:Value}(h:aG w g s v)(o:Obj):aG (w.alloc o) g s v:=(Below.heap_alloc _ _ _ h.lt).trans h
theorem aG.grown {w w':World}{g:Nat}{s:Bool}{v:Value}{row:Option Nat}(h:aG w g s v)(hg:w.grownBy w' row)(hne:some g≠row):aG w' g s v:=(hg.block g h.lt hne).trans h
theorem Vd {w:World}{base t size n:Nat}{v:Value}{xs:List Value}(h:w.ownsRow base t size v n xs){g:Nat}(hg:g<base):some g≠v.ownBlock:=fun e=>by
 have:=(h.lt g e.symm).1;omega
theorem J5 {base B t size n:Nat}{w w':World}{v:Value}{xs:List Value}(h:w.ownsRow base t size v n xs)(hb:Below B w w')(hB:w.heap.size<=B):w'.ownsRow base t size v n xs:=by
 obtain⟨h1,h2⟩:=h;refine⟨h1, ?_⟩
 rcases h2 with h2|⟨g,cap,cur,hv,hg,hh,r⟩
 ·exact .inl h2
 ·
  have hlt:=jE hh;exact .inr ⟨g,cap,cur,hv,hg,(hb.block g (by omega)).trans hh,r⟩
end
section
open Go.RowKit

def Q5 (base:Nat)(w':World)(z:Int)(s:Bool)(A:Option Addr)(n c:Nat)(k:Int):Prop:=
 (ln aj z.natAbs<=1024/\s=decide (z<0)/\n=ln aj z.natAbs/\k=0/\cO base w' A n c (aB aj z.natAbs))\/
 (1024<ln aj z.natAbs/\s=false/\A=none/\n=0/\c=0/\k=3)
theorem RI.vals {w w':World}{z:Int}{e:Ending}(h:RI w z e w'):∃s A n c k,e= .returned (.tuple #[.agg #[.bool s,.slice A n c],.int .i64 k])/\Q5 w.heap.size w' z s A n c k/\Below w.heap.size w w':=by
 rcases h with⟨h1,A,c,he,ho,hb⟩|⟨h1,he,hb⟩
 ·exact⟨_,_,_,_,_,he,.inl ⟨h1,rfl,rfl,rfl,ho⟩,hb⟩
 ·exact⟨_,_,_,_,_,he,.inr ⟨h1,rfl,rfl,rfl,rfl,rfl⟩,hb⟩
theorem Q5.ri {w w':World}{z:Int}{s:Bool}{A:Option Addr}{n c:Nat}{k:Int}(h:Q5 w.heap.size w' z s A n c k)(hb:Below w.heap.size w w'):RI w z (.returned (.tuple #[.agg #[.bool s,.slice A n c],.int .i64 k])) w':=by
 rcases h with⟨h1,rfl,rfl,rfl,ho⟩|⟨h1,rfl,rfl,rfl,rfl,rfl⟩
 ·exact .inl ⟨h1,A,c,rfl,ho,hb⟩
 ·exact .inr ⟨h1,rfl,hb⟩
theorem Q5.store {base R:Nat}{w':World}{z:Int}{s:Bool}{A:Option Addr}{n c:Nat}{k:Int}(h:Q5 base w' z s A n c k)(hR:R<base)(s':Bool)(v':Value):Q5 base ((w'.setCell ⟨R,0,none⟩ (.bool s')).setCell ⟨R,1,none⟩ v') z s A n c k:=by
 rcases h with⟨h1,e1,e2,e3,ho⟩|h
 ·exact .inl ⟨h1,e1,e2,e3,cM ho hR s' v'⟩
 ·exact .inr h
theorem Q5.lower {base base':Nat}{w':World}{z:Int}{s:Bool}{A:Option Addr}{n c:Nat}{k:Int}(h:Q5 base w' z s A n c k)(hb:base'<=base):Q5 base' w' z s A n c k:=by
 rcases h with⟨h1,e1,e2,e3,ho⟩|h
 ·exact .inl ⟨h1,e1,e2,e3,ho.lower hb⟩
 ·exact .inr h
theorem qS {B x y m:Nat}(hB:2<=B)(hx:ln B x<=m)(hy:ln B y<=m):ln B (x+y)<=m+1:=by
 have h1:=(bf hB).1 hx;have h2:=(bf hB).1 hy;refine(bf hB).2 ?_;have h3:B^m*2<=B^m*B:=Nat.mul_le_mul_left _ hB;rw[Nat.pow_succ];omega
theorem PZ {s:Bool}{x y:Nat}:jg s (x+y)=jg s x+jg s y:=by cases s<;>simp[jg]<;>omega
theorem DA {s t:Bool}{x y:Nat}(h:s≠t)(hyx:y<=x):jg s (x-y)=jg s x+jg t y:=by
 cases s<;>cases t<;>simp_all [jg]<;>omega
theorem P1 {a b:Nat}:0<=jP a b↔b<=a:=by
 unfold jP;split<;>(try split)<;>omega
theorem Ve (s t:Bool)(A B:Option Addr)(c d x y:Nat)(w:World)(hx:aL w A x)(hy:aL w B y)(hn:ln ah x<=900000)(hm:ln ah y<=900000):
  Calls Tryz.prog 171 #[.bool s,.slice A (ln ah x) c,.bool t,.slice B (ln ah y) d] w (RI w (jg s x+jg t y)):=by
 have lV:=aG.new w false (.slice none 0 0);have hb0:Below w.heap.size w (w.alloc (.cells #[.bool false,.slice none 0 0] 27)):=(Below.refl _ w).alloc (Nat.le_refl _) _;have hx0:=aL.below hx hb0;have hy0:=aL.below hy hb0;have hxy:ln ah (x+y)<=900000+1:=qS aF hn hm
 go_enter Tryz.func171,Tryz.ntmps171
 by_cases hst:s=t
 ·
  subst hst;rw[<-PZ];go_wp2_with fail
  refine(Dx A B c d x y _ hx0 hy0 (by omega) (by omega)).mono ?_
  rintro e w1 ⟨C,cc,rfl,vB,iw,dI⟩
  go_wp2_with fail
  refine(lA s C cc (x+y) w1 iw vB (by omega)).mono ?_
  rintro e w2 oy
  obtain⟨s',A',n',c',k,rfl,hv,dL⟩:=oy.vals;have jT:=(lV.below dI lV.lt).below dL (Nat.lt_of_lt_of_le lV.lt dI.size);have DB:=(hb0.trans (dI.mono hb0.size)).trans (dL.mono (Nat.le_trans hb0.size dI.size));have hlt:=Nat.lt_of_lt_of_le lV.lt dI.size;obtain⟨r0,r1⟩:=jT.cells;have g0:=jT.frozen 0;have g1:=jT.frozen 1;obtain⟨hW,p5⟩:=bP jT DB (Nat.le_refl _) s' (.slice A' n' c');have mX:=(hv.store hlt s' (.slice A' n' c')).lower (Nat.le_of_lt hlt);have HW:=Lib.hid hW;have HV:=Lib.hid mX;clear hv mX hW oy;go_wp2_with fail
  have hW:=HW.out;have mX:=HV.out;clear HW HV jT r0 r1
  generalize ((w2.setCell ⟨w.heap.size,0,none⟩ (.bool s')).setCell ⟨w.heap.size,1,none⟩ (.slice A' n' c'))=WW at*
  obtain⟨k0,k1⟩:=hW.cells;refine bodyPost_ret (v:= .tuple #[.agg #[.bool s',.slice A' n' c'],.int .i64 k]) (by simp[results,Tryz.results171,go_sem,k0,k1]) rfl ?_;exact mX.ri p5
 ·
  have t1:(s==t)=false:=by simp[hst]
  go_wp2_with fail
  refine(fM A B c d x y _ hx0 hy0 (by omega)).mono ?_
  rintro e w1 ⟨rfl,n,rfl⟩
  have Vf:=cI (Below.refl (w.alloc (.cells #[.bool false,.slice none 0 0] 27)).heap.size (w.alloc (.cells #[.bool false,.slice none 0 0] 27))) n
  by_cases hle:y<=x
  ·
   have h1:=P1.2 hle;go_wp2_with fail
   refine(qQ A B c d x y _ (aL.below hx0 Vf) (aL.below hy0 Vf) hle (by omega)).mono ?_
   rintro e w1 ⟨C,cc,rfl,vB,iw,aby⟩
   have dI:=Vf.trans aby;go_wp2_with fail
   refine(lA s C cc (x-y) w1 iw vB (Nat.le_trans (bO aF (Nat.sub_le x y)) (by omega))).mono ?_
   rintro e w2 oy
   obtain⟨s',A',n',c',k,rfl,hv,dL⟩:=oy.vals;have jT:=(lV.below dI lV.lt).below dL (Nat.lt_of_lt_of_le lV.lt dI.size);have DB:=(hb0.trans (dI.mono hb0.size)).trans (dL.mono (Nat.le_trans hb0.size dI.size));have hlt:=Nat.lt_of_lt_of_le lV.lt dI.size;obtain⟨r0,r1⟩:=jT.cells;have g0:=jT.frozen 0;have g1:=jT.frozen 1;obtain⟨hW,p5⟩:=bP jT DB (Nat.le_refl _) s' (.slice A' n' c');have mX:=(hv.store hlt s' (.slice A' n' c')).lower (Nat.le_of_lt hlt);have HW:=Lib.hid hW;have HV:=Lib.hid mX;clear hv mX hW oy;go_wp2_with fail
   have hW:=HW.out;have mX:=HV.out;clear HW HV jT r0 r1
   generalize ((w2.setCell ⟨w.heap.size,0,none⟩ (.bool s')).setCell ⟨w.heap.size,1,none⟩ (.slice A' n' c'))=WW at*
   obtain⟨k0,k1⟩:=hW.cells;refine bodyPost_ret (v:= .tuple #[.agg #[.bool s',.slice A' n' c'],.int .i64 k]) (by simp[results,Tryz.results171,go_sem,k0,k1]) rfl ?_;rw[DA hst hle] at mX;exact mX.ri p5
  ·
   have h1:¬(0<=jP x y):=fun h=>hle (P1.1 h)
   go_wp2_with fail
   refine(qQ B A d c y x _ (aL.below hy0 Vf) (aL.below hx0 Vf) (by omega) (by omega)).mono ?_
   rintro e w1 ⟨C,cc,rfl,vB,iw,aby⟩
   have dI:=Vf.trans aby;go_wp2_with fail
   refine(lA t C cc (y-x) w1 iw vB (Nat.le_trans (bO aF (Nat.sub_le y x)) (by omega))).mono ?_
   rintro e w2 oy
   obtain⟨s',A',n',c',k,rfl,hv,dL⟩:=oy.vals;have jT:=(lV.below dI lV.lt).below dL (Nat.lt_of_lt_of_le lV.lt dI.size);have DB:=(hb0.trans (dI.mono hb0.size)).trans (dL.mono (Nat.le_trans hb0.size dI.size));have hlt:=Nat.lt_of_lt_of_le lV.lt dI.size;obtain⟨r0,r1⟩:=jT.cells;have g0:=jT.frozen 0;have g1:=jT.frozen 1;obtain⟨hW,p5⟩:=bP jT DB (Nat.le_refl _) s' (.slice A' n' c');have mX:=(hv.store hlt s' (.slice A' n' c')).lower (Nat.le_of_lt hlt);have HW:=Lib.hid hW;have HV:=Lib.hid mX;clear hv mX hW oy;go_wp2_with fail
   have hW:=HW.out;have mX:=HV.out;clear HW HV jT r0 r1
   generalize ((w2.setCell ⟨w.heap.size,0,none⟩ (.bool s')).setCell ⟨w.heap.size,1,none⟩ (.slice A' n' c'))=WW at*
   obtain⟨k0,k1⟩:=hW.cells;refine bodyPost_ret (v:= .tuple #[.agg #[.bool s',.slice A' n' c'],.int .i64 k]) (by simp[results,Tryz.results171,go_sem,k0,k1]) rfl ?_;rw[DA (Ne.symm hst) (show x<=y by omega),Int.add_comm] at mX;exact mX.ri p5
end
section
open Go.RowKit

theorem Vg (d:Nat)(v:Nat->Nat)(n:Nat):vs ah (jo d v) n+ah^n*fD d v n=d*vs ah v n:=by
 induction n with
 |zero=>simp[vs,fD]
 |succ n ih=>
  have h:=oC (t:=d*v n) ih (show jo d v n=(d*v n+fD d v n)%ah by rfl);rw[aZ ah v,Nat.mul_add,Nat.mul_left_comm d];exact h
theorem qU {d x n:Nat}(hd:d<4294967296)(hn:ln ah x<n):vs ah (jo d (aB ah x)) n=d*x:=by
 have h1:=Vg d (aB ah x) n;have hx:x<ah^n:=(bf aF).1 (by omega);rw[bM hx] at h1
 have h2:d*x<ah^n:=by
  obtain⟨m,rfl⟩:∃m,n=m+1:=⟨n-1,by omega⟩
  have h3:x<ah^m:=(bf aF).1 (by omega);rw[Nat.pow_succ,Nat.mul_comm (ah^m)];exact Nat.mul_lt_mul_of_lt_of_le hd (Nat.le_of_lt h3) (Nat.pow_pos (by decide))
 rcases Nat.eq_zero_or_pos (fD d (aB ah x) n) with h0|h0
 ·rw[h0,Nat.mul_zero,Nat.add_zero] at h1;exact h1
 ·
  have h4:ah^n*1<=ah^n*fD d (aB ah x) n:=Nat.mul_le_mul_left _ h0;omega
theorem Fz {u v a b n:Nat}(hu:u<4294967296)(hv:v<4294967296)(ha:ln ah a<n)(hb:ln ah b<n)(h:v*b<=u*a):vs ah (Io (jo u (aB ah a)) (jo v (aB ah b))) n=u*a-v*b:=by
 have h1:=Ip (f:=jo u (aB ah a)) (g:=jo v (aB ah b)) (fun i=>gE ..) (fun i=>gE ..) n;rw[qU hu ha,qU hv hb] at h1
 have h2:vs ah (Io (jo u (aB ah a)) (jo v (aB ah b))) n<ah^n:=jD fun j _=>zy ..
 have h3:vs ah (jo u (aB ah a)) n<ah^n:=jD fun j _=>gE ..
 rw[qU hu ha] at h3
 rcases ku (uP (jo u (aB ah a)) (jo v (aB ah b)) n) with e|e
 ·rw[e] at h1;omega
 ·rw[e] at h1;omega
theorem tB {d k:Nat}{v:Nat->Nat}(h:v k=0)(hc:fD d v k<4294967296):jo d v k=fD d v k/\fD d v (k+1)=0:=by
 rw[jo,fD,h,Nat.mul_zero,Nat.zero_add];exact⟨Nat.mod_eq_of_lt hc,Nat.div_eq_of_lt hc⟩

def dst (f g:Nat->Nat)(k j:Nat):Nat:=if j<k then Io f g j else 0

theorem gG (A B:Option Addr)(c d u v a b:Nat)(w:World)(ha:aL w A a)(hb:aL w B b)(hu:u<4294967296)(hv:v<4294967296)(hab:v*b<=u*a)(hn:ln ah a<=1000000)(hm:ln ah b<=1000000):
  Calls Tryz.prog 189 #[.int .u64 (u:Int),.slice A (ln ah a) c,.int .u64 (v:Int),.slice B (ln ah b) d] w (QT w (u*a-v*b)):=by
 obtain⟨N,hN⟩:∃N,N=max (ln ah a) (ln ah b):=⟨_,rfl⟩
 have hNa:ln ah a<=N:=by omega
 have hNb:ln ah b<=N:=by omega
 have hN1:N<=1000000:=by omega
 have htot:=Fz hu hv (show ln ah a<N+1 by omega) (show ln ah b<N+1 by omega) hab;have HT0:=Lib.hid htot;have hmk:=CM (N+1) (N+1) (Nat.le_refl _) (by omega)
 have aog:∀(w:World) (ts:Array TypeId) (t:TypeId),(Builtin.max_ ts t #[.int .i64 (ln ah a:Int),.int .i64 (ln ah b:Int)]).run Tryz.prog w= .ok (.int .i64 (N:Int)) w:=by
  intro w ts t;rw[run_max_int2]
  congr 2
  split<;>omega
 rw[show((N+1:Nat):Int)=(N:Int)+1 by omega] at hmk;clear htot hN
 go_enter Tryz.func189,Tryz.ntmps189
 go_wp2_with fail
 clear hmk aog
 go_loopw [10,11,12,23] (fun x y bo i wr=>∃k:Nat,k<=N+1/\i= .int .i64 k/\x= .int .u64 (fD u (aB ah a) k:Nat)/\y= .int .u64 (fD v (aB ah b) k:Nat)/\bo= .int .u32 (zx (jo u (aB ah a)) (jo v (aB ah b)) k:Nat)/\
   Row wr w.heap.size 171 .u32 (N+1) (N+1) (dst (jo u (aB ah a)) (jo v (aB ah b)) k)/\Below w.heap.size w wr) (fun _ _ _ i _=>N+1-(intOf i).toNat)
 case atStart=>exact⟨0,Nat.zero_le _,rfl,rfl,rfl,rfl,Row.made.congr fun j _=>by simp[dst],(Below.refl _ _).alloc (Nat.le_refl _) _⟩
 case round=>
  obtain⟨k,hk,rfl,rfl,rfl,rfl,hrow,aV⟩:=hrel;have Nx:=uP (jo u (aB ah a)) (jo v (aB ah b)) k;have m1:=uv hu (fun i=>aP a i) k;have m2:=uv hv (fun i=>aP b i) k
  by_cases hlt:k<N+1
  ·
   have w1:=hrow.cell (i:=k) (by omega);have w2:=hrow.frozen k
   have Dt:=fun(p:Int) (hp:p=((gI (jo u (aB ah a) k) (jo v (aB ah b) k) (zx (jo u (aB ah a)) (jo v (aB ah b)) k):Nat):Int))=>hrow.EV (i:=k) (x:=p) (f':=dst (jo u (aB ah a)) (jo v (aB ah b)) (k+1)) (by rw[hp];simp[dst,Io]) fun j _ hj=>by simp only[dst,show j<k+1↔j<k by omega]
   have Fy:=Lib.hid Dt;clear Dt
   by_cases hak:k<ln ah a
   ·
    by_cases tN:k<ln ah b
    ·
     have ad:=aP a k;obtain⟨pa,qa,rfl,hpa,hca⟩:=ha (by omega);have ac:=(aV.cell (p:=⟨pa,qa+k,none⟩) hpa).trans (hca k hak);have ap:=eC hu ad
     have aI:(u:Int)*(aB ah a k:Nat)<=18446744065119617025:=by rw[<-Int.natCast_mul];omega
     have a0:0<=(u:Int)*(aB ah a k:Nat):=by rw[<-Int.natCast_mul];omega
     have P2:(((fD u (aB ah a) k:Nat):Int)+(u:Int)*(aB ah a k:Nat))%4294967296=((jo u (aB ah a) k:Nat):Int):=by rw[Int.add_comm];exact pN ..
     have P4:(((fD u (aB ah a) k:Nat):Int)+(u:Int)*(aB ah a k:Nat))/4294967296=((fD u (aB ah a) (k+1):Nat):Int):=by rw[Int.add_comm];exact pM ..
     have AE1:=Lib.hid P2;have AE2:=Lib.hid P4;clear ap P2 P4;have bd:=aP b k;obtain⟨pb,qb,rfl,hpb,hcb⟩:=hb (by omega);have bc:=(aV.cell (p:=⟨pb,qb+k,none⟩) hpb).trans (hcb k tN);have bp:=eC hv bd
     have bI:(v:Int)*(aB ah b k:Nat)<=18446744065119617025:=by rw[<-Int.natCast_mul];omega
     have b0:0<=(v:Int)*(aB ah b k:Nat):=by rw[<-Int.natCast_mul];omega
     have P5:(((fD v (aB ah b) k:Nat):Int)+(v:Int)*(aB ah b k:Nat))%4294967296=((jo v (aB ah b) k:Nat):Int):=by rw[Int.add_comm];exact pN ..
     have P6:(((fD v (aB ah b) k:Nat):Int)+(v:Int)*(aB ah b k:Nat))/4294967296=((fD v (aB ah b) (k+1):Nat):Int):=by rw[Int.add_comm];exact pM ..
     have BE1:=Lib.hid P5;have BE2:=Lib.hid P6;clear bp P5 P6;go_wp2_with fail
     refine(nB (Z:=zx (jo u (aB ah a)) (jo v (aB ah b)) k) AE1.out BE1.out rfl (gE ..) (gE ..) Nx _).mono ?_
     rintro e w3 ⟨rfl,rfl⟩
     go_wp2_with fail
     go_roundw
     case rel=>exact⟨k+1,by omega,by go_num,(congrArg (Value.int .u64) AE2.out),(congrArg (Value.int .u64) BE2.out),rfl,Fy.out _ rfl,aV.setCell (Nat.le_refl _) _⟩
     case measure=>simp[intOf];omega
    ·
     have ad:=aP a k;obtain⟨pa,qa,rfl,hpa,hca⟩:=ha (by omega);have ac:=(aV.cell (p:=⟨pa,qa+k,none⟩) hpa).trans (hca k hak);have ap:=eC hu ad
     have aI:(u:Int)*(aB ah a k:Nat)<=18446744065119617025:=by rw[<-Int.natCast_mul];omega
     have a0:0<=(u:Int)*(aB ah a k:Nat):=by rw[<-Int.natCast_mul];omega
     have P2:(((fD u (aB ah a) k:Nat):Int)+(u:Int)*(aB ah a k:Nat))%4294967296=((jo u (aB ah a) k:Nat):Int):=by rw[Int.add_comm];exact pN ..
     have P4:(((fD u (aB ah a) k:Nat):Int)+(u:Int)*(aB ah a k:Nat))/4294967296=((fD u (aB ah a) (k+1):Nat):Int):=by rw[Int.add_comm];exact pM ..
     have AE1:=Lib.hid P2;have AE2:=Lib.hid P4;clear ap P2 P4;obtain⟨P5,P6⟩:=tB (d:=v) (v:=aB ah b) (bQ ((bf aF).1 (show ln ah b<=k by omega))) m2;have BE1:=Lib.hid P5;have BE2:=Lib.hid P6;clear P5 P6;go_wp2_with fail
     refine(nB (Z:=zx (jo u (aB ah a)) (jo v (aB ah b)) k) AE1.out (by rw[BE1.out]) rfl (gE ..) (gE ..) Nx _).mono ?_
     rintro e w3 ⟨rfl,rfl⟩
     go_wp2_with fail
     go_roundw
     case rel=>exact⟨k+1,by omega,by go_num,(congrArg (Value.int .u64) AE2.out),(congrArg (Value.int .u64) (by rw[BE2.out];omega)),rfl,Fy.out _ rfl,aV.setCell (Nat.le_refl _) _⟩
     case measure=>simp[intOf];omega
   ·
    by_cases tN:k<ln ah b
    ·
     obtain⟨P2,P4⟩:=tB (d:=u) (v:=aB ah a) (bQ ((bf aF).1 (show ln ah a<=k by omega))) m1;have AE1:=Lib.hid P2;have AE2:=Lib.hid P4;clear P2 P4;have bd:=aP b k;obtain⟨pb,qb,rfl,hpb,hcb⟩:=hb (by omega);have bc:=(aV.cell (p:=⟨pb,qb+k,none⟩) hpb).trans (hcb k tN);have bp:=eC hv bd
     have bI:(v:Int)*(aB ah b k:Nat)<=18446744065119617025:=by rw[<-Int.natCast_mul];omega
     have b0:0<=(v:Int)*(aB ah b k:Nat):=by rw[<-Int.natCast_mul];omega
     have P5:(((fD v (aB ah b) k:Nat):Int)+(v:Int)*(aB ah b k:Nat))%4294967296=((jo v (aB ah b) k:Nat):Int):=by rw[Int.add_comm];exact pN ..
     have P6:(((fD v (aB ah b) k:Nat):Int)+(v:Int)*(aB ah b k:Nat))/4294967296=((fD v (aB ah b) (k+1):Nat):Int):=by rw[Int.add_comm];exact pM ..
     have BE1:=Lib.hid P5;have BE2:=Lib.hid P6;clear bp P5 P6;go_wp2_with fail
     refine(nB (Z:=zx (jo u (aB ah a)) (jo v (aB ah b)) k) (by rw[AE1.out]) BE1.out rfl (gE ..) (gE ..) Nx _).mono ?_
     rintro e w3 ⟨rfl,rfl⟩
     go_wp2_with fail
     go_roundw
     case rel=>exact⟨k+1,by omega,by go_num,(congrArg (Value.int .u64) (by rw[AE2.out];omega)),(congrArg (Value.int .u64) BE2.out),rfl,Fy.out _ rfl,aV.setCell (Nat.le_refl _) _⟩
     case measure=>simp[intOf];omega
    ·
     obtain⟨P2,P4⟩:=tB (d:=u) (v:=aB ah a) (bQ ((bf aF).1 (show ln ah a<=k by omega))) m1;have AE1:=Lib.hid P2;have AE2:=Lib.hid P4;clear P2 P4;obtain⟨P5,P6⟩:=tB (d:=v) (v:=aB ah b) (bQ ((bf aF).1 (show ln ah b<=k by omega))) m2;have BE1:=Lib.hid P5;have BE2:=Lib.hid P6;clear P5 P6;go_wp2_with fail
     refine(nB (Z:=zx (jo u (aB ah a)) (jo v (aB ah b)) k) (by rw[AE1.out]) (by rw[BE1.out]) rfl (gE ..) (gE ..) Nx _).mono ?_
     rintro e w3 ⟨rfl,rfl⟩
     go_wp2_with fail
     go_roundw
     case rel=>exact⟨k+1,by omega,by go_num,(congrArg (Value.int .u64) (by rw[AE2.out];omega)),(congrArg (Value.int .u64) (by rw[BE2.out];omega)),rfl,Fy.out _ rfl,aV.setCell (Nat.le_refl _) _⟩
     case measure=>simp[intOf];omega
  ·
   obtain rfl:k=N+1:=by omega
   have hrd:=(hrow.rd (Nat.le_refl _) hrow.lt).congr (f':=Io (jo u (aB ah a)) (jo v (aB ah b))) fun j hj=>by simp only[dst,if_pos hj]
   have ht:=fy (some ⟨w.heap.size,0,none⟩) _ (N+1) _ wr hrd (fun i _=>zy ..) (Nat.le_refl _) (by omega);rw[HT0.out] at ht;have HT:=Lib.hid ht;clear ht;go_wp2_with fail
   refine HT.out.mono ?_
   rintro e w3 ⟨rfl,rfl,iw,hlc⟩
   go_wp2
   go_ret
   exact⟨_,_,rfl,hlc,iw,aV⟩
end
end Go.Proofs.YtclbiihcbfnjmaaGreat
