/-
  Parts.
-/
import Derived.Test.YtclbiihcbfnjmaaGreatK1
import Derived.OneCell
import Derived.Deep.CutBlock
import Derived.Deep.DeepCutAuto
import Derived.BigQuiet
import Derived.Outline
import Derived.Laws.Small
set_option maxRecDepth 100000
set_option maxHeartbeats 2000000
namespace Go.Proofs.YtclbiihcbfnjmaaGreat
section
open Go.RowKit

def WI (w:World)(z:Int)(e:Ending)(w':World):Prop:=
 ∃A c,e= .returned (.agg #[.bool (decide (z<0)),.slice A (ln b16 z.natAbs) c])/\Own16 w.heap.size w' A (ln b16 z.natAbs) c (dgt b16 z.natAbs)/\Below w.heap.size w w'

def WholeAt (w:World)(g:Nat)(s:Bool)(v:Value):Prop:=w.heap[g]?=some (.cells #[.bool s,v] 27 (0,0))
theorem WholeAt.cells {w:World}{g:Nat}{s:Bool}{v:Value}(h:WholeAt w g s v):w.cell? ⟨g,0,none⟩=some (.bool s)/\w.cell? ⟨g,1,none⟩=some v:=by
 refine⟨?_, ?_⟩<;>exact(cell_of_row w g _ _ _ (0,0) h).trans rfl
theorem WholeAt.frozen {w:World}{g:Nat}{s:Bool}{v:Value}(h:WholeAt w g s v)(i:Nat):w.frozen? ⟨g,i,none⟩=false:=by
 simp[World.frozen?,show w.heap[g]?=_ from h]
theorem WholeAt.lt {w:World}{g:Nat}{s:Bool}{v:Value}(h:WholeAt w g s v):g<w.heap.size:=heap_lt h
theorem WholeAt.below {w w':World}{B g:Nat}{s:Bool}{v:Value}(h:WholeAt w g s v)(hb:Below B w w')(hg:g<B):WholeAt w' g s v:=(hb.block g hg).trans h
theorem WholeAt.new (w:World)(s:Bool)(v:Value):WholeAt (w.alloc (.cells #[.bool s,v] 27)) w.heap.size s v:=heap_alloc_new _ _
theorem WholeAt.set {w:World}{g:Nat}{s:Bool}{v:Value}(h:WholeAt w g s v)(s':Bool)(v':Value):WholeAt ((w.setCell ⟨g,0,none⟩ (.bool s')).setCell ⟨g,1,none⟩ v') g s' v':=by
 unfold WholeAt at h⊢
 simp[World.setCell,Array.getElem?_modify,h]
theorem own_slice {base n:Nat}{w:World}{v:Value}{f:Nat->Nat}(h:w.ownsRow base 108 1 v n (nums .u16 n f)):∃A c,v= .slice A n c/\Own16 base w A n c f:=by
 rcases Row.of_own h with⟨rfl,h0⟩|⟨g,c,rfl,_⟩
 ·subst h0;exact⟨none,0,rfl,h⟩
 ·exact⟨_,_,rfl,h⟩

theorem ln_low {B:Nat}(hB:2<=B)(x k:Nat):ln B (x%B^(k+1))=if dgt B x k=0 then ln B (x%B^k) else k+1:=by
 have hpk:0<B^k:=Nat.pow_pos (by omega)
 have e:x%B^(k+1)=x%B^k+B^k*dgt B x k:=by
  rw[<-vs_dgt,<-vs_dgt];rfl
 have hm:=Nat.mod_lt x hpk
 by_cases h0:dgt B x k=0
 ·rw[if_pos h0,e,h0,Nat.mul_zero,Nat.add_zero]
 ·
  rw[if_neg h0];refine ln_eq hB (Nat.mod_lt _ (Nat.pow_pos (by omega))) (.inr ?_);rw[e,Nat.add_sub_cancel];have:B^k*1<=B^k*dgt B x k:=Nat.mul_le_mul_left _ (by omega);rw[Nat.mul_one] at this;exact Nat.le_trans this (Nat.le_add_left _ _)
theorem ln_low_le {B:Nat}(hB:2<=B)(x k:Nat):ln B (x%B^k)<=k:=(ln_le hB).2 (Nat.mod_lt _ (Nat.pow_pos (by omega)))
theorem shift_dgt (x k:Nat):((x:Int)/2^(16*k))%65536=((dgt b16 x k:Nat):Int):=by
 have h:(2:Nat)^(16*k)=b16^k:=by rw[Nat.pow_mul];rfl
 have e:((x:Int)/2^(16*k))=((x/2^(16*k):Nat):Int):=by rw[Int.natCast_ediv,Int.natCast_pow];rfl
 rw[e,h];rfl

theorem fromInt_any (z:Int)(w:World)(h1:-9223372036854775808<=z)(h2:z<=9223372036854775807):Calls Tryz.prog 73 #[.int .i64 z] w (WI w z):=by
 obtain⟨x,hx⟩:∃x,x=z.natAbs:=⟨_,rfl⟩
 have hx64:x<18446744073709551616:=by omega
 go_enter Tryz.func73,Tryz.ntmps73
 go_upto_if 10 with(fail)
 go_cut [3] (fun v wx=>v= .int .u64 (x:Int)/\wx=w.alloc (.cells #[.bool false,.slice none 0 0] 27))
 case first=>
  by_cases hneg:z<0
  ·
   go_wp2_with fail
   go_meet
   refine⟨?_,rfl⟩
   congr 1
   rw[IntKind.wrap_u64,IntKind.wrap_u64];omega
  ·
   go_wp2_with fail
   go_meet
   refine⟨?_,rfl⟩
   congr 1
   rw[IntKind.wrap_u64];omega
 case rest=>
  obtain⟨rfl,rfl⟩:=hcut;have HX:=Lib.hid hx;clear hx;go_wp2_with fail
  go_loopw [5,13] (fun cnt i wr=>∃k:Nat,k<=4/\i= .int .i64 (k:Int)/\cnt= .int .i64 (ln b16 (x%b16^k):Nat)/\Row wr (w.heap.size+1) 143 .u16 4 4 (fun j=>if j<k then dgt b16 x j else 0)/\
   wr.heap[w.heap.size]?=some (.cells #[.bool false,.slice none 0 0] 27 (0,0))/\Below w.heap.size w wr) (fun _ i _=>4-(intOf i).toNat)
  case atStart=>
   refine⟨0,by omega,rfl,by simp[Nat.mod_one,ln_zero], ?_, ?_, ?_⟩
   ·
    refine⟨_,by have:=heap_alloc_new (w.alloc (.cells #[.bool false,.slice none 0 0] 27)) (.cells #[.int .u16 0,.int .u16 0,.int .u16 0,.int .u16 0] 143);rwa [World.size_alloc] at this,rfl,fun i hi=> ?_⟩
    match i,hi with
    |0,_=>rfl
    |1,_=>rfl
    |2,_=>rfl
    |3,_=>rfl
   ·exact(Below.heap_alloc _ _ _ (by simp)).trans (heap_alloc_new _ _)
   ·exact((Below.refl _ w).alloc (Nat.le_refl _) _).alloc (by simp) _
  case round=>
   obtain⟨k,hk,rfl,rfl,hrow,hres,hbel⟩:=hrel;have hl:=ln_low_le b16_two x k;have hlt0:=hrow.lt
   by_cases hlt:k<4
   ·
    have c1:=hrow.cell (i:=k) hlt;have c2:=hrow.frozen k;have hd:=dgt16_lt x k;have hsd:=shift_dgt x k;have hstep:=ln_low b16_two x k
    have hw:IntKind.u16.wrap ((x:Int)/2^(16*k))=((dgt b16 x k:Nat):Int):=by rw[<-hsd];exact IntKind.wrap_u16 _
    have HST:=Lib.hid hstep;clear hsd hstep
    have hset:Row (wr.setCell ⟨w.heap.size+1,k,none⟩ (.int .u16 (dgt b16 x k:Nat))) (w.heap.size+1) 143 .u16 4 4 (fun j=>if j<k+1 then dgt b16 x j else 0):=
     hrow.set (by simp) fun j _ hj=>by simp only[show j<k+1↔j<k by omega]
    have hres2:=(Below.heap_setCell wr ⟨w.heap.size+1,k,none⟩ (.int .u16 (dgt b16 x k:Nat)) w.heap.size (by simp)).trans hres;have hbel2:=hbel.setCell (p:=⟨w.heap.size+1,k,none⟩) (by simp) (.int .u16 (dgt b16 x k:Nat));have HRES:=Lib.hid hres2;clear hres2 hres
    by_cases hz:dgt b16 x k=0
    ·
     have tz:(((dgt b16 x k:Nat):Int) !=0)=false:=by rw[hz];rfl
     have HZ:=Lib.hid hz;clear hz;go_wp2_with fail
     go_roundw
     case rel=>exact⟨k+1,by omega,by go_num,by rw[HST.out,if_pos HZ.out],hset,HRES.out,hbel2⟩
     case measure=>simp[intOf];omega
    ·
     have tz:(((dgt b16 x k:Nat):Int) !=0)=true:=bne_iff_ne.2 (by omega);have HZ:=Lib.hid hz;clear hz;go_wp2_with fail
     go_roundw
     case rel=>exact⟨k+1,by omega,by go_num,by rw[HST.out,if_neg HZ.out];go_num,hset,HRES.out,hbel2⟩
     case measure=>simp[intOf];omega
   ·
    obtain rfl:k=4:=by omega
    have e4:x%b16^4=x:=Nat.mod_eq_of_lt hx64;rw[e4] at hl⊢
    have hl4:((ln b16 x:Nat):Int)<=4:=by omega
    have hl0:0<=((ln b16 x:Nat):Int):=by omega
    have har:(Tryz.prog).arrayLen 143=4:=by kernel_rfl
    have hl5:((ln b16 x:Nat):Int)<=((Tryz.prog).arrayLen 143:Int):=by rw[har];omega
    clear e4;go_wp2_with fail
    have hrd:Rd wr.heap.size .u16 wr (some ⟨w.heap.size+1,0,none⟩) (ln b16 x) (dgt b16 x):=(hrow.rd (n:=ln b16 x) (by omega) hlt0).congr fun i hi=>if_pos (show i<4 by omega)
    refine(clone16_any _ (ln b16 x) 4 (dgt b16 x) wr hrd (by omega)).mono ?_
    rintro e w3 ⟨v,rfl,hown,hb3,-⟩
    obtain⟨A,c,rfl,hown⟩:=own_slice hown;have hW:WholeAt w3 w.heap.size false (.slice none 0 0):=WholeAt.below hres hb3 (by omega);obtain⟨r0,r1⟩:=hW.cells;have g0:=hW.frozen 0;have g1:=hW.frozen 1;have hbl3:=hbel.trans (hb3.mono hbel.size);have hW2:=hW.set (decide (z<0)) (.slice A (ln b16 x) c);have hbl4:=(hbl3.setCell (p:=⟨w.heap.size,0,none⟩) (Nat.le_refl _) (.bool (decide (z<0)))).setCell (p:=⟨w.heap.size,1,none⟩) (Nat.le_refl _) (.slice A (ln b16 x) c)
    have hR0:w.heap.size<wr.heap.size:=by omega
    have hown4:Own16 w.heap.size ((w3.setCell ⟨w.heap.size,0,none⟩ (.bool (decide (z<0)))).setCell ⟨w.heap.size,1,none⟩ (.slice A (ln b16 x) c)) A (ln b16 x) c (dgt b16 x):=
     Own16.lower (base:=wr.heap.size) (ownsRow_setCell_below (ownsRow_setCell_below hown (a:=⟨w.heap.size,0,none⟩) hR0 _) (a:=⟨w.heap.size,1,none⟩) hR0 _) (Nat.le_of_lt hR0)
    have HOWN:=Lib.hid hown4;have HW2:=Lib.hid hW2;clear hown hown4 hW2;go_wp2_with fail
    have hW2:=HW2.out;have hown4:=HOWN.out;clear hW r0 r1 HW2 HOWN
    generalize ((w3.setCell ⟨w.heap.size,0,none⟩ (.bool (decide (z<0)))).setCell ⟨w.heap.size,1,none⟩ (.slice A (ln b16 x) c))=WW at*
    obtain⟨k0,k1⟩:=hW2.cells;refine bodyPost_ret (v:= .agg #[.bool (decide (z<0)),.slice A (ln b16 x) c]) (by simp[results,Tryz.results73,go_sem,k0,k1]) rfl ?_;rw[HX.out] at hown4⊢;exact⟨A,c,rfl,hown4,hbl4⟩
end
section
open Go.RowKit

def ust (x k j:Nat):Nat:=if j<2*k then dgt b16 x j else 0

theorem unpack_zero (z:Bool)(A:Option Addr)(c:Nat)(w:World):Calls Tryz.prog 173 #[.bool z,.slice A 0 c] w (WW w false 0):=by
 have ht:∀w:World,Calls Tryz.prog 174 #[.slice A 0 c] w fun e w'=>e= .returned (.slice A 0 c)/\w=w':=fun w=>by
  have ht:=trim_num A c 0 w (Num32.zero w A) (by rw[ln_zero];omega) (by rw[ln_zero];omega);rw[ln_zero] at ht;exact ht
 have HT:=Lib.hid ht;clear ht
 go_enter Tryz.func173,Tryz.ntmps173
 go_wp2_with fail
 refine(HT.out _).mono ?_
 rintro e w1 ⟨rfl,rfl⟩
 go_wp2
 refine bodyPost_ret (v:= .agg #[.bool false,.slice none 0 0]) (by simp[results,Tryz.results173,go_sem]) rfl ?_;refine⟨none,0,by rw[ln_zero], ?_, ?_⟩
 ·rw[ln_zero];exact Own16.nil ..
 ·repeat(first|exact Below.refl _ _|refine Below.setCell ?_ (Nat.le_refl _) _|refine Below.alloc ?_ (Nat.le_refl _) _)
theorem unpack_pos (z:Bool)(A:Option Addr)(c x:Nat)(w:World)(h:Num32 w A x)(hc:ln b32 x<=c)(hn:ln b32 x<=1000000)(hx:0<x):
  Calls Tryz.prog 173 #[.bool z,.slice A (ln b32 x) c] w (WW w z x):=by
 have hpos:=(ln_pos b32_two).2 hx;have hl2:=ln32_two x;have hpos16:=(ln_pos b16_two).2 hx;have HL2:=Lib.hid hl2
 have hle1:ln b16 x<=2*ln b32 x:=by omega
 have hle2:2*ln b32 x<=ln b16 x+1:=by omega
 clear hl2;obtain⟨b,o,rfl,hb,hca⟩:=h hpos
 have ht:∀w':World,Below w.heap.size w w'->Calls Tryz.prog 174 #[.slice (some ⟨b,o,none⟩) (ln b32 x) c] w' fun e w1=>e= .returned (.slice (some ⟨b,o,none⟩) (ln b32 x) c)/\w'=w1:=
  fun w' hb'=>trim_num _ c x w' (Num32.below h hb') hc (by omega)
 have HT:=Lib.hid ht;clear ht;have hmk:=mk16 (2*ln b32 x) (2*ln b32 x) (Nat.le_refl _) (by omega);rw[show((2*ln b32 x:Nat):Int)=2*(ln b32 x:Int) by omega] at hmk
 have k1:(((ln b32 x:Nat):Int)==0)=false:=by simp;omega
 go_enter Tryz.func173,Tryz.ntmps173
 go_wp2_with fail
 refine(HT.out _ ((Below.refl _ _).alloc (Nat.le_refl _) _)).mono ?_
 rintro e w1 ⟨rfl,rfl⟩
 go_wp2_with fail
 clear hmk
 go_loopw [20] (fun i wr=>∃k:Nat,k<=ln b32 x/\i= .int .i64 k/\Row wr (w.heap.size+1) 108 .u16 (2*ln b32 x) (2*ln b32 x) (ust x k)/\wr.heap[w.heap.size]?=some (.cells #[.bool false,.slice none 0 0] 27 (0,0))/\Below w.heap.size w wr) (fun i _=>ln b32 x-(intOf i).toNat)
 case atStart=>
  refine⟨0,Nat.zero_le _,rfl, ?_, ?_,((Below.refl _ _).alloc (Nat.le_refl _) _).alloc (by simp) _⟩
  ·
   have hr:=Row.made (w:=w.alloc (.cells #[.bool false,.slice none 0 0] 27)) (t:= 108) (m:=2*ln b32 x) (k:= .u16);rw[World.size_alloc] at hr
   exact hr.congr fun j _=>by simp[ust]
  ·exact(Below.heap_alloc _ _ _ (by simp)).trans (heap_alloc_new _ _)
 case round=>
  obtain⟨k,hk,rfl,hrow,hres,hbel⟩:=hrel
  by_cases hlt:k<ln b32 x
  ·
   have c0:=(hbel.cell (p:=⟨b,o+k,none⟩) hb).trans (hca k hlt);have c1:=hrow.cell (i:=2*k) (by omega);have c2:=hrow.frozen (2*k);have c3:=hrow.cell (i:=2*k+1) (by omega);have c4:=hrow.frozen (2*k+1);have hxk:=dgt32_lt x k
   have e1:IntKind.u16.wrap ((dgt b32 x k:Nat):Int)=((dgt b16 x (2*k):Nat):Int):=by
    rw[IntKind.wrap_u16];have h1:=dgt32_two x k;have h2:=dgt16_lt x (2*k);omega
   have e2:((dgt b32 x k:Nat):Int)/65536=((dgt b16 x (2*k+1):Nat):Int):=by
    have h1:=dgt32_two x k;have h2:=dgt16_lt x (2*k);omega
   have E1:=Lib.hid e1;have E2:=Lib.hid e2;clear e1 e2;go_wp2_with fail
   go_roundw
   case rel=>
    rw[E1.out,E2.out];refine⟨k+1,by omega,by go_num, ?_,(Below.heap_setCell _ _ _ _ (by simp)).trans ((Below.heap_setCell _ _ _ _ (by simp)).trans hres),(hbel.setCell (by simp) _).setCell (by simp) _⟩
    exact(hrow.set (f':=fun j=>if j=2*k then dgt b16 x (2*k) else ust x k j) (by simp) fun j _ hj=>by simp[hj]).set (by simp[ust];omega) fun j _ hj=>by
     simp only[ust]
     by_cases e:j=2*k
     ·subst e;simp
     ·simp only[e,if_false,show j<2*(k+1)↔j<2*k by omega]
   case measure=>simp[intOf];omega
  ·
   obtain rfl:k=ln b32 x:=by omega
   have hrow2:=hrow.congr (f':=dgt b16 x) fun j hj=>by simp only[ust,if_pos hj]
   have c0:=hrow2.cell (i:=2*ln b32 x-1) (by omega)
   have r0:wr.cell? ⟨w.heap.size,0,none⟩=some (.bool false):=by rw[cell_of_row _ _ _ _ _ (0,0) hres];rfl
   have r1:wr.cell? ⟨w.heap.size,1,none⟩=some (.slice none 0 0):=by rw[cell_of_row _ _ _ _ _ (0,0) hres];rfl
   have r2:∀i,wr.frozen? ⟨w.heap.size,i,none⟩=false:=fun i=>by simp[World.frozen?,hres]
   have r3:=r2 0;have r4:=r2 1;clear r2
   by_cases htop:ln b16 x=2*ln b32 x
   ·
    have hne:=dgt_top b16_two hx;rw[htop] at hne
    have t1:(((dgt b16 x (2*ln b32 x-1):Nat):Int)==0)=false:=by simp;exact hne
    have HTOP:=Lib.hid htop;clear htop hne;go_wp2_with fail
    refine bodyPost_ret (v:= .agg #[.bool z,.slice (some ⟨w.heap.size+1,0,none⟩) (2*ln b32 x) (2*ln b32 x)]) (by simp[results,Tryz.results173,go_sem,r0,r1]) rfl ?_;refine⟨_,_,by rw[HTOP.out], ?_,(hbel.setCell (Nat.le_refl _) _).setCell (Nat.le_refl _) _⟩;exact Own16.of_row ((hrow2.far (p:=⟨w.heap.size,0,none⟩) (by simp) _).far (p:=⟨w.heap.size,1,none⟩) (by simp) _) (by omega) hle1 hle1 (by omega)
   ·
    have htop2:ln b16 x=2*ln b32 x-1:=by omega
    have hz:dgt b16 x (2*ln b32 x-1)=0:=dgt_of_lt ((ln_le b16_two).1 (by omega))
    have t1:(((dgt b16 x (2*ln b32 x-1):Nat):Int)==0)=true:=by simp;exact hz
    have HTOP:=Lib.hid htop2;clear htop htop2 hz;go_wp2_with fail
    refine bodyPost_ret (v:= .agg #[.bool z,.slice (some ⟨w.heap.size+1,0,none⟩) (2*ln b32 x-1) (2*ln b32 x)]) (by simp[results,Tryz.results173,go_sem,r0,r1]) rfl ?_;refine⟨_,_,by rw[HTOP.out], ?_,(hbel.setCell (Nat.le_refl _) _).setCell (Nat.le_refl _) _⟩;exact Own16.of_row ((hrow2.far (p:=⟨w.heap.size,0,none⟩) (by simp) _).far (p:=⟨w.heap.size,1,none⟩) (by simp) _) (by omega) hle1 hle1 (by omega)
theorem unpack_any (z:Bool)(A:Option Addr)(c x:Nat)(w:World)(h:Num32 w A x)(hc:ln b32 x<=c)(hn:ln b32 x<=1000000):
  Calls Tryz.prog 173 #[.bool z,.slice A (ln b32 x) c] w (WW w (z&&decide (0<x)) x):=by
 rcases Nat.eq_zero_or_pos x with rfl|hx
 ·
  rw[ln_zero,show(z&&decide (0<0))=false by cases z<;>rfl];exact unpack_zero z A c w
 ·
  rw[show(z&&decide (0<x))=z by rw[decide_eq_true hx];cases z<;>rfl];exact unpack_pos z A c x w h hc hn hx
end
section
open Go.RowKit

def cry (f g:Nat->Nat):Nat->Nat
 |0=>0
 |k+1=>(f k+g k+cry f g k)/4294967296
def sdg (f g:Nat->Nat)(k:Nat):Nat:=(f k+g k+cry f g k)%4294967296
theorem cry_le {f g:Nat->Nat}(hf:∀i,f i<4294967296)(hg:∀i,g i<4294967296)(k:Nat):cry f g k<=1:=by
 induction k with
 |zero=>exact Nat.zero_le _
 |succ k ih=>
  have:=hf k;have:=hg k;rw[cry];omega
theorem sdg_lt (f g:Nat->Nat)(k:Nat):sdg f g k<4294967296:=Nat.mod_lt _ (by decide)
theorem sdg_sum (f g:Nat->Nat)(n:Nat):vs b32 (sdg f g) n+b32^n*cry f g n=vs b32 f n+vs b32 g n:=by
 induction n with
 |zero=>simp[vs,cry]
 |succ n ih=>
  have h:=carry_step (t:=f n+g n) ih (show sdg f g n=(f n+g n+cry f g n)%b32 by rfl);rw[Nat.mul_add] at h;rw[vs_succ b32 f,vs_succ b32 g];have e:cry f g (n+1)=(f n+g n+cry f g n)/b32:=rfl;rw[e];omega
theorem sdg_total {a b:Nat}(h:ln b32 b<=ln b32 a):vs b32 (sdg (dgt b32 a) (dgt b32 b)) (ln b32 a+1)=a+b:=by
 have h1:=sdg_sum (dgt b32 a) (dgt b32 b) (ln b32 a+1);have h2:a<b32^(ln b32 a+1):=(ln_le b32_two).1 (by omega);have h3:b<b32^(ln b32 a+1):=(ln_le b32_two).1 (by omega)
 have h4:cry (dgt b32 a) (dgt b32 b) (ln b32 a+1)=0:=by
  have hc:=cry_le (fun i=>dgt32_lt a i) (fun i=>dgt32_lt b i) (ln b32 a);rw[cry,dgt_of_lt (lt_pow_ln b32_two a),dgt_of_lt ((ln_le b32_two).1 h)];omega
 rw[h4,vs_dgt_lt h2,vs_dgt_lt h3,Nat.mul_zero,Nat.add_zero] at h1;exact h1

theorem plus_walk (A B:Option Addr)(c d a b:Nat)(w:World)(ha:Num32 w A a)(hb:Num32 w B b)(hba:ln b32 b<=ln b32 a)(hn:ln b32 a<=1000000):
  Calls Tryz.prog 183 #[.slice A (ln b32 a) c,.slice B (ln b32 b) d] w (W32 w (a+b)):=by
 have HN:=Lib.hid (@sdg_total a b hba);have hmk:=mk32 0 (ln b32 a+1) (by omega) (by omega);rw[show((ln b32 a+1:Nat):Int)=(ln b32 a:Int)+1 by omega,show((0:Nat):Int)=0 by rfl] at hmk
 have k0:¬(ln b32 a:Int)<(ln b32 b:Int):=by omega
 go_enter Tryz.func183,Tryz.ntmps183
 go_wp2_with fail
 refine(collector_any _ _).mono ?_
 rintro e w1 ⟨rfl,rfl⟩
 go_wp2_with fail
 clear hmk
 go_loopw [24] (fun i wr=>∃k:Nat,k<=ln b32 a/\i= .int .i64 k/\Coll w.heap.size (w.heap.size+1+1+1) (w.heap.size+1+1) (w.heap.size+1) w.heap.size (ln b32 a+1) (sdg (dgt b32 a) (dgt b32 b)) wr k (cry (dgt b32 a) (dgt b32 b) k)/\Below w.heap.size w wr) (fun i _=>ln b32 a-(intOf i).toNat)
 case atStart=>exact⟨0,Nat.zero_le _,rfl,coll_start _ _ _,coll_below _ _ _ _ _⟩
 case round=>
  obtain⟨k,hk,rfl,hcoll,hbel⟩:=hrel;have hcr:=cry_le (fun i=>dgt32_lt a i) (fun i=>dgt32_lt b i) k
  by_cases hlt:k<ln b32 a
  ·
   have hx:=dgt32_lt a k;have hy:=dgt32_lt b k;obtain⟨p,q,rfl,hp,hca⟩:=ha (by omega);have c0:=(hbel.cell (p:=⟨p,q+k,none⟩) hp).trans (hca k hlt)
   by_cases hkb:k<ln b32 b
   ·
    obtain⟨p',q',rfl,hp',hcb⟩:=hb (by omega);have c1:=(hbel.cell (p:=⟨p',q'+k,none⟩) hp').trans (hcb k hkb);have hcol:=collect_int _ _ _ _ _ _ _ _ _ (dgt b32 a k+dgt b32 b k) ((dgt b32 a k:Int)+dgt b32 b k) _ hcoll (by omega) (by omega) rfl (by omega);have HC:=Lib.hid hcol;clear hcol;go_wp2_with fail
    refine HC.out.mono ?_
    rintro e w2 ⟨rfl,hcoll2,hbel2⟩
    go_wp2
    go_roundw
    case rel=>exact⟨k+1,by omega,by go_num,hcoll2,hbel.trans hbel2⟩
    case measure=>simp[intOf];omega
   ·
    have h0:dgt b32 b k=0:=dgt_of_lt ((ln_le b32_two).1 (by omega));have hcol:=collect_int _ _ _ _ _ _ _ _ _ (dgt b32 a k+dgt b32 b k) (dgt b32 a k:Int) _ hcoll (by omega) (by omega) rfl (by omega);have HC:=Lib.hid hcol;clear hcol h0;go_wp2_with fail
    refine HC.out.mono ?_
    rintro e w2 ⟨rfl,hcoll2,hbel2⟩
    go_wp2
    go_roundw
    case rel=>exact⟨k+1,by omega,by go_num,hcoll2,hbel.trans hbel2⟩
    case measure=>simp[intOf];omega
  ·
   obtain rfl:k=ln b32 a:=by omega
   have h0:dgt b32 a (ln b32 a)=0:=dgt_of_lt (lt_pow_ln b32_two a);have h1:dgt b32 b (ln b32 a)=0:=dgt_of_lt ((ln_le b32_two).1 hba);have hcol:=collect_int _ _ _ _ _ _ _ _ _ 0 0 _ hcoll (by omega) (by omega) (by rw[sdg,h0,h1]) (by omega);have HC:=Lib.hid hcol;clear hcol h0 h1;go_wp2_with fail
   refine HC.out.mono ?_
   rintro e w2 ⟨rfl,hcoll2,hbel2⟩
   have c3:=cell_of_one hcoll2.var;have ht:=trim_any (some ⟨w.heap.size,0,none⟩) _ (ln b32 a+1) _ w2 (hcoll2.row.rd (Nat.le_refl _) hcoll2.row.lt) (fun i _=>sdg_lt ..) (Nat.le_refl _) (by omega);rw[HN.out] at ht;have HT:=Lib.hid ht;clear ht;go_wp2_with fail
   refine HT.out.mono ?_
   rintro e w3 ⟨rfl,rfl,hnum,hlc⟩
   go_wp2
   go_ret
   exact⟨_,_,rfl,hlc,hnum,hbel.trans hbel2⟩
theorem plus_swap (A B:Option Addr)(c d a b:Nat)(w:World)(ha:Num32 w A a)(hb:Num32 w B b)(hba:ln b32 a<ln b32 b)(hn:ln b32 b<=1000000):
  Calls Tryz.prog 183 #[.slice A (ln b32 a) c,.slice B (ln b32 b) d] w (W32 w (b+a)):=by
 have HN:=Lib.hid (@sdg_total b a (by omega));have hmk:=mk32 0 (ln b32 b+1) (by omega) (by omega);rw[show((ln b32 b+1:Nat):Int)=(ln b32 b:Int)+1 by omega,show((0:Nat):Int)=0 by rfl] at hmk
 have k0:(ln b32 a:Int)<(ln b32 b:Int):=by omega
 go_enter Tryz.func183,Tryz.ntmps183
 go_wp2_with fail
 refine(collector_any _ _).mono ?_
 rintro e w1 ⟨rfl,rfl⟩
 go_wp2_with fail
 clear hmk
 go_loopw [24] (fun i wr=>∃k:Nat,k<=ln b32 b/\i= .int .i64 k/\Coll w.heap.size (w.heap.size+1+1+1) (w.heap.size+1+1) (w.heap.size+1) w.heap.size (ln b32 b+1) (sdg (dgt b32 b) (dgt b32 a)) wr k (cry (dgt b32 b) (dgt b32 a) k)/\Below w.heap.size w wr) (fun i _=>ln b32 b-(intOf i).toNat)
 case atStart=>exact⟨0,Nat.zero_le _,rfl,coll_start _ _ _,coll_below _ _ _ _ _⟩
 case round=>
  obtain⟨k,hk,rfl,hcoll,hbel⟩:=hrel;have hcr:=cry_le (fun i=>dgt32_lt b i) (fun i=>dgt32_lt a i) k
  by_cases hlt:k<ln b32 b
  ·
   have hx:=dgt32_lt b k;have hy:=dgt32_lt a k;obtain⟨p,q,rfl,hp,hca⟩:=hb (by omega);have c0:=(hbel.cell (p:=⟨p,q+k,none⟩) hp).trans (hca k hlt)
   by_cases hkb:k<ln b32 a
   ·
    obtain⟨p',q',rfl,hp',hcb⟩:=ha (by omega);have c1:=(hbel.cell (p:=⟨p',q'+k,none⟩) hp').trans (hcb k hkb);have hcol:=collect_int _ _ _ _ _ _ _ _ _ (dgt b32 b k+dgt b32 a k) ((dgt b32 b k:Int)+dgt b32 a k) _ hcoll (by omega) (by omega) rfl (by omega);have HC:=Lib.hid hcol;clear hcol;go_wp2_with fail
    refine HC.out.mono ?_
    rintro e w2 ⟨rfl,hcoll2,hbel2⟩
    go_wp2
    go_roundw
    case rel=>exact⟨k+1,by omega,by go_num,hcoll2,hbel.trans hbel2⟩
    case measure=>simp[intOf];omega
   ·
    have h0:dgt b32 a k=0:=dgt_of_lt ((ln_le b32_two).1 (by omega));have hcol:=collect_int _ _ _ _ _ _ _ _ _ (dgt b32 b k+dgt b32 a k) (dgt b32 b k:Int) _ hcoll (by omega) (by omega) rfl (by omega);have HC:=Lib.hid hcol;clear hcol h0;go_wp2_with fail
    refine HC.out.mono ?_
    rintro e w2 ⟨rfl,hcoll2,hbel2⟩
    go_wp2
    go_roundw
    case rel=>exact⟨k+1,by omega,by go_num,hcoll2,hbel.trans hbel2⟩
    case measure=>simp[intOf];omega
  ·
   obtain rfl:k=ln b32 b:=by omega
   have h0:dgt b32 b (ln b32 b)=0:=dgt_of_lt (lt_pow_ln b32_two b);have h1:dgt b32 a (ln b32 b)=0:=dgt_of_lt ((ln_le b32_two).1 (by omega));have hcol:=collect_int _ _ _ _ _ _ _ _ _ 0 0 _ hcoll (by omega) (by omega) (by rw[sdg,h0,h1]) (by omega);have HC:=Lib.hid hcol;clear hcol h0 h1;go_wp2_with fail
   refine HC.out.mono ?_
   rintro e w2 ⟨rfl,hcoll2,hbel2⟩
   have c3:=cell_of_one hcoll2.var;have ht:=trim_any (some ⟨w.heap.size,0,none⟩) _ (ln b32 b+1) _ w2 (hcoll2.row.rd (Nat.le_refl _) hcoll2.row.lt) (fun i _=>sdg_lt ..) (Nat.le_refl _) (by omega);rw[HN.out] at ht;have HT:=Lib.hid ht;clear ht;go_wp2_with fail
   refine HT.out.mono ?_
   rintro e w3 ⟨rfl,rfl,hnum,hlc⟩
   go_wp2
   go_ret
   exact⟨_,_,rfl,hlc,hnum,hbel.trans hbel2⟩
theorem plus_any (A B:Option Addr)(c d a b:Nat)(w:World)(ha:Num32 w A a)(hb:Num32 w B b)(hn:ln b32 a<=1000000)(hm:ln b32 b<=1000000):
  Calls Tryz.prog 183 #[.slice A (ln b32 a) c,.slice B (ln b32 b) d] w (W32 w (a+b)):=by
 by_cases h:ln b32 b<=ln b32 a
 ·exact plus_walk A B c d a b w ha hb h hn
 ·
  rw[Nat.add_comm a b];exact plus_swap A B c d a b w ha hb (by omega) hm
end
section
open Go.RowKit

def brw (f g:Nat->Nat):Nat->Nat
 |0=>0
 |k+1=>subB (f k) (g k) (brw f g k)
def dif (f g:Nat->Nat)(k:Nat):Nat:=subD (f k) (g k) (brw f g k)
theorem brw_le (f g:Nat->Nat)(k:Nat):brw f g k<=1:=by
 cases k with
 |zero=>exact Nat.zero_le _
 |succ k=>exact subB_le ..
theorem dif_sum {f g:Nat->Nat}(hf:∀i,f i<4294967296)(hg:∀i,g i<4294967296)(n:Nat):vs b32 f n+b32^n*brw f g n=vs b32 (dif f g) n+vs b32 g n:=by
 induction n with
 |zero=>simp[vs,brw]
 |succ n ih=>
  have h:=sub_eq (hf n) (hg n) (brw_le f g n)
  have h2:b32^n*(f n+4294967296*subB (f n) (g n) (brw f g n))=b32^n*(subD (f n) (g n) (brw f g n)+g n+brw f g n):=by rw[h]
  rw[vs_succ,vs_succ,vs_succ,brw,dif,Nat.pow_succ,Nat.mul_assoc];simp only[Nat.mul_add] at h2;rw[show b32*subB (f n) (g n) (brw f g n)=4294967296*subB (f n) (g n) (brw f g n) by rfl];omega
theorem dif_lt (f g:Nat->Nat)(k:Nat):dif f g k<4294967296:=subD_lt ..
theorem dif_total {a b:Nat}(h:b<=a):vs b32 (dif (dgt b32 a) (dgt b32 b)) (ln b32 a)=a-b:=by
 have h1:=dif_sum (fun i=>dgt32_lt a i) (fun i=>dgt32_lt b i) (ln b32 a);have h2:=lt_pow_ln b32_two a;rw[vs_dgt_lt h2,vs_dgt_lt (Nat.lt_of_le_of_lt h h2)] at h1
 have h3:vs b32 (dif (dgt b32 a) (dgt b32 b)) (ln b32 a)<b32^ln b32 a:=vs_lt fun j _=>dif_lt ..
 rcases bit_cases (brw_le (dgt b32 a) (dgt b32 b) (ln b32 a)) with e|e
 ·rw[e] at h1;omega
 ·rw[e] at h1;omega

def mst (a b k j:Nat):Nat:=if j<k then dif (dgt b32 a) (dgt b32 b) j else dgt b32 a j

theorem minus_any (A B:Option Addr)(c d a b:Nat)(w:World)(ha:Num32 w A a)(hb:Num32 w B b)(hba:b<=a)(hn:ln b32 a<=1000000):
  Calls Tryz.prog 184 #[.slice A (ln b32 a) c,.slice B (ln b32 b) d] w (W32 w (a-b)):=by
 have hlen:=ln_mono b32_two hba;have HN:=Lib.hid (@dif_total a b hba)
 go_enter Tryz.func184,Tryz.ntmps184
 go_wp2_with fail
 refine(clone32_any _ _ _ (dgt b32 a) _ ha (by omega)).mono ?_
 rintro e w1 ⟨v,rfl,hown,hbel,-⟩
 obtain⟨A1,c1,rfl,hnc,hrow⟩:=RowO.of_own hown;clear hown;go_wp2_with fail
 go_loopw [6,13] (fun br i wr=>∃k:Nat,k<=ln b32 a/\i= .int .i64 k/\br= .int .u32 (brw (dgt b32 a) (dgt b32 b) k:Nat)/\RowO w.heap.size wr A1 171 .u32 c1 (ln b32 a) (mst a b k)/\Below w.heap.size w wr) (fun _ i _=>ln b32 a-(intOf i).toNat)
 case atStart=>exact⟨0,Nat.zero_le _,rfl,rfl,hrow.congr fun j _=>by simp[mst],hbel⟩
 case round=>
  obtain⟨k,hk,rfl,rfl,hrow,hbel⟩:=hrel;have hbr:=brw_le (dgt b32 a) (dgt b32 b) k
  by_cases hlt:k<ln b32 a
  ·
   have hx:=dgt32_lt a k;have hy:=dgt32_lt b k;obtain⟨g,rfl,hg,hr⟩:=hrow (by omega);have c0:=hr.cell hlt;have c2:=hr.frozen k;rw[show mst a b k k=dgt b32 a k by simp[mst]] at c0
   have hset:∀u,u=dif (dgt b32 a) (dgt b32 b) k->Row (wr.setCell ⟨g,k,none⟩ (.int .u32 (u:Int))) g 171 .u32 c1 (ln b32 a) (mst a b (k+1)):=fun u hu=>
    hr.set (by simp[mst,hu]) fun j _ hj=>by simp only[mst,show j<k+1↔j<k by omega]
   have HSET:=Lib.hid hset;clear hset
   by_cases hkb:k<ln b32 b
   ·
    obtain⟨p',q',rfl,hp',hcb⟩:=hb (by omega);have c1:=(hbel.cell (p:=⟨p',q'+k,none⟩) hp').trans (hcb k hkb);go_wp2_with (go_at_call 198;refine(sub32_any _ _ _ _ hx hy hbr).mono ?_;rintro e w' ⟨rfl,rfl⟩)
    go_roundw
    case rel=>exact⟨k+1,by omega,by go_num,rfl,fun _=>⟨g,rfl,hg,HSET.out _ rfl⟩,hbel.setCell (by exact hg) _⟩
    case measure=>simp[intOf];omega
   ·
    have h0:dgt b32 b k=0:=dgt_of_lt ((ln_le b32_two).1 (by omega));have H0:=Lib.hid h0;clear h0;go_wp2_with (go_at_call 198;refine(sub32_zero _ _ _ hx hbr).mono ?_;rintro e w' ⟨rfl,rfl⟩)
    go_roundw
    case rel=>exact⟨k+1,by omega,by go_num,by rw[brw,H0.out],fun _=>⟨g,rfl,hg,HSET.out _ (by rw[dif,H0.out])⟩,hbel.setCell (by exact hg) _⟩
    case measure=>simp[intOf];omega
  ·
   obtain rfl:k=ln b32 a:=by omega
   have hrd:=hrow.rd.congr (f':=dif (dgt b32 a) (dgt b32 b)) fun j hj=>by simp only[mst,if_pos hj]
   have ht:=trim_any A1 _ c1 _ wr hrd (fun i _=>dif_lt ..) hnc (by omega);rw[HN.out] at ht;go_wp2_with fail
   refine ht.mono ?_
   rintro e w2 ⟨rfl,rfl,hnum,hlc⟩
   go_wp2
   go_ret
   exact⟨A1,c1,rfl,hlc,hnum,hbel⟩
end
section
open Go.RowKit

def toI (s:Bool)(x:Nat):Int:=if s then-(x:Int) else x
theorem toI_abs (s:Bool)(x:Nat):(toI s x).natAbs=x:=by unfold toI;split<;>omega
theorem toI_neg (s:Bool)(x:Nat):decide (toI s x<0)=(s&&decide (0<x)):=by
 cases s
 ·simp[toI]
 ·simp[toI]
theorem toI_int (z:Int):toI (decide (z<0)) z.natAbs=z:=by
 unfold toI
 by_cases h:z<0
 ·rw[if_pos (decide_eq_true h)];omega
 ·rw[if_neg (by simpa using h)];omega
theorem store_whole {w w1:World}{B R:Nat}{s:Bool}{v:Value}(h:WholeAt w1 R s v)(hb:Below B w w1)(hR:B<=R)(s':Bool)(v':Value):
  WholeAt ((w1.setCell ⟨R,0,none⟩ (.bool s')).setCell ⟨R,1,none⟩ v') R s' v'/\Below B w ((w1.setCell ⟨R,0,none⟩ (.bool s')).setCell ⟨R,1,none⟩ v'):=
 ⟨h.set s' v',(hb.setCell (p:=⟨R,0,none⟩) hR _).setCell (p:=⟨R,1,none⟩) hR _⟩
theorem store_own {w1:World}{R base n c:Nat}{A:Option Addr}{f:Nat->Nat}(h:Own16 base w1 A n c f)(hR:R<base)(s':Bool)(v':Value):
  Own16 base ((w1.setCell ⟨R,0,none⟩ (.bool s')).setCell ⟨R,1,none⟩ v') A n c f:=
 ownsRow_setCell_below (ownsRow_setCell_below h (a:=⟨R,0,none⟩) hR _) (a:=⟨R,1,none⟩) hR _
def RI (w:World)(z:Int)(e:Ending)(w':World):Prop:=
 (ln b16 z.natAbs<=1024/\∃A c,e= .returned (.tuple #[.agg #[.bool (decide (z<0)),.slice A (ln b16 z.natAbs) c],.int .i64 0])/\Own16 w.heap.size w' A (ln b16 z.natAbs) c (dgt b16 z.natAbs)/\Below w.heap.size w w')\/
 (1024<ln b16 z.natAbs/\e= .returned (.tuple #[.agg #[.bool false,.slice none 0 0],.int .i64 3])/\Below w.heap.size w w')
theorem result_any (s:Bool)(A:Option Addr)(c x:Nat)(w:World)(h:Num32 w A x)(hc:ln b32 x<=c)(hn:ln b32 x<=1000000):
  Calls Tryz.prog 157 #[.bool s,.slice A (ln b32 x) c] w (RI w (toI s x)):=by
 have hl16:ln b16 x<=2000000:=by have:=ln32_two x;omega
 go_enter Tryz.func157,Tryz.ntmps157
 go_wp2_with fail
 have hR0:=WholeAt.new w false (.slice none 0 0);have hb0:Below w.heap.size w (w.alloc (.cells #[.bool false,.slice none 0 0] 27)):=(Below.refl _ w).alloc (Nat.le_refl _) _;refine(unpack_any s A c x _ (Num32.below h hb0) hc hn).mono ?_
 rintro e w1 ⟨B,d,rfl,hown,hb1⟩
 have hR1:=hR0.below hb1 hR0.lt;have hbl1:=hb0.trans (hb1.mono hb0.size);obtain⟨r0,r1⟩:=hR1.cells;have g0:=hR1.frozen 0;have g1:=hR1.frozen 1;have hlt:=hR1.lt
 by_cases hl:1024<ln b16 x
 ·
  have t1:(1024:Int)<(ln b16 x:Int):=by omega
  go_wp2_with fail
  obtain⟨hW,hbW⟩:=store_whole hR1 hbl1 (Nat.le_refl _) false (.slice none 0 0)
  generalize ((w1.setCell ⟨w.heap.size,0,none⟩ (.bool false)).setCell ⟨w.heap.size,1,none⟩ (.slice none 0 0))=WW at*
  have hW2:WholeAt (WW.alloc (.cells #[.bool (s&&decide (0<x)),.slice B (ln b16 x) d] 27)) w.heap.size false (.slice none 0 0):=(Below.heap_alloc _ _ _ hW.lt).trans hW;obtain⟨k0,k1⟩:=hW2.cells;refine bodyPost_ret (v:= .tuple #[.agg #[.bool false,.slice none 0 0],.int .i64 3]) (by simp[results,Tryz.results157,go_sem,k0,k1]) rfl ?_;exact .inr ⟨by rw[toI_abs];exact hl,rfl,hbW.alloc hbW.size _⟩
 ·
  have t1:¬((1024:Int)<(ln b16 x:Int)):=by omega
  go_wp2_with fail
  obtain⟨hW,hbW⟩:=store_whole hR1 hbl1 (Nat.le_refl _) (s&&decide (0<x)) (.slice B (ln b16 x) d);have hO:=(store_own (R:=w.heap.size) hown (by simp) (s&&decide (0<x)) (.slice B (ln b16 x) d)).lower (base':=w.heap.size) (by simp)
  generalize ((w1.setCell ⟨w.heap.size,0,none⟩ (.bool (s&&decide (0<x)))).setCell ⟨w.heap.size,1,none⟩ (.slice B (ln b16 x) d))=WW at*
  have hW2:WholeAt (WW.alloc (.cells #[.bool (s&&decide (0<x)),.slice B (ln b16 x) d] 27)) w.heap.size (s&&decide (0<x)) (.slice B (ln b16 x) d):=(Below.heap_alloc _ _ _ hW.lt).trans hW;obtain⟨k0,k1⟩:=hW2.cells;refine bodyPost_ret (v:= .tuple #[.agg #[.bool (s&&decide (0<x)),.slice B (ln b16 x) d],.int .i64 0]) (by simp[results,Tryz.results157,go_sem,k0,k1]) rfl ?_;refine .inl ⟨by rw[toI_abs];omega,B,d,by rw[toI_abs,toI_neg],by rw[toI_abs];exact hO.alloc _,hbW.alloc hbW.size _⟩
end
section
open Go.RowKit

def eqU (f h:Nat->Nat):Nat->Bool
 |0=>true
 |n+1=>eqU f h n&&(f n==h n)
theorem eqU_false {f h:Nat->Nat}{k n:Nat}(hk:k<n)(he:f k≠h k):eqU f h n=false:=by
 induction n with
 |zero=>omega
 |succ n ih=>
  simp only[eqU]
  by_cases e:k=n
  ·subst e;rw[beq_false_of_ne he,Bool.and_false]
  ·rw[ih (by omega),Bool.false_and]
theorem eqU_step {f h:Nat->Nat}{k:Nat}(hk:eqU f h k=true)(he:f k=h k):eqU f h (k+1)=true:=by
 simp only[eqU];rw[hk,he];simp
def eqL (n m:Nat)(f h:Nat->Nat):Bool:=(n==m)&&eqU f h n

theorem equal16_any (A B:Option Addr)(n m c d:Nat)(f h:Nat->Nat)(w:World)(hA:Rd w.heap.size .u16 w A n f)(hB:Rd w.heap.size .u16 w B m h)
  (hn:n<=1000000) (hm:m<=1000000):
  Calls Tryz.prog 185 #[.slice A n c,.slice B m d] w fun e w'=>e= .returned (.bool (eqL n m f h))/\∃q,w'=w.drewN q:=by
 go_enter Tryz.func185,Tryz.ntmps185
 by_cases hl:n=m
 ·
  subst hl
  have t0:((n:Int) !=(n:Int))=false:=by simp
  go_wp2_with fail
  go_loopw [13] (fun i wr=>∃k:Nat,k<=n/\i= .int .i64 (k:Int)/\eqU f h k=true/\∃q,wr=w.drewN q) (fun i _=>n-(intOf i).toNat)
  case atStart=>exact⟨0,Nat.zero_le _,rfl,rfl,0,rfl⟩
  case round=>
   obtain⟨k,hk,rfl,hok,q,rfl⟩:=hrel;have HOK:=Lib.hid hok;clear hok
   by_cases hlt:k<n
   ·
    obtain⟨pa,qa,rfl,hpa,hca⟩:=hA (by omega);obtain⟨pb,qb,rfl,hpb,hcb⟩:=hB (by omega);have c1:=hca k hlt;have c2:=hcb k hlt;clear hca hcb
    by_cases he:f k=h k
    ·
     have t1:(((f k:Nat):Int) !=((h k:Nat):Int))=false:=by rw[he];simp
     have HE:=Lib.hid he;clear he;go_wp2_with fail
     go_quiet (fail)
     go_wp2
     go_roundw
     case rel=>exact⟨k+1,by omega,by go_num,eqU_step HOK.out HE.out,q+nq,rfl⟩
     case measure=>simp[intOf];omega
    ·
     have t1:(((f k:Nat):Int) !=((h k:Nat):Int))=true:=bne_iff_ne.2 (by omega)
     have hfin:eqL n n f h=false:=by unfold eqL;rw[eqU_false hlt he,Bool.and_false]
     have HF:=Lib.hid hfin;clear hfin he;go_wp2_with fail
     go_quiet (fail)
     go_wp2
     go_ret
     exact⟨ret_bool HF.out.symm,q+nq,World.drewN_drewN ..⟩
   ·
    obtain rfl:k=n:=by omega
    have hfin:eqL k k f h=true:=by unfold eqL;rw[HOK.out];simp
    have HF:=Lib.hid hfin;clear hfin;go_wp2_with fail
    go_ret
    exact⟨ret_bool HF.out.symm,q,rfl⟩
 ·
  have t0:((n:Int) !=(m:Int))=true:=bne_iff_ne.2 (by omega)
  have hfin:eqL n m f h=false:=by unfold eqL;rw[beq_false_of_ne hl,Bool.false_and]
  have HF:=Lib.hid hfin;clear hfin;go_wp2_with fail
  go_ret
  exact⟨ret_bool HF.out.symm,0,rfl⟩

def sameW (s t:Bool)(n m:Nat)(f h:Nat->Nat):Bool:=(s==t)&&eqL n m f h
theorem same_any (s t:Bool)(A B:Option Addr)(n m c d:Nat)(f h:Nat->Nat)(w:World)(hA:Rd w.heap.size .u16 w A n f)(hB:Rd w.heap.size .u16 w B m h)(hn:n<=1000000)(hm:m<=1000000):
  Calls Tryz.prog 172 #[.agg #[.bool s,.slice A n c],.agg #[.bool t,.slice B m d]] w fun e w'=>e= .returned (.bool (sameW s t n m f h))/\Below w.heap.size w w':=by
 have b1:Below w.heap.size w (w.alloc (.cells #[.bool s,.slice A n c] 27)):=(Below.refl _ w).alloc (Nat.le_refl _) _;have b2:=b1.alloc b1.size (.cells #[.bool t,.slice B m d] 27)
 go_enter Tryz.func172,Tryz.ntmps172
 by_cases hst:s=t
 ·
  subst hst
  have t0:(s==s)=true:=by simp
  go_wp2_with fail
  refine(equal16_any A B n m c d f h _ ((hA.below b2).more b2.size) ((hB.below b2).more b2.size) hn hm).mono ?_
  rintro e w3 ⟨rfl,q,rfl⟩
  go_wp2_with fail
  go_ret
  exact⟨ret_bool (by simp[sameW]),belowN b2 q⟩
 ·
  have t0:(s==t)=false:=by simp[hst]
  have hfin:sameW s t n m f h=false:=by unfold sameW;rw[t0,Bool.false_and]
  have HF:=Lib.hid hfin;clear hfin;go_wp2_with fail
  go_ret
  exact⟨ret_bool HF.out.symm,b2⟩
end
section
open Go.RowKit

def lenV :Value->Nat
 | .slice _ n _=>n
 |_=>0
theorem nums_succ (k:IntKind)(m:Nat)(f:Nat->Nat):nums k m f++ [.int k (f m:Int)]=nums k (m+1) f:=by simp[nums,List.range_succ]
theorem WholeAt.alloc' {w:World}{g:Nat}{s:Bool}{v:Value}(h:WholeAt w g s v)(o:Obj):WholeAt (w.alloc o) g s v:=(Below.heap_alloc _ _ _ h.lt).trans h
theorem WholeAt.grown {w w':World}{g:Nat}{s:Bool}{v:Value}{row:Option Nat}(h:WholeAt w g s v)(hg:w.grownBy w' row)(hne:some g≠row):WholeAt w' g s v:=(hg.block g h.lt hne).trans h
theorem own_not {w:World}{base t size n:Nat}{v:Value}{xs:List Value}(h:w.ownsRow base t size v n xs){g:Nat}(hg:g<base):some g≠v.ownBlock:=fun e=>by
 have:=(h.lt g e.symm).1;omega
theorem own_below {base B t size n:Nat}{w w':World}{v:Value}{xs:List Value}(h:w.ownsRow base t size v n xs)(hb:Below B w w')(hB:w.heap.size<=B):w'.ownsRow base t size v n xs:=by
 obtain⟨h1,h2⟩:=h;refine⟨h1, ?_⟩
 rcases h2 with h2|⟨g,cap,cur,hv,hg,hh,r⟩
 ·exact .inl h2
 ·
  have hlt:=heap_lt hh;exact .inr ⟨g,cap,cur,hv,hg,(hb.block g (by omega)).trans hh,r⟩
end
section
open Go.RowKit

def RIv (base:Nat)(w':World)(z:Int)(s:Bool)(A:Option Addr)(n c:Nat)(k:Int):Prop:=
 (ln b16 z.natAbs<=1024/\s=decide (z<0)/\n=ln b16 z.natAbs/\k=0/\Own16 base w' A n c (dgt b16 z.natAbs))\/
 (1024<ln b16 z.natAbs/\s=false/\A=none/\n=0/\c=0/\k=3)
theorem RI.vals {w w':World}{z:Int}{e:Ending}(h:RI w z e w'):∃s A n c k,e= .returned (.tuple #[.agg #[.bool s,.slice A n c],.int .i64 k])/\RIv w.heap.size w' z s A n c k/\Below w.heap.size w w':=by
 rcases h with⟨h1,A,c,he,ho,hb⟩|⟨h1,he,hb⟩
 ·exact⟨_,_,_,_,_,he,.inl ⟨h1,rfl,rfl,rfl,ho⟩,hb⟩
 ·exact⟨_,_,_,_,_,he,.inr ⟨h1,rfl,rfl,rfl,rfl,rfl⟩,hb⟩
theorem RIv.ri {w w':World}{z:Int}{s:Bool}{A:Option Addr}{n c:Nat}{k:Int}(h:RIv w.heap.size w' z s A n c k)(hb:Below w.heap.size w w'):RI w z (.returned (.tuple #[.agg #[.bool s,.slice A n c],.int .i64 k])) w':=by
 rcases h with⟨h1,rfl,rfl,rfl,ho⟩|⟨h1,rfl,rfl,rfl,rfl,rfl⟩
 ·exact .inl ⟨h1,A,c,rfl,ho,hb⟩
 ·exact .inr ⟨h1,rfl,hb⟩
theorem RIv.store {base R:Nat}{w':World}{z:Int}{s:Bool}{A:Option Addr}{n c:Nat}{k:Int}(h:RIv base w' z s A n c k)(hR:R<base)(s':Bool)(v':Value):RIv base ((w'.setCell ⟨R,0,none⟩ (.bool s')).setCell ⟨R,1,none⟩ v') z s A n c k:=by
 rcases h with⟨h1,e1,e2,e3,ho⟩|h
 ·exact .inl ⟨h1,e1,e2,e3,store_own ho hR s' v'⟩
 ·exact .inr h
theorem RIv.lower {base base':Nat}{w':World}{z:Int}{s:Bool}{A:Option Addr}{n c:Nat}{k:Int}(h:RIv base w' z s A n c k)(hb:base'<=base):RIv base' w' z s A n c k:=by
 rcases h with⟨h1,e1,e2,e3,ho⟩|h
 ·exact .inl ⟨h1,e1,e2,e3,ho.lower hb⟩
 ·exact .inr h
theorem ln_add {B x y m:Nat}(hB:2<=B)(hx:ln B x<=m)(hy:ln B y<=m):ln B (x+y)<=m+1:=by
 have h1:=(ln_le hB).1 hx;have h2:=(ln_le hB).1 hy;refine(ln_le hB).2 ?_;have h3:B^m*2<=B^m*B:=Nat.mul_le_mul_left _ hB;rw[Nat.pow_succ];omega
theorem toI_same {s:Bool}{x y:Nat}:toI s (x+y)=toI s x+toI s y:=by cases s<;>simp[toI]<;>omega
theorem toI_diff {s t:Bool}{x y:Nat}(h:s≠t)(hyx:y<=x):toI s (x-y)=toI s x+toI t y:=by
 cases s<;>cases t<;>simp_all [toI]<;>omega
theorem cmp_ge {a b:Nat}:0<=cmpI a b↔b<=a:=by
 unfold cmpI;split<;>(try split)<;>omega
theorem sum_any (s t:Bool)(A B:Option Addr)(c d x y:Nat)(w:World)(hx:Num32 w A x)(hy:Num32 w B y)(hn:ln b32 x<=900000)(hm:ln b32 y<=900000):
  Calls Tryz.prog 171 #[.bool s,.slice A (ln b32 x) c,.bool t,.slice B (ln b32 y) d] w (RI w (toI s x+toI t y)):=by
 have hR0:=WholeAt.new w false (.slice none 0 0);have hb0:Below w.heap.size w (w.alloc (.cells #[.bool false,.slice none 0 0] 27)):=(Below.refl _ w).alloc (Nat.le_refl _) _;have hx0:=Num32.below hx hb0;have hy0:=Num32.below hy hb0;have hxy:ln b32 (x+y)<=900000+1:=ln_add b32_two hn hm
 go_enter Tryz.func171,Tryz.ntmps171
 by_cases hst:s=t
 ·
  subst hst;rw[<-toI_same];go_wp2_with fail
  refine(plus_any A B c d x y _ hx0 hy0 (by omega) (by omega)).mono ?_
  rintro e w1 ⟨C,cc,rfl,hcc,hnum,hb1⟩
  go_wp2_with fail
  refine(result_any s C cc (x+y) w1 hnum hcc (by omega)).mono ?_
  rintro e w2 hri
  obtain⟨s',A',n',c',k,rfl,hv,hb2⟩:=hri.vals;have hR2:=(hR0.below hb1 hR0.lt).below hb2 (Nat.lt_of_lt_of_le hR0.lt hb1.size);have hbl2:=(hb0.trans (hb1.mono hb0.size)).trans (hb2.mono (Nat.le_trans hb0.size hb1.size));have hlt:=Nat.lt_of_lt_of_le hR0.lt hb1.size;obtain⟨r0,r1⟩:=hR2.cells;have g0:=hR2.frozen 0;have g1:=hR2.frozen 1;obtain⟨hW,hbW⟩:=store_whole hR2 hbl2 (Nat.le_refl _) s' (.slice A' n' c');have hv2:=(hv.store hlt s' (.slice A' n' c')).lower (Nat.le_of_lt hlt);have HW:=Lib.hid hW;have HV:=Lib.hid hv2;clear hv hv2 hW hri;go_wp2_with fail
  have hW:=HW.out;have hv2:=HV.out;clear HW HV hR2 r0 r1
  generalize ((w2.setCell ⟨w.heap.size,0,none⟩ (.bool s')).setCell ⟨w.heap.size,1,none⟩ (.slice A' n' c'))=WW at*
  obtain⟨k0,k1⟩:=hW.cells;refine bodyPost_ret (v:= .tuple #[.agg #[.bool s',.slice A' n' c'],.int .i64 k]) (by simp[results,Tryz.results171,go_sem,k0,k1]) rfl ?_;exact hv2.ri hbW
 ·
  have t1:(s==t)=false:=by simp[hst]
  go_wp2_with fail
  refine(compare_any A B c d x y _ hx0 hy0 (by omega)).mono ?_
  rintro e w1 ⟨rfl,n,rfl⟩
  have hbn:=belowN (Below.refl (w.alloc (.cells #[.bool false,.slice none 0 0] 27)).heap.size (w.alloc (.cells #[.bool false,.slice none 0 0] 27))) n
  by_cases hle:y<=x
  ·
   have h1:=cmp_ge.2 hle;go_wp2_with fail
   refine(minus_any A B c d x y _ (Num32.below hx0 hbn) (Num32.below hy0 hbn) hle (by omega)).mono ?_
   rintro e w1 ⟨C,cc,rfl,hcc,hnum,hb1'⟩
   have hb1:=hbn.trans hb1';go_wp2_with fail
   refine(result_any s C cc (x-y) w1 hnum hcc (Nat.le_trans (ln_mono b32_two (Nat.sub_le x y)) (by omega))).mono ?_
   rintro e w2 hri
   obtain⟨s',A',n',c',k,rfl,hv,hb2⟩:=hri.vals;have hR2:=(hR0.below hb1 hR0.lt).below hb2 (Nat.lt_of_lt_of_le hR0.lt hb1.size);have hbl2:=(hb0.trans (hb1.mono hb0.size)).trans (hb2.mono (Nat.le_trans hb0.size hb1.size));have hlt:=Nat.lt_of_lt_of_le hR0.lt hb1.size;obtain⟨r0,r1⟩:=hR2.cells;have g0:=hR2.frozen 0;have g1:=hR2.frozen 1;obtain⟨hW,hbW⟩:=store_whole hR2 hbl2 (Nat.le_refl _) s' (.slice A' n' c');have hv2:=(hv.store hlt s' (.slice A' n' c')).lower (Nat.le_of_lt hlt);have HW:=Lib.hid hW;have HV:=Lib.hid hv2;clear hv hv2 hW hri;go_wp2_with fail
   have hW:=HW.out;have hv2:=HV.out;clear HW HV hR2 r0 r1
   generalize ((w2.setCell ⟨w.heap.size,0,none⟩ (.bool s')).setCell ⟨w.heap.size,1,none⟩ (.slice A' n' c'))=WW at*
   obtain⟨k0,k1⟩:=hW.cells;refine bodyPost_ret (v:= .tuple #[.agg #[.bool s',.slice A' n' c'],.int .i64 k]) (by simp[results,Tryz.results171,go_sem,k0,k1]) rfl ?_;rw[toI_diff hst hle] at hv2;exact hv2.ri hbW
  ·
   have h1:¬(0<=cmpI x y):=fun h=>hle (cmp_ge.1 h)
   go_wp2_with fail
   refine(minus_any B A d c y x _ (Num32.below hy0 hbn) (Num32.below hx0 hbn) (by omega) (by omega)).mono ?_
   rintro e w1 ⟨C,cc,rfl,hcc,hnum,hb1'⟩
   have hb1:=hbn.trans hb1';go_wp2_with fail
   refine(result_any t C cc (y-x) w1 hnum hcc (Nat.le_trans (ln_mono b32_two (Nat.sub_le y x)) (by omega))).mono ?_
   rintro e w2 hri
   obtain⟨s',A',n',c',k,rfl,hv,hb2⟩:=hri.vals;have hR2:=(hR0.below hb1 hR0.lt).below hb2 (Nat.lt_of_lt_of_le hR0.lt hb1.size);have hbl2:=(hb0.trans (hb1.mono hb0.size)).trans (hb2.mono (Nat.le_trans hb0.size hb1.size));have hlt:=Nat.lt_of_lt_of_le hR0.lt hb1.size;obtain⟨r0,r1⟩:=hR2.cells;have g0:=hR2.frozen 0;have g1:=hR2.frozen 1;obtain⟨hW,hbW⟩:=store_whole hR2 hbl2 (Nat.le_refl _) s' (.slice A' n' c');have hv2:=(hv.store hlt s' (.slice A' n' c')).lower (Nat.le_of_lt hlt);have HW:=Lib.hid hW;have HV:=Lib.hid hv2;clear hv hv2 hW hri;go_wp2_with fail
   have hW:=HW.out;have hv2:=HV.out;clear HW HV hR2 r0 r1
   generalize ((w2.setCell ⟨w.heap.size,0,none⟩ (.bool s')).setCell ⟨w.heap.size,1,none⟩ (.slice A' n' c'))=WW at*
   obtain⟨k0,k1⟩:=hW.cells;refine bodyPost_ret (v:= .tuple #[.agg #[.bool s',.slice A' n' c'],.int .i64 k]) (by simp[results,Tryz.results171,go_sem,k0,k1]) rfl ?_;rw[toI_diff (Ne.symm hst) (show x<=y by omega),Int.add_comm] at hv2;exact hv2.ri hbW
end
section
open Go.RowKit

theorem mlo_sum (d:Nat)(v:Nat->Nat)(n:Nat):vs b32 (mlo d v) n+b32^n*mcr d v n=d*vs b32 v n:=by
 induction n with
 |zero=>simp[vs,mcr]
 |succ n ih=>
  have h:=carry_step (t:=d*v n) ih (show mlo d v n=(d*v n+mcr d v n)%b32 by rfl);rw[vs_succ b32 v,Nat.mul_add,Nat.mul_left_comm d];exact h
theorem mlo_total {d x n:Nat}(hd:d<4294967296)(hn:ln b32 x<n):vs b32 (mlo d (dgt b32 x)) n=d*x:=by
 have h1:=mlo_sum d (dgt b32 x) n;have hx:x<b32^n:=(ln_le b32_two).1 (by omega);rw[vs_dgt_lt hx] at h1
 have h2:d*x<b32^n:=by
  obtain⟨m,rfl⟩:∃m,n=m+1:=⟨n-1,by omega⟩
  have h3:x<b32^m:=(ln_le b32_two).1 (by omega);rw[Nat.pow_succ,Nat.mul_comm (b32^m)];exact Nat.mul_lt_mul_of_lt_of_le hd (Nat.le_of_lt h3) (Nat.pow_pos (by decide))
 rcases Nat.eq_zero_or_pos (mcr d (dgt b32 x) n) with h0|h0
 ·rw[h0,Nat.mul_zero,Nat.add_zero] at h1;exact h1
 ·
  have h4:b32^n*1<=b32^n*mcr d (dgt b32 x) n:=Nat.mul_le_mul_left _ h0;omega
theorem diff_total {u v a b n:Nat}(hu:u<4294967296)(hv:v<4294967296)(ha:ln b32 a<n)(hb:ln b32 b<n)(h:v*b<=u*a):vs b32 (dif (mlo u (dgt b32 a)) (mlo v (dgt b32 b))) n=u*a-v*b:=by
 have h1:=dif_sum (f:=mlo u (dgt b32 a)) (g:=mlo v (dgt b32 b)) (fun i=>mlo_lt ..) (fun i=>mlo_lt ..) n;rw[mlo_total hu ha,mlo_total hv hb] at h1
 have h2:vs b32 (dif (mlo u (dgt b32 a)) (mlo v (dgt b32 b))) n<b32^n:=vs_lt fun j _=>dif_lt ..
 have h3:vs b32 (mlo u (dgt b32 a)) n<b32^n:=vs_lt fun j _=>mlo_lt ..
 rw[mlo_total hu ha] at h3
 rcases bit_cases (brw_le (mlo u (dgt b32 a)) (mlo v (dgt b32 b)) n) with e|e
 ·rw[e] at h1;omega
 ·rw[e] at h1;omega
theorem mcr_nul {d k:Nat}{v:Nat->Nat}(h:v k=0)(hc:mcr d v k<4294967296):mlo d v k=mcr d v k/\mcr d v (k+1)=0:=by
 rw[mlo,mcr,h,Nat.mul_zero,Nat.zero_add];exact⟨Nat.mod_eq_of_lt hc,Nat.div_eq_of_lt hc⟩

def dst (f g:Nat->Nat)(k j:Nat):Nat:=if j<k then dif f g j else 0

theorem difference_any (A B:Option Addr)(c d u v a b:Nat)(w:World)(ha:Num32 w A a)(hb:Num32 w B b)(hu:u<4294967296)(hv:v<4294967296)(hab:v*b<=u*a)(hn:ln b32 a<=1000000)(hm:ln b32 b<=1000000):
  Calls Tryz.prog 189 #[.int .u64 (u:Int),.slice A (ln b32 a) c,.int .u64 (v:Int),.slice B (ln b32 b) d] w (W32 w (u*a-v*b)):=by
 obtain⟨N,hN⟩:∃N,N=max (ln b32 a) (ln b32 b):=⟨_,rfl⟩
 have hNa:ln b32 a<=N:=by omega
 have hNb:ln b32 b<=N:=by omega
 have hN1:N<=1000000:=by omega
 have htot:=diff_total hu hv (show ln b32 a<N+1 by omega) (show ln b32 b<N+1 by omega) hab;have HT0:=Lib.hid htot;have hmk:=mk32 (N+1) (N+1) (Nat.le_refl _) (by omega)
 have hmax:∀(w:World) (ts:Array TypeId) (t:TypeId),(Builtin.max_ ts t #[.int .i64 (ln b32 a:Int),.int .i64 (ln b32 b:Int)]).run Tryz.prog w= .ok (.int .i64 (N:Int)) w:=by
  intro w ts t;rw[run_max_int2]
  congr 2
  split<;>omega
 rw[show((N+1:Nat):Int)=(N:Int)+1 by omega] at hmk;clear htot hN
 go_enter Tryz.func189,Tryz.ntmps189
 go_wp2_with fail
 clear hmk hmax
 go_loopw [10,11,12,23] (fun x y bo i wr=>∃k:Nat,k<=N+1/\i= .int .i64 k/\x= .int .u64 (mcr u (dgt b32 a) k:Nat)/\y= .int .u64 (mcr v (dgt b32 b) k:Nat)/\bo= .int .u32 (brw (mlo u (dgt b32 a)) (mlo v (dgt b32 b)) k:Nat)/\
   Row wr w.heap.size 171 .u32 (N+1) (N+1) (dst (mlo u (dgt b32 a)) (mlo v (dgt b32 b)) k)/\Below w.heap.size w wr) (fun _ _ _ i _=>N+1-(intOf i).toNat)
 case atStart=>exact⟨0,Nat.zero_le _,rfl,rfl,rfl,rfl,Row.made.congr fun j _=>by simp[dst],(Below.refl _ _).alloc (Nat.le_refl _) _⟩
 case round=>
  obtain⟨k,hk,rfl,rfl,rfl,rfl,hrow,hbel⟩:=hrel;have hbr:=brw_le (mlo u (dgt b32 a)) (mlo v (dgt b32 b)) k;have m1:=mcr_lt hu (fun i=>dgt32_lt a i) k;have m2:=mcr_lt hv (fun i=>dgt32_lt b i) k
  by_cases hlt:k<N+1
  ·
   have w1:=hrow.cell (i:=k) (by omega);have w2:=hrow.frozen k
   have hset:=fun(p:Int) (hp:p=((subD (mlo u (dgt b32 a) k) (mlo v (dgt b32 b) k) (brw (mlo u (dgt b32 a)) (mlo v (dgt b32 b)) k):Nat):Int))=>hrow.setI (i:=k) (x:=p) (f':=dst (mlo u (dgt b32 a)) (mlo v (dgt b32 b)) (k+1)) (by rw[hp];simp[dst,dif]) fun j _ hj=>by simp only[dst,show j<k+1↔j<k by omega]
   have HSET:=Lib.hid hset;clear hset
   by_cases hak:k<ln b32 a
   ·
    by_cases hbk:k<ln b32 b
    ·
     have ad:=dgt32_lt a k;obtain⟨pa,qa,rfl,hpa,hca⟩:=ha (by omega);have ac:=(hbel.cell (p:=⟨pa,qa+k,none⟩) hpa).trans (hca k hak);have ap:=mul_digit hu ad
     have aI:(u:Int)*(dgt b32 a k:Nat)<=18446744065119617025:=by rw[<-Int.natCast_mul];omega
     have a0:0<=(u:Int)*(dgt b32 a k:Nat):=by rw[<-Int.natCast_mul];omega
     have ae1:(((mcr u (dgt b32 a) k:Nat):Int)+(u:Int)*(dgt b32 a k:Nat))%4294967296=((mlo u (dgt b32 a) k:Nat):Int):=by rw[Int.add_comm];exact mlo_int ..
     have ae2:(((mcr u (dgt b32 a) k:Nat):Int)+(u:Int)*(dgt b32 a k:Nat))/4294967296=((mcr u (dgt b32 a) (k+1):Nat):Int):=by rw[Int.add_comm];exact mcr_int ..
     have AE1:=Lib.hid ae1;have AE2:=Lib.hid ae2;clear ap ae1 ae2;have bd:=dgt32_lt b k;obtain⟨pb,qb,rfl,hpb,hcb⟩:=hb (by omega);have bc:=(hbel.cell (p:=⟨pb,qb+k,none⟩) hpb).trans (hcb k hbk);have bp:=mul_digit hv bd
     have bI:(v:Int)*(dgt b32 b k:Nat)<=18446744065119617025:=by rw[<-Int.natCast_mul];omega
     have b0:0<=(v:Int)*(dgt b32 b k:Nat):=by rw[<-Int.natCast_mul];omega
     have be1:(((mcr v (dgt b32 b) k:Nat):Int)+(v:Int)*(dgt b32 b k:Nat))%4294967296=((mlo v (dgt b32 b) k:Nat):Int):=by rw[Int.add_comm];exact mlo_int ..
     have be2:(((mcr v (dgt b32 b) k:Nat):Int)+(v:Int)*(dgt b32 b k:Nat))/4294967296=((mcr v (dgt b32 b) (k+1):Nat):Int):=by rw[Int.add_comm];exact mcr_int ..
     have BE1:=Lib.hid be1;have BE2:=Lib.hid be2;clear bp be1 be2;go_wp2_with fail
     refine(sub32_int (Z:=brw (mlo u (dgt b32 a)) (mlo v (dgt b32 b)) k) AE1.out BE1.out rfl (mlo_lt ..) (mlo_lt ..) hbr _).mono ?_
     rintro e w3 ⟨rfl,rfl⟩
     go_wp2_with fail
     go_roundw
     case rel=>exact⟨k+1,by omega,by go_num,(congrArg (Value.int .u64) AE2.out),(congrArg (Value.int .u64) BE2.out),rfl,HSET.out _ rfl,hbel.setCell (Nat.le_refl _) _⟩
     case measure=>simp[intOf];omega
    ·
     have ad:=dgt32_lt a k;obtain⟨pa,qa,rfl,hpa,hca⟩:=ha (by omega);have ac:=(hbel.cell (p:=⟨pa,qa+k,none⟩) hpa).trans (hca k hak);have ap:=mul_digit hu ad
     have aI:(u:Int)*(dgt b32 a k:Nat)<=18446744065119617025:=by rw[<-Int.natCast_mul];omega
     have a0:0<=(u:Int)*(dgt b32 a k:Nat):=by rw[<-Int.natCast_mul];omega
     have ae1:(((mcr u (dgt b32 a) k:Nat):Int)+(u:Int)*(dgt b32 a k:Nat))%4294967296=((mlo u (dgt b32 a) k:Nat):Int):=by rw[Int.add_comm];exact mlo_int ..
     have ae2:(((mcr u (dgt b32 a) k:Nat):Int)+(u:Int)*(dgt b32 a k:Nat))/4294967296=((mcr u (dgt b32 a) (k+1):Nat):Int):=by rw[Int.add_comm];exact mcr_int ..
     have AE1:=Lib.hid ae1;have AE2:=Lib.hid ae2;clear ap ae1 ae2;obtain⟨be1,be2⟩:=mcr_nul (d:=v) (v:=dgt b32 b) (dgt_of_lt ((ln_le b32_two).1 (show ln b32 b<=k by omega))) m2;have BE1:=Lib.hid be1;have BE2:=Lib.hid be2;clear be1 be2;go_wp2_with fail
     refine(sub32_int (Z:=brw (mlo u (dgt b32 a)) (mlo v (dgt b32 b)) k) AE1.out (by rw[BE1.out]) rfl (mlo_lt ..) (mlo_lt ..) hbr _).mono ?_
     rintro e w3 ⟨rfl,rfl⟩
     go_wp2_with fail
     go_roundw
     case rel=>exact⟨k+1,by omega,by go_num,(congrArg (Value.int .u64) AE2.out),(congrArg (Value.int .u64) (by rw[BE2.out];omega)),rfl,HSET.out _ rfl,hbel.setCell (Nat.le_refl _) _⟩
     case measure=>simp[intOf];omega
   ·
    by_cases hbk:k<ln b32 b
    ·
     obtain⟨ae1,ae2⟩:=mcr_nul (d:=u) (v:=dgt b32 a) (dgt_of_lt ((ln_le b32_two).1 (show ln b32 a<=k by omega))) m1;have AE1:=Lib.hid ae1;have AE2:=Lib.hid ae2;clear ae1 ae2;have bd:=dgt32_lt b k;obtain⟨pb,qb,rfl,hpb,hcb⟩:=hb (by omega);have bc:=(hbel.cell (p:=⟨pb,qb+k,none⟩) hpb).trans (hcb k hbk);have bp:=mul_digit hv bd
     have bI:(v:Int)*(dgt b32 b k:Nat)<=18446744065119617025:=by rw[<-Int.natCast_mul];omega
     have b0:0<=(v:Int)*(dgt b32 b k:Nat):=by rw[<-Int.natCast_mul];omega
     have be1:(((mcr v (dgt b32 b) k:Nat):Int)+(v:Int)*(dgt b32 b k:Nat))%4294967296=((mlo v (dgt b32 b) k:Nat):Int):=by rw[Int.add_comm];exact mlo_int ..
     have be2:(((mcr v (dgt b32 b) k:Nat):Int)+(v:Int)*(dgt b32 b k:Nat))/4294967296=((mcr v (dgt b32 b) (k+1):Nat):Int):=by rw[Int.add_comm];exact mcr_int ..
     have BE1:=Lib.hid be1;have BE2:=Lib.hid be2;clear bp be1 be2;go_wp2_with fail
     refine(sub32_int (Z:=brw (mlo u (dgt b32 a)) (mlo v (dgt b32 b)) k) (by rw[AE1.out]) BE1.out rfl (mlo_lt ..) (mlo_lt ..) hbr _).mono ?_
     rintro e w3 ⟨rfl,rfl⟩
     go_wp2_with fail
     go_roundw
     case rel=>exact⟨k+1,by omega,by go_num,(congrArg (Value.int .u64) (by rw[AE2.out];omega)),(congrArg (Value.int .u64) BE2.out),rfl,HSET.out _ rfl,hbel.setCell (Nat.le_refl _) _⟩
     case measure=>simp[intOf];omega
    ·
     obtain⟨ae1,ae2⟩:=mcr_nul (d:=u) (v:=dgt b32 a) (dgt_of_lt ((ln_le b32_two).1 (show ln b32 a<=k by omega))) m1;have AE1:=Lib.hid ae1;have AE2:=Lib.hid ae2;clear ae1 ae2;obtain⟨be1,be2⟩:=mcr_nul (d:=v) (v:=dgt b32 b) (dgt_of_lt ((ln_le b32_two).1 (show ln b32 b<=k by omega))) m2;have BE1:=Lib.hid be1;have BE2:=Lib.hid be2;clear be1 be2;go_wp2_with fail
     refine(sub32_int (Z:=brw (mlo u (dgt b32 a)) (mlo v (dgt b32 b)) k) (by rw[AE1.out]) (by rw[BE1.out]) rfl (mlo_lt ..) (mlo_lt ..) hbr _).mono ?_
     rintro e w3 ⟨rfl,rfl⟩
     go_wp2_with fail
     go_roundw
     case rel=>exact⟨k+1,by omega,by go_num,(congrArg (Value.int .u64) (by rw[AE2.out];omega)),(congrArg (Value.int .u64) (by rw[BE2.out];omega)),rfl,HSET.out _ rfl,hbel.setCell (Nat.le_refl _) _⟩
     case measure=>simp[intOf];omega
  ·
   obtain rfl:k=N+1:=by omega
   have hrd:=(hrow.rd (Nat.le_refl _) hrow.lt).congr (f':=dif (mlo u (dgt b32 a)) (mlo v (dgt b32 b))) fun j hj=>by simp only[dst,if_pos hj]
   have ht:=trim_any (some ⟨w.heap.size,0,none⟩) _ (N+1) _ wr hrd (fun i _=>dif_lt ..) (Nat.le_refl _) (by omega);rw[HT0.out] at ht;have HT:=Lib.hid ht;clear ht;go_wp2_with fail
   refine HT.out.mono ?_
   rintro e w3 ⟨rfl,rfl,hnum,hlc⟩
   go_wp2
   go_ret
   exact⟨_,_,rfl,hlc,hnum,hbel⟩
end
end Go.Proofs.YtclbiihcbfnjmaaGreat
