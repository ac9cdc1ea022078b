/-
  Parts.
-/
import Derived.Test.YtclbiihcbfnjmaaGreatK7
import Derived.Laws.AppendOwn
set_option linter.unusedSimpArgs false
set_option maxRecDepth 100000
set_option maxHeartbeats 8000000
namespace Go.Proofs.YtclbiihcbfnjmaaGreat
section
open Go.RowKit

theorem rcopy_some {p:Addr}{n:Nat}{f:Nat->Nat}{w:World}{B:Nat}(h:Rd B .u16 w (some p) n f):∀(j:Nat) (u:Value),(nums .u16 n f)[j]?=some u->w.cell? (p.add j)=some u:=by
 intro j u hu
 have hj:j<n:=by
  rcases Nat.lt_or_ge j n with hj|hj
  ·exact hj
  ·rw[List.getElem?_eq_none (by rw[nums_length];exact hj)] at hu;cases hu
 obtain⟨b,o,e,hb,hc⟩:=h (by omega)
 have e':p=⟨b,o,none⟩:=by injection e
 subst e';rw[nums_get hj] at hu;have h1:=hc j hj;unfold Addr.add
 split
 ·rename_i h0;subst h0;rw[<-hu];exact h1
 ·rw[<-hu];exact h1
theorem num16_zero (w:World)(A:Option Addr):Num16 w A 0:=fun h=>absurd h (by rw[ln_zero];exact Nat.lt_irrefl 0)

def RDivW (x y:Nat)(w:World)(e:Ending)(w':World):Prop:=
 ∃A c B d,e= .returned (.tuple #[.slice A (ln b16 (x/y)) c,.slice B (ln b16 (x%y)) d])/\Num16 w' A (x/y)/\Num16 w' B (x%y)/\Below w.heap.size w w'
theorem rdivided_one (A B:Option Addr)(c d x y:Nat)(w:World)(hA:Num16 w A x)(hB:Num16 w B y)(hy1:ln b16 y=1)(la:ln b16 x<=1000000):
  Calls Tryz.prog 161 #[.slice A (ln b16 x) c,.slice B (ln b16 y) d] w (RDivW x y w):=by
 obtain⟨b,o,rfl,hb,hc⟩:=hB (by omega);have c1:=hc 0 (by omega)
 have hv:dgt b16 y 0=y:=by
  have h:=vs_dgt_ln b16_two (x:=y);rw[hy1,vs_succ,vs_zero] at h
  simpa using h
 have hy0:0<y:=(ln_pos b16_two).1 (by omega)
 have hy2:y<=65535:=by have:=dgt16_lt y 0;omega
 rw[hv,Nat.add_zero] at c1
 have o2:IntKind.i64.wrap (y:Int)=(y:Int):=by rw[IntKind.wrap_i64];omega
 have HS:=Lib.hid (rshort_any A c x y w hA hy0 hy2 (by omega));have HL:=Lib.hid hy1;rw[hy1];clear hc hv hy1
 go_enter Tryz.func161,Tryz.ntmps161
 go_wp2_with fail
 refine HS.out.mono ?_
 rintro e w1 ⟨A',c',B',d',rfl,h1,h2,h3,h4,h5⟩
 go_wp2_with fail
 go_ret2
 exact⟨A',c',B',d',rfl,h1,h2,h5⟩
theorem run_append_empty {P:Program}{w:World}(t ty e:TypeId)(i:TypeInfo)(ht:P.underlying t=some (.slice e))(hi:P.info? e=some i)(g c0 c:Nat):
  (Builtin.append_ #[t,t] ty #[.slice (some ⟨g,0,none⟩) 0 c0,.slice none 0 c]).run P w= .ok (.slice (some ⟨g,0,none⟩) 0 c0) w:=by
 simp[Builtin.append_,run_underlying ht,sizeOf,typeInfo,hi,Builtin.lenOf,Builtin.firstCells,storeCells]
theorem wpList_append_empty {P:Program}{w:World}{ops:Array Oper}{rest:List Oper}{o:Oper}{a:Act}{Q:Exit->Act->World->Prop}(hgd:o.guard=none)(s x:Operand)(t:TypeId)
  (ho:o.op= .call {callee:= .builtin .append,args:=#[s,x],argTypes:=#[t,t]}) (e:TypeId) (i:TypeInfo) (ht:P.underlying t=some (.slice e)) (hi:P.info? e=some i)
  (g c0 n c:Nat) (hn:n=0) (hs:a.eval s= .slice (some ⟨g,0,none⟩) 0 c0) (hx:a.eval x= .slice none n c) (h:wpList P ops Q rest (a.put o.dst (.slice (some ⟨g,0,none⟩) 0 c0)) w):wpList P ops Q (o::rest) a w:=by
 subst hn
 refine wpList_plain hgd fun K hK=> ?_
 have hrun:=run_append_empty (P:=P) (w:=w) t o.type e i ht hi g c0 c;unfold Oper.wp
 simp[execOp,ho,resolve,invoke,builtin,hs,hx,hrun,Result.andThen]
 exact hK _ _ h
theorem ln_one :ln b16 1=1:=ln_eq b16_two (by decide) (.inr (by decide))
theorem num_cell (w:World)(v:Nat)(hv:v<65536)(h0:0<v):Num16 (w.alloc (.cells #[.int .u16 (v:Int)] 108)) (some ⟨w.heap.size,0,none⟩) v:=by
 have hcell:=heap_alloc_new w (.cells #[.int .u16 (v:Int)] 108);have h1:ln b16 v=1:=ln_eq b16_two (show v<b16^1 from hv) (.inr h0);unfold Num16;rw[h1];intro _;refine⟨_,0,rfl,by simp,fun i hi=> ?_⟩
 obtain rfl:i=0:=by omega
 refine(cell_of_row _ _ 0 _ _ (0,0) hcell).trans ?_;show some (Value.int .u16 (v:Int))=_
 have h2:dgt b16 v 0=v:=by
  unfold dgt;rw[Nat.pow_zero,Nat.div_one];exact Nat.mod_eq_of_lt hv
 rw[h2]
theorem dbl_max {x y:Nat}(hx:ln b16 x<=900000)(hy:ln b16 y<=900000){k:Nat}(h:Dbl x y k){i:Nat}(hi:i<=k):ln b16 (y*2^i)<=900001:=h.ln2 hi hx hy
theorem div_lens {x e:Nat}(hx:ln b16 x<=900000):ln b16 (x/e)<=900000/\ln b16 (x%e)<=900000/\ln b16 (2*(x/e))<=900001:=by
 have h1:=Nat.le_trans (ln_mono b16_two (Nat.div_le_self x e)) hx;have h2:=Nat.le_trans (ln_mono b16_two (Nat.mod_le x e)) hx;have h3:=ln_add (B:=b16) b16_two (m:=900000) (x:=x/e) (y:=x/e) h1 h1;rw[<-Nat.two_mul] at h3;exact⟨h1,h2,h3⟩
def DvSt (x y m:Nat)(w:World)(D Q R:Option Addr):Prop:=Num16 w D (y*2^m)/\Num16 w Q (x/(y*2^m))/\Num16 w R (x%(y*2^m))

theorem rdivided_many (A B:Option Addr)(c d x y:Nat)(w:World)(hA:Num16 w A x)(hB:Num16 w B y)(hy1:ln b16 y≠1)(hy:0<y)(la:ln b16 x<=900000)(lb:ln b16 y<=900000):
  Calls Tryz.prog 161 #[.slice A (ln b16 x) c,.slice B (ln b16 y) d] w (RDivW x y w):=by
 have t1:(((ln b16 y:Nat):Int)==1)=false:=beq_eq_false_iff_ne.2 (by omega);obtain⟨i0,hi,hz0,hz1,hz2⟩:=info_parts info_u16
 go_enter Tryz.func161,Tryz.ntmps161
 go_wp2_with fail
 clear t1
 go_loopw [6,7] (fun n v wr=>∃(k:Nat) (D:Option Addr) (e:Nat),n= .int .i64 (k:Int)/\v= .slice D (ln b16 (y*2^k)) e/\Num16 wr D (y*2^k)/\Hid (Dbl x y k)/\k<=16*ln b16 x/\Below w.heap.size w wr) (fun n _ _=>x+1-(intOf n).toNat)
 case atStart=>exact⟨0,B,d,rfl,by rw[Nat.pow_zero,Nat.mul_one],by rw[Nat.pow_zero,Nat.mul_one];exact hB,Lib.hid (fun i hi=>absurd hi (by omega)),by omega,Below.refl _ _⟩
 case round=>
  obtain⟨k,D,e,rfl,rfl,hD,hdb,hk,hbel⟩:=hrel
  by_cases hlt:x<y*2^k
  ·
   have hs:=dv_start hlt;have HS:=Lib.hid hs;have T:=decide_eq_true hlt;have hc:=rless_any A D c e x (y*2^k) wr (Num16.below hA hbel) hD (by omega);unfold LessPost at hc;rw[T] at hc;have HC:=Lib.hid hc;clear hs T hc;go_wp2_with fail
   refine HC.out.mono ?_
   rintro e2 w2 ⟨rfl,nd,rfl⟩
   have hbel2:Below w.heap.size w (wr.drewN nd):=belowN hbel nd;have hB2:Num16 (wr.drewN nd) B y:=Num16.below hB hbel2;clear hD
   obtain⟨w2,hw2⟩:∃w2,w2=wr.drewN nd:=⟨_,rfl⟩
   rw[<-hw2] at hbel2 hB2⊢;clear hw2 HC;go_wp2_with fail
   go_loopw [8,9] (fun v i wr=>∃(j:Nat) (D:Option Addr) (e:Nat),j<=k/\i= .int .i64 (j:Int)/\v= .slice D (ln b16 (y*2^j)) e/\Num16 wr D (y*2^j)/\Below w.heap.size w wr) (fun _ i _=>k-(intOf i).toNat)
   case atStart=>exact⟨0,B,d,Nat.zero_le _,rfl,by rw[Nat.pow_zero,Nat.mul_one],by rw[Nat.pow_zero,Nat.mul_one];exact hB2,hbel2⟩
   case round=>
    obtain⟨j,D2,e2,hj,rfl,rfl,hD2,hbel3⟩:=hrel;have hmx:=dbl_max la lb hdb.out hj
    by_cases hjk:j<k
    ·
     have t2:decide ((j:Int)<(k:Int))=true:=decide_eq_true (by omega);have hc:=rplus_o D2 D2 e2 e2 (y*2^j) (y*2^j) wr hD2 hD2 (by omega) (by omega);rw[two_pow_double] at hc;have HC:=Lib.hid hc;clear hc;go_wp2_with fail
     refine HC.out.mono ?_
     rintro e3 w3 ⟨D3,c3,rfl,hD3,-,hb3⟩
     go_wp2_with fail
     go_roundw
     case rel=>exact⟨j+1,D3,c3,hjk,by go_num,rfl,hD3,hbel3.trans (hb3.mono hbel3.size)⟩
     case measure=>simp[intOf];omega
    ·
     obtain rfl:j=k:=by omega
     have t2:decide ((j:Int)<(j:Int))=false:=decide_eq_false (by omega);have hA3:Num16 wr A x:=Num16.below hA hbel3
     obtain⟨w3,rfl⟩:∃w3:World,w3=wr:=⟨_,rfl⟩
     obtain⟨hq0,hr0⟩:=HS.out
     go_upto_region 14 with(fail)
     go_cut [11] from 43 to 45 (fun r wx=>∃R cr,r= .slice R (ln b16 (x%(y*2^j))) cr/\Num16 wx R x/\Below w3.heap.size w3 wx)
     case first=>
      have hbe:Below w3.heap.size w3 (w3.alloc (.cells #[] 108)):=(Below.refl _ _).alloc (Nat.le_refl _) _;have HR:=Lib.hid hr0;clear hq0 hr0 t2
      cases A with
      |none=>
       have hx0:ln b16 x=0:=by
        rcases Nat.eq_zero_or_pos (ln b16 x) with h0|h0
        ·exact h0
        ·
         obtain⟨_,_,h1,_⟩:=hA3 h0
         cases h1
       have HX0:=Lib.hid hx0;clear hx0;go_wp2_with (at_builtin;refine wpList_append_empty (by rfl) _ _ 25 (by rfl) 108 i0 Tryz.underlying25 hi w3.heap.size 0 (ln b16 x) c HX0.out (by rfl) (by rfl) ?_)
       go_meet
       exact⟨some ⟨w3.heap.size,0,none⟩,0,by rw[HR.out,HX0.out],fun h=>absurd h (by rw[HX0.out];exact Nat.lt_irrefl 0),hbe⟩
      |some p=>
       have HC:=Lib.hid (rcopy_some (Rd.below hA3 hbe))
       have HL:(nums .u16 (ln b16 x) (dgt b16 x)).length=ln b16 x*1:=by rw[nums_length];omega
       have H1:∀u∈nums .u16 (ln b16 x) (dgt b16 x),u.oneCell'=true:=by simp[nums,Value.oneCell']
       have HM:0+ln b16 x<=maxLen:=by unfold maxLen;omega
       have HB:(0+ln b16 x)*2<=140737488355328:=by omega
       have HSZ:w3.heap.size<=(w3.alloc (.cells #[] 108)).heap.size:=by simp
       go_wp2_with (at_builtin;refine wpList_append_own _ rfl _ _ 25 rfl w3.heap.size 108 i0 (.int .u16 0) 1 2 Tryz.underlying25 hi hz0 hz1 hz2 rfl (by decide) _ _ _ rfl (World.ownsRow_made w3 #[] 0 (Nat.le_refl _) (by decide) rfl) p (ln b16 x) c (nums .u16 (ln b16 x) (dgt b16 x)) rfl HL HC.out H1 HM HB HSZ ?_;intro v' w4 hown hgrow _;obtain⟨A4,c4,rfl⟩:=own_slice16 hown)
       go_meet
       rw[Nat.zero_add,List.nil_append] at hown;obtain⟨A5,c5,e5,_,hr5⟩:=RowO.of_own hown
       injection e5 with e5 e6 e7
       subst e5;refine⟨A4,c4,by rw[HR.out],hr5.rd,hbe.grown hgrow (by simp) (fun k e=>by cases e;exact Nat.le_refl _)⟩
     case rest=>
     obtain⟨R,cr,rfl,hR0,hb4⟩:=hcut;have hst:DvSt x y j wc D2 none R:=⟨Num16.below hD2 hb4,by rw[hq0];exact num16_zero _ _,by rw[hr0];exact hR0⟩;have hbel4:=hbel3.trans (hb4.mono hbel3.size);have HQ:=Lib.hid hq0;clear hR0 hb4 hq0 hr0 t2 HS hD2 hdb hA3
     obtain⟨w5,rfl⟩:∃w5:World,w5=wc:=⟨_,rfl⟩
     go_wp2_with fail
     go_loopw [8,10,11,12] (fun dv q r i wr=>∃(p m:Nat) (D Q R:Option Addr) (cd cq cr:Nat),p+m=j/\i= .int .i64 (p:Int)/\dv= .slice D (ln b16 (y*2^m)) cd/\q= .slice Q (ln b16 (x/(y*2^m))) cq/\r= .slice R (ln b16 (x%(y*2^m))) cr/\DvSt x y m wr D Q R/\ln b16 (y*2^m)<=900001/\Below w.heap.size w wr) (fun _ _ _ i _=>j-(intOf i).toNat)
     case atStart=>exact⟨0,j,D2,none,R,e2,0,cr,by omega,rfl,rfl,by rw[HQ.out,ln_zero],rfl,hst,hmx,hbel4⟩
     case round=>
      obtain⟨p,m,D,Q,R,cd,cq,cr,hpm,rfl,rfl,rfl,rfl,⟨hD,hQ,hR⟩,hln,hbel5⟩:=hrel
      by_cases hpj:p<j
      ·
       obtain⟨m,rfl⟩:∃m',m=m'+1:=⟨m-1,by omega⟩
       have t3:decide ((p:Int)<(j:Int))=true:=decide_eq_true (by omega);have hE0:0<y*2^m:=Nat.mul_pos hy (Nat.pow_pos (by decide));obtain⟨d1,d2⟩:=dv_step (x:=x) (e:=y*2^m) hE0
       have hE2:y*2^m*2=y*2^(m+1):=by rw[Nat.pow_succ,Nat.mul_assoc]
       obtain⟨L1,L2,L3⟩:=div_lens (x:=x) (e:=y*2^(m+1)) la;have hlm:ln b16 (y*2^m)<=900001:=Nat.le_trans (ln_mono b16_two (by rw[<-hE2];omega)) hln;rw[hE2] at d1 d2;have hh:=rhalf_any D cd (y*2^(m+1)) wr hD (by omega);rw[two_pow_half] at hh
       have hp:=fun W c1 c2 hq=>rplus_o Q Q c1 c2 (x/(y*2^(m+1))) (x/(y*2^(m+1))) W hq hq (by omega) (by omega)
       rw[<-Nat.two_mul] at hp;have HH:=Lib.hid hh;have HP:=Lib.hid hp;have HD1:=Lib.hid d1;have HD2:=Lib.hid d2;clear hh hp d1 d2 hE2;go_wp2_with fail
       refine HH.out.mono ?_
       rintro e5 w5 ⟨D5,c5,rfl,hD5,-,hb5⟩
       have hQ5:=Num16.below hQ hb5;have hR5:=Num16.below hR hb5;replace hbel5:=hbel5.trans (hb5.mono hbel5.size);clear hb5 hD hQ hR HH;go_wp2_with fail
       refine(HP.out w5 cq cq hQ5).mono ?_
       rintro e6 w6 ⟨Q6,c6,rfl,hQ6,-,hb6⟩
       have hD6:=Num16.below hD5 hb6;have hR6:=Num16.below hR5 hb6;replace hbel5:=hbel5.trans (hb6.mono hbel5.size);clear hb6 hD5 hQ5 hR5 HP;have hc:=rless_any R D5 cr c5 (x%(y*2^(m+1))) (y*2^m) w6 hR6 hD6 (by omega);unfold LessPost at hc
       by_cases hRD:x%(y*2^(m+1))<y*2^m
       ·
        rw[decide_eq_true hRD] at hc;have HC:=Lib.hid hc;have hd1:=HD1.out;have hd2:=HD2.out;rw[if_pos hRD] at hd1 hd2;rw[Nat.add_zero] at hd1;have HD1:=Lib.hid hd1;have HD2:=Lib.hid hd2;clear hc hd1 hd2 hRD;go_wp2_with fail
        refine HC.out.mono ?_
        rintro e7 w7 ⟨rfl,nd,rfl⟩
        go_wp2_with fail
        go_roundw
        case rel=>
         refine⟨p+1,m,D5,Q6,R,c5,c6,cr,by omega,by go_num,rfl,by rw[HD1.out],by rw[HD2.out],⟨Num16.below hD6 (belowN (Below.refl _ _) nd), ?_, ?_⟩,hlm,belowN hbel5 nd⟩
         ·rw[HD1.out];exact Num16.below hQ6 (belowN (Below.refl _ _) nd)
         ·rw[HD2.out];exact Num16.below hR6 (belowN (Below.refl _ _) nd)
        case measure=>simp[intOf];omega
       ·
        rw[decide_eq_false hRD] at hc;have HC:=Lib.hid hc;have hd1:=HD1.out;have hd2:=HD2.out;rw[if_neg hRD] at hd1 hd2;have HD1:=Lib.hid hd1;have HD2:=Lib.hid hd2;have hm1:=rminus_any R D5 cr c5 (x%(y*2^(m+1))) (y*2^m);have HM:=Lib.hid hm1
        have hp1:=fun W hq=>rplus_o Q6 (some ⟨W.heap.size,0,none⟩) c6 1 (2*(x/(y*2^(m+1)))) 1 (W.alloc (.cells #[.int .u16 1] 108)) hq (num_cell W 1 (by decide) (by decide)) (by omega) (by rw[ln_one];decide)
        rw[ln_one] at hp1;have HP1:=Lib.hid hp1;clear hc hd1 hd2 hm1 hp1;go_wp2_with fail
        refine HC.out.mono ?_
        rintro e7 w7 ⟨rfl,nd,rfl⟩
        go_wp2_with fail
        refine(HM.out _ (Num16.below hR6 (belowN (Below.refl _ _) nd)) (Num16.below hD6 (belowN (Below.refl _ _) nd)) (by omega) (by omega)).mono ?_
        rintro e8 w8 ⟨R8,c8,rfl,hR8,-,hb8⟩
        have hD8:Num16 w8 D5 (y*2^m):=Num16.below hD6 ((belowN (Below.refl _ _) nd).trans hb8);have hQ8:Num16 w8 Q6 _:=Num16.below hQ6 ((belowN (Below.refl _ _) nd).trans hb8);replace hbel5:=(belowN hbel5 nd).trans (hb8.mono hbel5.size);clear hb8 hD6 hQ6 hR6;have hba:=(Below.refl w8.heap.size w8).alloc (Nat.le_refl _) (.cells #[.int .u16 1] 108);go_wp2_with fail
        refine(HP1.out w8 (Num16.below hQ8 hba)).mono ?_
        rintro e9 w9 ⟨Q9,c9,rfl,hQ9,-,hb9⟩
        have hb10:=hba.trans (hb9.mono hba.size);go_wp2_with fail
        go_roundw
        case rel=>
         refine⟨p+1,m,D5,Q9,R8,c5,c9,c8,by omega,by go_num,rfl,by rw[HD1.out],by rw[HD2.out],⟨Num16.below hD8 hb10, ?_, ?_⟩,hlm,hbel5.trans (hb10.mono hbel5.size)⟩
         ·rw[HD1.out];exact hQ9
         ·rw[HD2.out];exact Num16.below hR8 hb10
        case measure=>simp[intOf];omega
      ·
       obtain rfl:p=j:=by omega
       obtain rfl:m=0:=by omega
       have t3:decide ((p:Int)<(p:Int))=false:=decide_eq_false (by omega);rw[Nat.pow_zero,Nat.mul_one] at hQ hR⊢;go_wp2_with fail
       go_ret2
       exact⟨Q,cq,R,cr,rfl,hQ,hR,hbel5⟩
  ·
   have hdk:=Dbl.succ hdb.out hlt;have hkk:=le_of_doubles hy hdk;have hkx:=le_val_of_double hy (show y*2^k<=x by omega);have HD:=Lib.hid hdk;have T:=decide_eq_false hlt;have hc:=rless_any A D c e x (y*2^k) wr (Num16.below hA hbel) hD (by omega);unfold LessPost at hc;rw[T] at hc;have HC:=Lib.hid hc;have hmx:=dbl_max la lb hdb.out (Nat.le_refl _);have hp:=rplus_o D D e e (y*2^k) (y*2^k);rw[two_pow_double] at hp;have HP:=Lib.hid hp;clear T hc hp hdk hlt;go_wp2_with fail
   refine HC.out.mono ?_
   rintro e2 w2 ⟨rfl,nd,rfl⟩
   go_wp2_with fail
   refine(HP.out (wr.drewN nd) hD hD (by omega) (by omega)).mono ?_
   rintro e3 w3 ⟨D3,c3,rfl,hD3,-,hb3⟩
   have hbel3:Below w.heap.size w w3:=(belowN hbel nd).trans (hb3.mono hbel.size);go_wp2_with fail
   go_roundw
   case rel=>exact⟨k+1,D3,c3,by go_num,rfl,hD3,HD.out,by omega,hbel3⟩
   case measure=>simp[intOf];omega
end
section
open Go.RowKit

theorem rdivided_any (A B:Option Addr)(c d x y:Nat)(w:World)(hA:Num16 w A x)(hB:Num16 w B y)(hy:0<y)(la:ln b16 x<=900000)(lb:ln b16 y<=900000):
  Calls Tryz.prog 161 #[.slice A (ln b16 x) c,.slice B (ln b16 y) d] w (RDivW x y w):=by
 by_cases h:ln b16 y=1
 ·exact rdivided_one A B c d x y w hA hB h (by omega)
 ·exact rdivided_many A B c d x y w hA hB h hy la lb
def valOf16 (w:World):Value->Nat
 | .slice (some p) n _=>vs b16 (fun i=>match w.cell? ⟨p.block,p.off+i,none⟩ with|some (.int _ z)=>z.toNat|_=>0) n
 |_=>0
theorem valOf16_num {w:World}{A:Option Addr}{x c:Nat}(h:Num16 w A x):valOf16 w (.slice A (ln b16 x) c)=x:=by
 rcases Nat.eq_zero_or_pos (ln b16 x) with h0|h0
 ·
  have hx:x=0:=by
   rcases Nat.eq_zero_or_pos x with e|e
   ·exact e
   ·have:=(ln_pos b16_two).2 e;omega
  subst hx
  cases A<;>simp[valOf16,ln_zero,vs]
 ·
  obtain⟨b,o,rfl,hb,hc⟩:=h h0
  have h1:vs b16 (fun i=>match w.cell? ⟨b,o+i,none⟩ with|some (.int _ z)=>z.toNat|_=>0) (ln b16 x)=vs b16 (dgt b16 x) (ln b16 x):=vs_congr fun i hi=>by rw[hc i hi];simp
  show vs b16 (fun i=>match w.cell? ⟨b,o+i,none⟩ with|some (.int _ z)=>z.toNat|_=>0) (ln b16 x)=x;rw[h1,vs_dgt_ln b16_two]
def ComSt (G:Nat)(w0:World)(a b:Value)(wr:World)(y:Nat):Prop:=
 ∃A c B d x,a= .slice A (ln b16 x) c/\b= .slice B (ln b16 y) d/\Num16 wr A x/\Num16 wr B y/\Nat.gcd x y=G/\ln b16 x<=900000/\ln b16 y<=900000/\Below w0.heap.size w0 wr
theorem rcommon_any (A B:Option Addr)(c d x y:Nat)(w:World)(hA:Num16 w A x)(hB:Num16 w B y)(la:ln b16 x<=900000)(lb:ln b16 y<=900000):
  Calls Tryz.prog 134 #[.slice A (ln b16 x) c,.slice B (ln b16 y) d] w fun e w'=>∃A' c',e= .returned (.slice A' (ln b16 (Nat.gcd x y)) c')/\Num16 w' A' (Nat.gcd x y)/\Below w.heap.size w w':=by
 obtain⟨G,hG⟩:∃G,Nat.gcd x y=G:=⟨_,rfl⟩
 rw[hG];have HG:=Lib.hid hG;clear hG
 go_enter Tryz.func134,Tryz.ntmps134
 go_wp2_with fail
 go_loopw [0,1] (fun a b wr=>∃v,ComSt G w a b wr v) (fun _ b wr=>valOf16 wr b)
 case atStart=>exact⟨y,A,c,B,d,x,rfl,rfl,hA,hB,HG.out,la,lb,Below.refl _ _⟩
 case round=>
  obtain⟨y',A,c,B,d,x',rfl,rfl,hA,hB,hg,la,lb,hbel⟩:=hrel;have hval:=valOf16_num (c:=d) hB
  by_cases h0:0<y'
  ·
   have t1:0<ln b16 y':=(ln_pos b16_two).2 h0;have hlr:ln b16 (x'%y')<=900000:=Nat.le_trans (ln_mono b16_two (Nat.le_of_lt (Nat.mod_lt _ h0))) lb;have hmod:=Nat.mod_lt x' h0;have HV:=Lib.hid hval;have HG2:=Lib.hid hg;clear hval hg;go_wp2_with fail
   refine(rdivided_any A B c d x' y' wr hA hB h0 la lb).mono ?_
   rintro e w2 ⟨Q,cq,R,cr,rfl,-,hR,hb2⟩
   have hval2:=valOf16_num (c:=cr) hR;have HV2:=Lib.hid hval2;clear hval2;go_wp2_with fail
   go_roundw
   case rel=>exact⟨x'%y',B,d,R,cr,y',rfl,rfl,Num16.below hB hb2,hR,by rw[Nat.gcd_comm,<-Nat.gcd_rec,Nat.gcd_comm];exact HG2.out,lb,hlr,hbel.trans (hb2.mono hbel.size)⟩
   case measure=>rw[HV.out,HV2.out];exact hmod
  ·
   obtain rfl:y'=0:=by omega
   have hx':x'=G:=by rw[<-hg,Nat.gcd_zero_right]
   have t1:decide (0<ln b16 0)=false:=by rw[ln_zero];rfl
   have HX:=Lib.hid hx';clear hval hx' hg;go_wp2_with fail
   go_ret
   exact⟨A,c,by rw[HX.out];rfl,by rw[<-HX.out];exact hA,hbel⟩
end
end Go.Proofs.YtclbiihcbfnjmaaGreat
