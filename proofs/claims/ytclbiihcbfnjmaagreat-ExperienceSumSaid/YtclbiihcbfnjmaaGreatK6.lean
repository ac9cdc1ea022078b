/-
  Parts.
-/
import Derived.Test.YtclbiihcbfnjmaaGreatK4
import Derived.Test.YtclbiihcbfnjmaaGreatK3
import Derived.Test.YtclbiihcbfnjmaaGreatK1
import Derived.Test.YtclbiihcbfnjmaaGreatK5
import Derived.Deep.RegionHeld3
import Derived.Deep.CutBlock
import Derived.Deep.DeepCutAuto
set_option maxRecDepth 100000
set_option maxHeartbeats 4000000
namespace Go.Proofs.YtclbiihcbfnjmaaGreat
open Go.RowKit

def valOf (w:World):Value->Nat
 | .slice (some p) n _=>vs b32 (fun i=>match w.cell? ⟨p.block,p.off+i,none⟩ with|some (.int _ z)=>z.toNat|_=>0) n
 |_=>0
theorem valOf_num {w:World}{A:Option Addr}{x c:Nat}(h:Num32 w A x):valOf w (.slice A (ln b32 x) c)=x:=by
 rcases Nat.eq_zero_or_pos (ln b32 x) with h0|h0
 ·
  have hx:x=0:=by
   rcases Nat.eq_zero_or_pos x with e|e
   ·exact e
   ·have:=(ln_pos b32_two).2 e;omega
  subst hx
  cases A<;>simp[valOf,ln_zero,vs]
 ·
  obtain⟨b,o,rfl,hb,hc⟩:=h h0
  have h1:vs b32 (fun i=>match w.cell? ⟨b,o+i,none⟩ with|some (.int _ z)=>z.toNat|_=>0) (ln b32 x)=vs b32 (dgt b32 x) (ln b32 x):=vs_congr fun i hi=>by rw[hc i hi];simp
  show vs b32 (fun i=>match w.cell? ⟨b,o+i,none⟩ with|some (.int _ z)=>z.toNat|_=>0) (ln b32 x)=x;rw[h1,vs_dgt_ln b32_two]

def Pair (w0:World)(G:Nat)(x y:Value)(wr:World)(b':Nat):Prop:=
 ∃A c B d a',x= .slice A (ln b32 a') c/\y= .slice B (ln b32 b') d/\Num32 wr A a'/\Num32 wr B b'/\b'<=a'/\Nat.gcd a' b'=G/\ln b32 a'<=1000000/\ln b32 a'<=c/\ln b32 b'<=d/\Below w0.heap.size w0 wr

theorem gcd_swap {a b G:Nat}(h:Nat.gcd a b=G):Nat.gcd b a=G:=by rw[Nat.gcd_comm];exact h
theorem cmp_neg {a b:Nat}:cmpI a b<0↔a<b:=by
 unfold cmpI;split<;>(try split)<;>omega
theorem commonDivisor_any (A B:Option Addr)(c d a b:Nat)(w:World)(ha:Num32 w A a)(hb:Num32 w B b)(hn:ln b32 a<=1000000)(hm:ln b32 b<=1000000)(hac:ln b32 a<=c)(hbd:ln b32 b<=d):
  Calls Tryz.prog 181 #[.slice A (ln b32 a) c,.slice B (ln b32 b) d] w (W32 w (Nat.gcd a b)):=by
 obtain⟨G,hG⟩:∃G,Nat.gcd a b=G:=⟨_,rfl⟩
 rw[hG];have HG:=Lib.hid hG;clear hG
 go_enter Tryz.func181,Tryz.ntmps181
 go_wp2_with fail
 refine(compare_any A B c d a b w ha hb (by omega)).mono ?_
 rintro e w1 ⟨rfl,n,rfl⟩
 go_upto_if 15 with(fail)
 go_cut [0,1] (fun x y wx=>∃b',Pair w G x y wx b')
 case first=>
  by_cases hlt:a<b
  ·
   have h1:=cmp_neg.2 hlt;go_wp2_with fail
   go_meet
   exact⟨a,B,d,A,c,b,rfl,rfl,hb,ha,Nat.le_of_lt hlt,gcd_swap HG.out,hm,hbd,hac,belowN (Below.refl _ _) n⟩
  ·
   have h1:¬cmpI a b<0:=fun h=>hlt (cmp_neg.1 h)
   go_wp2_with fail
   go_meet
   exact⟨b,A,c,B,d,a,rfl,rfl,ha,hb,by omega,HG.out,hn,hac,hbd,belowN (Below.refl _ _) n⟩
 case rest=>
  obtain⟨b0,hP⟩:=hcut;go_wp2_with fail
  go_loopw [0,1] (fun x y wr=>∃b',Pair w G x y wr b') (fun _ y wr=>valOf wr y)
  case atStart=>exact⟨b0,hP⟩
  case round=>
   obtain⟨b',hP⟩:=hrel;obtain⟨A,c,B,d,a',rfl,rfl,ha,hb,hba,hg,hn,hc,hd,hbel⟩:=hP
   by_cases h3:3<=ln b32 b'
   ·
    have t3:(2:Int)<(ln b32 b':Int):=by omega
    go_wp2_with fail
    refine(simulate_any A B c d a' b' wr ha hb hba hn h3).mono ?_
    rintro e w2 ⟨ev,u0,u1,v0,v1,rfl,hst,hb2⟩
    have hbS:Below wr.heap.size wr (w2.alloc (.cells #[.int .u64 (u0:Int),.int .u64 (u1:Int),.int .u64 (v0:Int),.int .u64 (v1:Int),.bool ev] 194)):=hb2.alloc hb2.size _;have hS:StepsAt (w2.alloc (.cells #[.int .u64 (u0:Int),.int .u64 (u1:Int),.int .u64 (v0:Int),.int .u64 (v1:Int),.bool ev] 194)) w2.heap.size ev u0 u1 v0 v1:=heap_alloc_new _ _;have haS:=Num32.below ha hbS;have hbS':=Num32.below hb hbS;have hbelS:=hbel.trans (hbS.mono hbel.size);have hbm:ln b32 b'<=1000000:=Nat.le_trans ((ln_le b32_two).2 (Nat.lt_of_le_of_lt hba (lt_pow_ln b32_two a'))) hn;have hval:=valOf_num (c:=d) hb;obtain⟨s0,s1,s2,s3,s4⟩:=hS.cells;have hSlt:=hS.lt
    by_cases hv:v0=0
    ·
     subst hv;have hb0:0<b':=(ln_pos b32_two).1 (by omega);go_wp2_with fail
     refine(divide_any A B c d a' b' _ haS hbS' hb0 hn).mono ?_
     rintro e w3 ⟨Aq,cq,Ar,cr,rfl,hq1,hr1,hq,hr,hb3⟩
     have hmod:=Nat.mod_lt a' hb0;have hlr:ln b32 (a'%b')<=1000000:=Nat.le_trans ((ln_le b32_two).2 (Nat.lt_trans hmod (lt_pow_ln b32_two b'))) hbm;have hval2:=valOf_num (c:=cr) hr;go_wp2_with fail
     go_roundw
     case rel=>exact⟨a'%b',B,d,Ar,cr,b',rfl,rfl,Num32.below hbS' hb3,hr,Nat.le_of_lt hmod,by rw[Nat.gcd_comm,<-Nat.gcd_rec,Nat.gcd_comm];exact hg,hbm,hd,hr1,hbelS.trans (hb3.mono hbelS.size)⟩
     case measure=>rw[hval,hval2];exact hmod
    ·
     have hv0:((v0:Int)==0)=false:=by simpa using hv
     have hok:=hst.resolve_left hv
     cases ev
     ·
      obtain⟨k1,k2,k3,k4⟩:=steps_odd hok;have la:=hok.le0;have lb:=hok.le1;simp only[Bool.false_eq_true,if_false] at la lb
      have D1:=Lib.hid fun(w':World) (hw':Below (w2.alloc (.cells #[.int .u64 (u0:Int),.int .u64 (u1:Int),.int .u64 (v0:Int),.int .u64 (v1:Int),.bool false] 194)).heap.size (w2.alloc (.cells #[.int .u64 (u0:Int),.int .u64 (u1:Int),.int .u64 (v0:Int),.int .u64 (v1:Int),.bool false] 194)) w')=>difference_any B A d c v0 u0 b' a' w' (Num32.below hbS' hw') (Num32.below haS hw') hok.v0lt hok.u0lt la hbm hn
      have D2:=Lib.hid fun(w':World) (hw':Below (w2.alloc (.cells #[.int .u64 (u0:Int),.int .u64 (u1:Int),.int .u64 (v0:Int),.int .u64 (v1:Int),.bool false] 194)).heap.size (w2.alloc (.cells #[.int .u64 (u0:Int),.int .u64 (u1:Int),.int .u64 (v0:Int),.int .u64 (v1:Int),.bool false] 194)) w')=>difference_any A B c d u1 v1 a' b' w' (Num32.below haS hw') (Num32.below hbS' hw') hok.u1lt hok.v1lt lb hn hbm
      have KS:=Lib.hid fun(w' w'':World) (h:Below (w2.alloc (.cells #[.int .u64 (u0:Int),.int .u64 (u1:Int),.int .u64 (v0:Int),.int .u64 (v1:Int),.bool false] 194)).heap.size (w2.alloc (.cells #[.int .u64 (u0:Int),.int .u64 (u1:Int),.int .u64 (v0:Int),.int .u64 (v1:Int),.bool false] 194)) w') (h2:Below w'.heap.size w' w'')=>(show w''.cell? ⟨w2.heap.size,0,none⟩=some (.int .u64 (u0:Int))/\w''.cell? ⟨w2.heap.size,1,none⟩=some (.int .u64 (u1:Int))/\w''.cell? ⟨w2.heap.size,2,none⟩=some (.int .u64 (v0:Int))/\w''.cell? ⟨w2.heap.size,3,none⟩=some (.int .u64 (v1:Int))/\Below (w2.alloc (.cells #[.int .u64 (u0:Int),.int .u64 (u1:Int),.int .u64 (v0:Int),.int .u64 (v1:Int),.bool false] 194)).heap.size (w2.alloc (.cells #[.int .u64 (u0:Int),.int .u64 (u1:Int),.int .u64 (v0:Int),.int .u64 (v1:Int),.bool false] 194)) w'' from
       have h3:=h.trans (h2.mono h.size)
       ⟨(h3.cell (p:=⟨w2.heap.size,0,none⟩) hSlt).trans s0,(h3.cell (p:=⟨w2.heap.size,1,none⟩) hSlt).trans s1,(h3.cell (p:=⟨w2.heap.size,2,none⟩) hSlt).trans s2,(h3.cell (p:=⟨w2.heap.size,3,none⟩) hSlt).trans s3,h3⟩)
      have hrefl:=Below.refl (w2.alloc (.cells #[.int .u64 (u0:Int),.int .u64 (u1:Int),.int .u64 (v0:Int),.int .u64 (v1:Int),.bool false] 194)).heap.size (w2.alloc (.cells #[.int .u64 (u0:Int),.int .u64 (u1:Int),.int .u64 (v0:Int),.int .u64 (v1:Int),.bool false] 194));go_wp2_with fail
      go_region_held3? (fun w'=>w'.cell? ⟨w2.heap.size,0,none⟩=some (.int .u64 (u0:Int))/\w'.cell? ⟨w2.heap.size,1,none⟩=some (.int .u64 (u1:Int))/\w'.cell? ⟨w2.heap.size,2,none⟩=some (.int .u64 (v0:Int))/\w'.cell? ⟨w2.heap.size,3,none⟩=some (.int .u64 (v1:Int))/\Below (w2.alloc (.cells #[.int .u64 (u0:Int),.int .u64 (u1:Int),.int .u64 (v0:Int),.int .u64 (v1:Int),.bool false] 194)).heap.size (w2.alloc (.cells #[.int .u64 (u0:Int),.int .u64 (u1:Int),.int .u64 (v0:Int),.int .u64 (v1:Int),.bool false] 194)) w') (first|exact⟨s0,s1,s2,s3,hrefl.drew⟩|with_reducible exact KS.out _ _ hrefl.drew hb1|with_reducible exact KS.out _ _ hrefl.drew hb2|exact KS.out _ _ (hrefl.drew.trans hb1) hb2|exact KS.out _ _ (hrefl.drew.trans hb2) hb1)
       (first|(go_at_call_of 189 (Value.int .u64 (v0:Int));refine(D1.out _ (by first|exact hrefl.drew|exact(hrefl.drew.trans hb2))).mono ?_;rintro e w'' ⟨A1,c1,rfl,hc1,hn1,hb1⟩)|(go_at_call_of 189 (Value.int .u64 (u1:Int));refine(D2.out _ (by first|exact hrefl.drew|exact(hrefl.drew.trans hb1))).mono ?_;rintro e w'' ⟨A2,c2,rfl,hc2,hn2,hb2⟩))
      have hval2:=valOf_num (c:=c2) hn2;have hbl:Below wr.heap.size wr w'':=hbS.trans (((hrefl.drew.trans hb1).trans (hb2.mono (hrefl.drew.trans hb1).size)).mono hbS.size);have hl1:ln b32 (v0*b'-u0*a')<=1000000:=Nat.le_trans ((ln_le b32_two).2 (Nat.lt_of_le_of_lt k4 (lt_pow_ln b32_two b'))) hbm
      go_wp2
      go_roundw
      case rel=>exact⟨_,A1,c1,A2,c2,_,rfl,rfl,Num32.below hn1 hb2,hn2,Nat.le_of_lt k3,k1.trans hg,hl1,hc1,hc2,hbel.trans (hbl.mono hbel.size)⟩
      case measure=>rw[hval,hval2];exact k2
     ·
      obtain⟨k1,k2,k3,k4⟩:=steps_even hok;have la:=hok.le0;have lb:=hok.le1;simp only[if_true] at la lb
      have D1:=Lib.hid fun(w':World) (hw':Below (w2.alloc (.cells #[.int .u64 (u0:Int),.int .u64 (u1:Int),.int .u64 (v0:Int),.int .u64 (v1:Int),.bool true] 194)).heap.size (w2.alloc (.cells #[.int .u64 (u0:Int),.int .u64 (u1:Int),.int .u64 (v0:Int),.int .u64 (v1:Int),.bool true] 194)) w')=>difference_any A B c d u0 v0 a' b' w' (Num32.below haS hw') (Num32.below hbS' hw') hok.u0lt hok.v0lt la hn hbm
      have D2:=Lib.hid fun(w':World) (hw':Below (w2.alloc (.cells #[.int .u64 (u0:Int),.int .u64 (u1:Int),.int .u64 (v0:Int),.int .u64 (v1:Int),.bool true] 194)).heap.size (w2.alloc (.cells #[.int .u64 (u0:Int),.int .u64 (u1:Int),.int .u64 (v0:Int),.int .u64 (v1:Int),.bool true] 194)) w')=>difference_any B A d c v1 u1 b' a' w' (Num32.below hbS' hw') (Num32.below haS hw') hok.v1lt hok.u1lt lb hbm hn
      have KS:=Lib.hid fun(w' w'':World) (h:Below (w2.alloc (.cells #[.int .u64 (u0:Int),.int .u64 (u1:Int),.int .u64 (v0:Int),.int .u64 (v1:Int),.bool true] 194)).heap.size (w2.alloc (.cells #[.int .u64 (u0:Int),.int .u64 (u1:Int),.int .u64 (v0:Int),.int .u64 (v1:Int),.bool true] 194)) w') (h2:Below w'.heap.size w' w'')=>(show w''.cell? ⟨w2.heap.size,0,none⟩=some (.int .u64 (u0:Int))/\w''.cell? ⟨w2.heap.size,1,none⟩=some (.int .u64 (u1:Int))/\w''.cell? ⟨w2.heap.size,2,none⟩=some (.int .u64 (v0:Int))/\w''.cell? ⟨w2.heap.size,3,none⟩=some (.int .u64 (v1:Int))/\Below (w2.alloc (.cells #[.int .u64 (u0:Int),.int .u64 (u1:Int),.int .u64 (v0:Int),.int .u64 (v1:Int),.bool true] 194)).heap.size (w2.alloc (.cells #[.int .u64 (u0:Int),.int .u64 (u1:Int),.int .u64 (v0:Int),.int .u64 (v1:Int),.bool true] 194)) w'' from
       have h3:=h.trans (h2.mono h.size)
       ⟨(h3.cell (p:=⟨w2.heap.size,0,none⟩) hSlt).trans s0,(h3.cell (p:=⟨w2.heap.size,1,none⟩) hSlt).trans s1,(h3.cell (p:=⟨w2.heap.size,2,none⟩) hSlt).trans s2,(h3.cell (p:=⟨w2.heap.size,3,none⟩) hSlt).trans s3,h3⟩)
      have hrefl:=Below.refl (w2.alloc (.cells #[.int .u64 (u0:Int),.int .u64 (u1:Int),.int .u64 (v0:Int),.int .u64 (v1:Int),.bool true] 194)).heap.size (w2.alloc (.cells #[.int .u64 (u0:Int),.int .u64 (u1:Int),.int .u64 (v0:Int),.int .u64 (v1:Int),.bool true] 194));go_wp2_with fail
      go_region_held3? (fun w'=>w'.cell? ⟨w2.heap.size,0,none⟩=some (.int .u64 (u0:Int))/\w'.cell? ⟨w2.heap.size,1,none⟩=some (.int .u64 (u1:Int))/\w'.cell? ⟨w2.heap.size,2,none⟩=some (.int .u64 (v0:Int))/\w'.cell? ⟨w2.heap.size,3,none⟩=some (.int .u64 (v1:Int))/\Below (w2.alloc (.cells #[.int .u64 (u0:Int),.int .u64 (u1:Int),.int .u64 (v0:Int),.int .u64 (v1:Int),.bool true] 194)).heap.size (w2.alloc (.cells #[.int .u64 (u0:Int),.int .u64 (u1:Int),.int .u64 (v0:Int),.int .u64 (v1:Int),.bool true] 194)) w') (first|exact⟨s0,s1,s2,s3,hrefl.drew⟩|with_reducible exact KS.out _ _ hrefl.drew hb1|with_reducible exact KS.out _ _ hrefl.drew hb2|exact KS.out _ _ (hrefl.drew.trans hb1) hb2|exact KS.out _ _ (hrefl.drew.trans hb2) hb1)
       (first|(go_at_call_of 189 (Value.int .u64 (u0:Int));refine(D1.out _ (by first|exact hrefl.drew|exact(hrefl.drew.trans hb2))).mono ?_;rintro e w'' ⟨A1,c1,rfl,hc1,hn1,hb1⟩)|(go_at_call_of 189 (Value.int .u64 (v1:Int));refine(D2.out _ (by first|exact hrefl.drew|exact(hrefl.drew.trans hb1))).mono ?_;rintro e w'' ⟨A2,c2,rfl,hc2,hn2,hb2⟩))
      have hval2:=valOf_num (c:=c2) hn2;have hbl:Below wr.heap.size wr w'':=hbS.trans (((hrefl.drew.trans hb1).trans (hb2.mono (hrefl.drew.trans hb1).size)).mono hbS.size);have hl1:ln b32 (u0*a'-v0*b')<=1000000:=Nat.le_trans ((ln_le b32_two).2 (Nat.lt_of_le_of_lt k4 (lt_pow_ln b32_two b'))) hbm
      go_wp2
      go_roundw
      case rel=>exact⟨_,A1,c1,A2,c2,_,rfl,rfl,Num32.below hn1 hb2,hn2,Nat.le_of_lt k3,k1.trans hg,hl1,hc1,hc2,hbel.trans (hbl.mono hbel.size)⟩
      case measure=>rw[hval,hval2];exact k2
   ·
    have t3:¬((2:Int)<(ln b32 b':Int)):=by omega
    by_cases hz:b'=0
    ·
     subst hz
     rw[ln_zero] at*
     go_wp2_with fail
     go_ret
     rw[Nat.gcd_zero_right] at hg;subst hg;exact⟨A,c,rfl,hc,ha,hbel⟩
    ·
     have hbl:ln b32 b'≠0:=by have:=(ln_pos b32_two).2 (show 0<b' by omega);omega
     have hb0:0<b':=by omega
     have tz:((ln b32 b':Int)==0)=false:=by simp;omega
     go_upto_if 71 with(fail)
     have hval:=hz
     go_cut [0,1] (fun x y wx=>∃A c B d a'' b'',x= .slice A (ln b32 a'') c/\y= .slice B (ln b32 b'') d/\ln b32 a''<=2/\ln b32 b''<=2/\Num32 wx A a''/\Num32 wx B b''/\Nat.gcd a'' b''=G/\Below w.heap.size w wx)
     case first=>
      by_cases ht:3<=ln b32 a'
      ·
       have t4:(2:Int)<(ln b32 a':Int):=by omega
       go_wp2_with fail
       refine(divide_any A B c d a' b' _ ha hb hb0 hn).mono ?_
       rintro e w3 ⟨Aq,cq,Ar,cr,rfl,hq1,hr1,hq,hr,hb3⟩
       have hmod:=Nat.mod_lt a' hb0;have hlr:ln b32 (a'%b')<=2:=Nat.le_trans ((ln_le b32_two).2 (Nat.lt_trans hmod (lt_pow_ln b32_two b'))) (by omega);go_wp2_with fail
       go_meet
       exact⟨B,d,Ar,cr,b',a'%b',rfl,rfl,by omega,hlr,Num32.below hb hb3,hr,by rw[Nat.gcd_comm,<-Nat.gcd_rec,Nat.gcd_comm];exact hg,hbel.trans (hb3.mono hbel.size)⟩
      ·
       have t4:¬((2:Int)<(ln b32 a':Int)):=by omega
       go_wp2_with fail
       go_meet
       exact⟨A,c,B,d,a',b',rfl,rfl,by omega,by omega,ha,hb,hg,hbel⟩
     case rest=>
      obtain⟨A,c,B,d,x,y,rfl,rfl,hx2,hy2,hnx,hny,hg,hbel⟩:=hcut;have hx64:x<18446744073709551616:=Nat.lt_of_lt_of_le ((ln_le b32_two).1 hx2) (Nat.le_refl _);have hy64:y<18446744073709551616:=Nat.lt_of_lt_of_le ((ln_le b32_two).1 hy2) (Nat.le_refl _);go_wp2_with fail
      refine(long_any A c x _ hnx hx2).mono ?_
      rintro e w3 ⟨rfl,hb3⟩
      go_wp2_with fail
      refine(long_any B d y _ (Num32.below hny hb3) hy2).mono ?_
      rintro e w4 ⟨rfl,hb4⟩
      have hb34:=hbel.trans ((hb3.trans (hb4.mono hb3.size)).mono hbel.size);go_wp2_with fail
      go_loopw [10,11] (fun p q wr=>∃X Y:Nat,p= .int .u64 (X:Int)/\q= .int .u64 (Y:Int)/\X<18446744073709551616/\Y<18446744073709551616/\Nat.gcd X Y=G/\Below w.heap.size w wr) (fun _ q _=>(intOf q).toNat)
      case atStart=>exact⟨x,y,rfl,rfl,hx64,hy64,hg,hb34⟩
      case round=>
       obtain⟨X,Y,rfl,rfl,hX,hY,hg,hbel⟩:=hrel
       by_cases hY0:Y=0
       ·
        subst hY0;go_wp2_with fail
        refine(short_any X _ hX).mono ?_
        rintro e w5 ⟨A5,c5,rfl,hc5,hn5,hb5⟩
        rw[Nat.gcd_zero_right] at hg;subst hg;go_wp2_with fail
        go_ret
        exact⟨A5,c5,rfl,hc5,hn5,hbel.trans (hb5.mono hbel.size)⟩
       ·
        have t5:((Y:Int) !=0)=true:=by simp;omega
        have t6:(Y:Int)≠0:=by omega
        have hmod:=Nat.mod_lt X (show 0<Y by omega);go_wp2_with fail
        go_quiet (fail)
        go_wp2
        go_roundw
        case rel=>exact⟨Y,X%Y,rfl,rfl,hY,by omega,by rw[Nat.gcd_comm,<-Nat.gcd_rec,Nat.gcd_comm];exact hg,belowN hbel nq⟩
        case measure=>simp[intOf];omega
end Go.Proofs.YtclbiihcbfnjmaaGreat
namespace Go.Proofs.YtclbiihcbfnjmaaGreat
open Go.RowKit

theorem allValid_two (g:Nat)(s t:Bool)(A B:Option Addr)(n m c d:Nat)(f h:Nat->Nat)(w:World)
  (hg:w.heap[g]?=some (.cells #[.bool s,.slice A n c,.bool t,.slice B m d] 27 (0,0)))
  (hA:Rd w.heap.size .u16 w A n f) (hB:Rd w.heap.size .u16 w B m h) (hf:∀i,f i<65536) (hh:∀i,h i<65536) (hn:n<=1000000) (hm:m<=1000000):
  Calls Tryz.prog 122 #[.slice (some ⟨g,0,none⟩) 2 2] w fun e w'=>e= .returned (.bool (okW s n f&&okW t m h))/\Below w.heap.size w w':=by
 refine(allValid_any g 0 2 (fun i=>if i=0 then s else t) (fun i=>if i=0 then A else B) (fun i=>if i=0 then n else m) (fun i=>if i=0 then c else d) (fun i=>if i=0 then f else h) w ?_ (heap_lt hg) (by omega)).mono ?_
 ·
  intro i hi
  match i,hi with
  |0,_=>exact⟨(cell_of_row w g 0 _ _ (0,0) hg).trans rfl,(cell_of_row w g 1 _ _ (0,0) hg).trans rfl,hA,fun j _=>hf j,hn⟩
  |1,_=>exact⟨(cell_of_row w g 2 _ _ (0,0) hg).trans rfl,(cell_of_row w g 3 _ _ (0,0) hg).trans rfl,hB,fun j _=>hh j,hm⟩
 ·
  rintro e w' ⟨rfl,hb⟩
  exact⟨ret_bool (by simp[okAll]),hb⟩

structure Two (w:World)(s t:Bool)(A B:Option Addr)(n m c d:Nat)(w':World):Prop where
 p0:WholeAt w' w.heap.size s (.slice A n c)
 p1:WholeAt w' (w.heap.size+1) t (.slice B m d)
 r:WholeAt w' (w.heap.size+1+1) false (.slice none 0 0)
 bel:Below w.heap.size w w'
theorem two_call (s t:Bool)(A B:Option Addr)(n m c d:Nat)(f h:Nat->Nat)(w:World)
  (hA:Rd w.heap.size .u16 w A n f) (hB:Rd w.heap.size .u16 w B m h) (hf:∀i,f i<65536) (hh:∀i,h i<65536) (hn:n<=1000000) (hm:m<=1000000):
  Calls Tryz.prog 122 #[.slice (some ⟨w.heap.size+1+1+1,0,none⟩) 2 2]
   ((((w.alloc (.cells #[.bool s,.slice A n c] 27)).alloc (.cells #[.bool t,.slice B m d] 27)).alloc (.cells #[.bool false,.slice none 0 0] 27)).alloc (.cells #[.bool s,.slice A n c,.bool t,.slice B m d] 27))
   fun e w'=>e= .returned (.bool (okW s n f&&okW t m h))/\Two w s t A B n m c d w':=by
 have b1:Below w.heap.size w (w.alloc (.cells #[.bool s,.slice A n c] 27)):=(Below.refl _ w).alloc (Nat.le_refl _) _;have b2:=b1.alloc (by simp) (.cells #[.bool t,.slice B m d] 27);have b3:=b2.alloc (by first|(simp;done)|(simp;omega)) (.cells #[.bool false,.slice none 0 0] 27);have b4:=b3.alloc (by first|(simp;done)|(simp;omega)) (.cells #[.bool s,.slice A n c,.bool t,.slice B m d] 27);have q0:=WholeAt.new w s (.slice A n c);have q1:=WholeAt.new (w.alloc (.cells #[.bool s,.slice A n c] 27)) t (.slice B m d);have q2:=WholeAt.new ((w.alloc (.cells #[.bool s,.slice A n c] 27)).alloc (.cells #[.bool t,.slice B m d] 27)) false (.slice none 0 0);have q3:=heap_alloc_new (((w.alloc (.cells #[.bool s,.slice A n c] 27)).alloc (.cells #[.bool t,.slice B m d] 27)).alloc (.cells #[.bool false,.slice none 0 0] 27)) (.cells #[.bool s,.slice A n c,.bool t,.slice B m d] 27);simp only[World.size_alloc] at q1 q2 q3;refine(allValid_two (w.heap.size+1+1+1) s t A B n m c d f h _ q3 ((hA.below b4).more b4.size) ((hB.below b4).more b4.size) hf hh hn hm).mono ?_
 rintro e w' ⟨rfl,hb⟩
 refine⟨rfl, ?_, ?_, ?_,b4.trans (hb.mono b4.size)⟩
 ·
  refine WholeAt.below ?_ hb (by first|(simp;done)|(simp;omega));exact(Below.heap_alloc _ _ _ (by first|(simp;done)|(simp;omega))).trans ((Below.heap_alloc _ _ _ (by first|(simp;done)|(simp;omega))).trans ((Below.heap_alloc _ _ _ (by simp)).trans q0))
 ·
  refine WholeAt.below ?_ hb (by first|(simp;done)|(simp;omega));exact(Below.heap_alloc _ _ _ (by first|(simp;done)|(simp;omega))).trans ((Below.heap_alloc _ _ _ (by simp)).trans q1)
 ·
  refine WholeAt.below ?_ hb (by simp);exact(Below.heap_alloc _ _ _ (by simp)).trans q2

structure TwoP (w:World)(s t:Bool)(A B:Option Addr)(n m c d:Nat)(w':World):Prop where
 p0:WholeAt w' w.heap.size s (.slice A n c)
 p1:WholeAt w' (w.heap.size+1) t (.slice B m d)
 bel:Below w.heap.size w w'
theorem TwoP.below {w:World}{s t:Bool}{A B:Option Addr}{n m c d:Nat}{w' w'':World}(h:TwoP w s t A B n m c d w')(h2:Below w'.heap.size w' w''):TwoP w s t A B n m c d w'':=
 ⟨h.p0.below h2 h.p0.lt,h.p1.below h2 h.p1.lt,h.bel.trans (h2.mono h.bel.size)⟩
theorem TwoP.store {w:World}{s t:Bool}{A B:Option Addr}{n m c d:Nat}{w':World}(h:TwoP w s t A B n m c d w')(s':Bool)(v':Value):
  TwoP w s t A B n m c d ((w'.setCell ⟨w.heap.size+1+1,0,none⟩ (.bool s')).setCell ⟨w.heap.size+1+1,1,none⟩ v'):=
 have e0:w.heap.size≠w.heap.size+1+1:=by omega
 have e1:w.heap.size+1≠w.heap.size+1+1:=by omega
 have e2:w.heap.size<=w.heap.size+1+1:=by omega
 ⟨(Below.heap_setCell _ _ _ _ e0).trans ((Below.heap_setCell _ _ _ _ e0).trans h.p0),(Below.heap_setCell _ _ _ _ e1).trans ((Below.heap_setCell _ _ _ _ e1).trans h.p1),
  (h.bel.setCell (p:=⟨w.heap.size+1+1,0,none⟩) e2 _).setCell (p:=⟨w.heap.size+1+1,1,none⟩) e2 _⟩
theorem TwoP.s {w:World}{s t:Bool}{A B:Option Addr}{n m c d:Nat}{w':World}(h:TwoP w s t A B n m c d w'):
  w'.cell? ⟨w.heap.size,0,none⟩=some (.bool s)/\w'.cell? ⟨w.heap.size,1,none⟩=some (.slice A n c)/\w'.cell? ⟨w.heap.size+1,0,none⟩=some (.bool t)/\w'.cell? ⟨w.heap.size+1,1,none⟩=some (.slice B m d)/\TwoP w s t A B n m c d w':=⟨h.p0.cells.1,h.p0.cells.2,h.p1.cells.1,h.p1.cells.2,h⟩
theorem okW_two {a b:Int}(ha:ln b16 a.natAbs<=1024)(hb:ln b16 b.natAbs<=1024):(okW (decide (a<0)) (ln b16 a.natAbs) (dgt b16 a.natAbs)&&okW (decide (b<0)) (ln b16 b.natAbs) (dgt b16 b.natAbs))=true:=by
 rw[okW_num ha,okW_num hb];rfl
theorem ln32_short {x:Nat}(h:ln b16 x<=1024):ln b32 x<=512:=by rw[ln32_two];omega

theorem add_any (a b:Int)(A B:Option Addr)(c d:Nat)(w:World)(hA:Num16 w A a.natAbs)(hB:Num16 w B b.natAbs)(ha:ln b16 a.natAbs<=1024)(hb:ln b16 b.natAbs<=1024):
  Calls Tryz.prog 153 #[.agg #[.bool (decide (a<0)),.slice A (ln b16 a.natAbs) c],.agg #[.bool (decide (b<0)),.slice B (ln b16 b.natAbs) d]] w (RI w (a+b)):=by
 have htwo:=two_call (decide (a<0)) (decide (b<0)) A B (ln b16 a.natAbs) (ln b16 b.natAbs) c d _ _ w hA hB (fun i=>dgt16_lt _ i) (fun i=>dgt16_lt _ i) (by omega) (by omega);rw[okW_two ha hb] at htwo;have la:=ln32_short ha;have lb:=ln32_short hb
 have hsum:toI (decide (a<0)) a.natAbs+toI (decide (b<0)) b.natAbs=a+b:=by rw[toI_int,toI_int]
 have HSUM:=Lib.hid hsum;clear hsum
 obtain⟨s,hs⟩:∃s,s=decide (a<0):=⟨_,rfl⟩
 obtain⟨t,ht⟩:∃t,t=decide (b<0):=⟨_,rfl⟩
 rw[<-hs,<-ht] at htwo HSUM⊢;clear hs ht
 go_enter Tryz.func153,Tryz.ntmps153
 go_wp2_with fail
 refine htwo.mono ?_
 rintro e w1 ⟨rfl,ht⟩
 have D1:=Lib.hid fun(w':World) (hw':Below w.heap.size w w')=>pack_any A c a.natAbs w' (Num16.below hA hw') (by omega)
 have D2:=Lib.hid fun(w':World) (hw':Below w.heap.size w w')=>pack_any B d b.natAbs w' (Num16.below hB hw') (by omega)
 have hT0:TwoP w s t A B (ln b16 a.natAbs) (ln b16 b.natAbs) c d w1.drew:=⟨ht.p0,ht.p1,ht.bel.drew⟩;have hR0:WholeAt w1.drew (w.heap.size+1+1) false (.slice none 0 0):=ht.r;have HT:=Lib.hid ht;clear ht;go_wp2_with fail
 go_region_held3 (fun w'=>w'.cell? ⟨w.heap.size,0,none⟩=some (.bool s)/\w'.cell? ⟨w.heap.size,1,none⟩=some (.slice A (ln b16 a.natAbs) c)/\w'.cell? ⟨w.heap.size+1,0,none⟩=some (.bool t)/\w'.cell? ⟨w.heap.size+1,1,none⟩=some (.slice B (ln b16 b.natAbs) d)/\TwoP w s t A B (ln b16 a.natAbs) (ln b16 b.natAbs) c d w')
  (first|with_reducible exact hT4.s|with_reducible exact hT3.s|with_reducible exact hT2.s|with_reducible exact hT1.s|with_reducible exact hT0.s)
  (first
   |(go_at_call_of 124 (Value.slice A (ln b16 a.natAbs) c);refine(D1.out _ hT0.bel).mono ?_;rintro e w2 ⟨A1,c1,rfl,hc1,hn1,hb1⟩;have hT1:=hT0.below hb1)
   |(go_at_call_of 124 (Value.slice B (ln b16 b.natAbs) d);refine(D2.out _ hT1.bel).mono ?_;rintro e w3 ⟨A2,c2,rfl,hc2,hn2,hb2⟩;have hT2:=hT1.below hb2)
   |(go_at_call 171;refine(sum_any s t A1 A2 c1 c2 a.natAbs b.natAbs _ (Num32.below hn1 hb2) hn2 (by omega) (by omega)).mono ?_;rintro e w4 hri;obtain⟨s',A',n',c',k,rfl,hv,hb3⟩:=hri.vals;have hT3:=hT2.below hb3;have hR1:=hR0.below hb1 hR0.lt;have hR2:=hR1.below hb2 hR1.lt;have hR3:=hR2.below hb3 hR2.lt;obtain⟨r0,r1⟩:=hR3.cells;have g0:=hR3.frozen 0;have g1:=hR3.frozen 1;have hT4:=hT3.store s' (.slice A' n' c')))
 obtain⟨hW,hbW⟩:=store_whole hR3 hT3.bel (show w.heap.size<=w.heap.size+1+1 by omega) s' (.slice A' n' c');have hsz:=hT2.bel.size;have hv2:=(hv.store hR2.lt s' (.slice A' n' c')).lower hsz;rw[HSUM.out] at hv2;clear hv hT0 hT1 hT2 hT3 hT4 hR0 hR1 hR2 hR3 r0 r1 g0 g1 hri
 go_wp2
 generalize ((w4.setCell ⟨w.heap.size+1+1,0,none⟩ (.bool s')).setCell ⟨w.heap.size+1+1,1,none⟩ (.slice A' n' c'))=WW at*
 obtain⟨k0,k1⟩:=hW.cells;refine bodyPost_ret (v:= .tuple #[.agg #[.bool s',.slice A' n' c'],.int .i64 k]) (by simp[results,Tryz.results153,go_sem,k0,k1]) rfl ?_;exact hv2.ri hbW
end Go.Proofs.YtclbiihcbfnjmaaGreat
namespace Go.Proofs.YtclbiihcbfnjmaaGreat
open Go.RowKit

theorem make_any (t:Bool)(A:Option Addr)(n c:Nat)(w:World):Calls Tryz.prog 162 #[.bool t,.slice A n c] w fun e w'=>e= .returned (.agg #[.bool (t&&decide (0<n)),.slice A n c])/\Below w.heap.size w w':=by
 have b1:Below w.heap.size w (w.alloc (.cells #[.bool false,.slice none 0 0] 27)):=(Below.refl _ w).alloc (Nat.le_refl _) _
 go_enter Tryz.func162,Tryz.ntmps162
 cases t
 ·
  go_wp2_with fail
  exact bodyPost_ret (v:= .agg #[.bool false,.slice A n c]) (by simp[results,Tryz.results162,go_sem]) rfl ⟨by simp,(Below.refl _ w).alloc (Nat.le_refl _) _⟩
 ·
  by_cases hn:0<n
  ·
   have t1:(0:Int)<(n:Int):=by omega
   go_wp2_with fail
   exact bodyPost_ret (v:= .agg #[.bool true,.slice A n c]) (by simp[results,Tryz.results162,go_sem]) rfl ⟨by simp[hn],(Below.refl _ w).alloc (Nat.le_refl _) _⟩
  ·
   obtain rfl:n=0:=by omega
   go_wp2_with fail
   exact bodyPost_ret (v:= .agg #[.bool false,.slice A 0 c]) (by simp[results,Tryz.results162,go_sem]) rfl ⟨by simp,(Below.refl _ w).alloc (Nat.le_refl _) _⟩

theorem own_slice16 {base n:Nat}{w:World}{v:Value}{xs:List Value}(h:w.ownsRow base 108 1 v n xs):∃A c,v= .slice A n c:=by
 rcases h.2 with⟨hv,hn⟩|⟨g,cap,cur,hv,_⟩
 ·exact⟨none,0,by rw[hv,hn]⟩
 ·exact⟨_,_,hv⟩
theorem ln16_step {x k:Nat}:0<x/65536^k↔k<ln b16 x:=by
 rw[ln_lt b16_two,Nat.div_pos_iff];exact⟨fun h=>h.2,fun h=>⟨Nat.pow_pos (by decide),h⟩⟩
theorem refFromInt_any (z:Int)(w:World)(h1:-9223372036854775808<=z)(h2:z<=9223372036854775807):Calls Tryz.prog 168 #[.int .i64 z] w (WI w z):=by
 obtain⟨x,hx⟩:∃x,x=z.natAbs:=⟨_,rfl⟩
 have hx64:x<18446744073709551616:=by omega
 have hl4:ln b16 x<=4:=(ln_le b16_two).2 hx64;obtain⟨i0,hi,hz0,hz1,hz2⟩:=info_parts info_u16
 go_enter Tryz.func168,Tryz.ntmps168
 go_upto_if 8 with(fail)
 go_cut [3] (fun v wx=>v= .int .u64 (x:Int)/\wx=w.alloc (.cells #[.bool false,.slice none 0 0] 27))
 case first=>
  by_cases hneg:z<0
  ·
   go_wp2_with fail
   go_meet
   refine⟨?_,rfl⟩
   congr 1
   rw[IntKind.wrap_u64,IntKind.wrap_u64];omega
  ·
   go_wp2_with fail
   go_meet
   refine⟨?_,rfl⟩
   congr 1
   rw[IntKind.wrap_u64];omega
 case rest=>
  obtain⟨rfl,rfl⟩:=hcut;have HX:=Lib.hid hx;clear hx;have hR0:=WholeAt.new w false (.slice none 0 0);have hb0:Below w.heap.size w (w.alloc (.cells #[.bool false,.slice none 0 0] 27)):=(Below.refl _ w).alloc (Nat.le_refl _) _;go_wp2_with fail
  go_loopw [3,4] (fun u v wr=>∃k X,u= .int .u64 ((X:Nat):Int)/\Hid (X=x/65536^k)/\X<18446744073709551616/\k<=ln b16 x/\Hid (lenV v=k)/\wr.ownsRow (w.heap.size+1) 108 1 v k (nums .u16 k (dgt b16 x))/\WholeAt wr w.heap.size false (.slice none 0 0)/\Below w.heap.size w wr) (fun _ v _=>ln b16 x-lenV v)
  case atStart=>exact⟨0,x,rfl,Lib.hid (by simp),hx64,Nat.zero_le _,Lib.hid rfl,World.ownsRow_nil ..,hR0,hb0⟩
  case round=>
   obtain⟨k,X,rfl,hX,hX64,hk,hlv,hown,hp,hbl⟩:=hrel;have hsz:=hbl.size;have hpl:=hp.lt
   by_cases hX0:0<X
   ·
    have t1:(0:Int)<(X:Int):=by omega
    have hd:X%65536=dgt b16 x k:=by rw[hX.out];rfl
    have hk9:k<ln b16 x:=ln16_step.1 (by rw[<-hX.out];exact hX0);have hdl:=dgt16_lt x k
    have e3:(X:Int)%65536=((dgt b16 x k:Nat):Int):=by omega
    have HD:=Lib.hid hd;clear hd;go_wp2_with (at_builtin;refine wpList_append_own _ rfl _ _ 25 rfl (w.heap.size+1) 108 i0 (.int .u16 0) 1 2 Tryz.underlying25 hi hz0 hz1 hz2 rfl (by decide) _ _ _ rfl (hown.alloc _) ⟨wr.heap.size,0,none⟩ 1 1 [.int .u16 ((dgt b16 x k:Nat):Int)] rfl rfl (cell_one_new _ _ _) (by simp[Value.oneCell']) (by unfold maxLen;omega) (by omega) (by simp;omega) ?_;intro v' w5 hown5 hgrow _;obtain⟨g',cap',rfl⟩:=ownsRow_succ hown5)
    go_roundw
    case rel=>
     rw[nums_succ] at hown5;exact⟨k+1,X/65536,by congr 1,Lib.hid (by rw[hX.out,Nat.div_div_eq_div_mul,Nat.pow_succ]),by omega,hk9,Lib.hid rfl,hown5,(hp.alloc' _).grown hgrow (own_not hown (Nat.lt_succ_self _)),(hbl.alloc hsz (.cells #[.int .u16 ((dgt b16 x k:Nat):Int)] 108)).grown hgrow (by simp;omega) (fun g hg=>by have:=(hown.lt g hg).1;omega)⟩
    case measure=>show ln b16 x-(k+1)<ln b16 x-lenV u4;rw[hlv.out];omega
   ·
    obtain rfl:X=0:=by omega
    have hkk:k=ln b16 x:=by
     have:=mt ln16_step.2 (by rw[<-hX.out];decide:¬0<x/65536^k);omega
    subst hkk;obtain⟨A,c,rfl⟩:=own_slice16 hown;have hm:=make_any (decide (z<0)) A (ln b16 x) c wr
    rw[show(decide (z<0)&&decide (0<ln b16 x))=decide (z<0) by
     by_cases hz:z<0
     ·
      have:=(ln_pos b16_two (x:=x)).2 (by have:=HX.out;omega)
      simp[hz,this]
     ·simp[hz]] at hm
    have HM:=Lib.hid hm;clear hm
    obtain⟨s,hs⟩:∃s,s=decide (z<0):=⟨_,rfl⟩
    rw[<-hs] at HM;have HS:=Lib.hid hs;go_wp2_with fail
    rw[<-HS.out];clear hs;refine HM.out.mono ?_
    rintro e w5 ⟨rfl,hb5⟩
    have hR5:=hp.below hb5 hpl;have hbl5:=hbl.trans (hb5.mono hsz);have ho5:Own16 (w.heap.size+1) w5 A (ln b16 x) c (dgt b16 x):=own_below hown hb5 (Nat.le_refl _);obtain⟨r0,r1⟩:=hR5.cells;have g0:=hR5.frozen 0;have g1:=hR5.frozen 1;obtain⟨hW,hbW⟩:=store_whole hR5 hbl5 (Nat.le_refl _) s (.slice A (ln b16 x) c);have ho6:=(store_own (R:=w.heap.size) ho5 (Nat.lt_succ_self _) s (.slice A (ln b16 x) c)).lower (base':=w.heap.size) (by omega);have HW:=Lib.hid hW;clear hW ho5 hown;go_wp2_with fail
    have hW:=HW.out;clear HW hR5 r0 r1
    generalize ((w5.setCell ⟨w.heap.size,0,none⟩ (.bool s)).setCell ⟨w.heap.size,1,none⟩ (.slice A (ln b16 x) c))=WW at*
    obtain⟨k0,k1⟩:=hW.cells;refine bodyPost_ret (v:= .agg #[.bool s,.slice A (ln b16 x) c]) (by simp[results,Tryz.results168,go_sem,k0,k1]) rfl ?_;rw[HX.out] at ho6⊢;rw[HS.out];exact⟨A,c,rfl,ho6,hbW⟩

theorem TwoP.start (w:World)(s t:Bool)(A B:Option Addr)(n m c d:Nat):TwoP w s t A B n m c d ((w.alloc (.cells #[.bool s,.slice A n c] 27)).alloc (.cells #[.bool t,.slice B m d] 27)):=by
 have b1:Below w.heap.size w (w.alloc (.cells #[.bool s,.slice A n c] 27)):=(Below.refl _ w).alloc (Nat.le_refl _) _;have q1:=WholeAt.new (w.alloc (.cells #[.bool s,.slice A n c] 27)) t (.slice B m d);rw[World.size_alloc] at q1;exact⟨(Below.heap_alloc _ _ _ (by simp)).trans (WholeAt.new w s (.slice A n c)),q1,b1.alloc b1.size _⟩
theorem TwoP.drewN {w:World}{s t:Bool}{A B:Option Addr}{n m c d:Nat}{w':World}(h:TwoP w s t A B n m c d w')(q:Nat):TwoP w s t A B n m c d (w'.drewN q):=⟨h.p0,h.p1,belowN h.bel q⟩
theorem refSame_any (s t:Bool)(A B:Option Addr)(n m c d:Nat)(f h:Nat->Nat)(w:World)(hA:Rd w.heap.size .u16 w A n f)(hB:Rd w.heap.size .u16 w B m h)(hn:n<=1000000)(hm:m<=1000000):
  Calls Tryz.prog 79 #[.agg #[.bool s,.slice A n c],.agg #[.bool t,.slice B m d]] w fun e w'=>e= .returned (.bool (sameW s t n m f h))/\Below w.heap.size w w':=by
 have hT:=TwoP.start w s t A B n m c d
 by_cases hst:s=t
 ·
  subst hst
  by_cases hl:n=m
  ·
   subst hl
   go_enter Tryz.func79,Tryz.ntmps79
   go_wp2_with fail
   go_loopw [5] (fun i wr=>∃k:Nat,k<=n/\i= .int .i64 (k:Int)/\Hid (eqU f h k=true)/\TwoP w s s A B n n c d wr) (fun i _=>n-(intOf i).toNat)
   case atStart=>exact⟨0,Nat.zero_le _,rfl,Lib.hid rfl,hT⟩
   case round=>
    obtain⟨k,hk,rfl,hok,hT⟩:=hrel;obtain⟨p0,p1⟩:=hT.p0.cells;obtain⟨p2,p3⟩:=hT.p1.cells
    by_cases hlt:k<n
    ·
     obtain⟨pa,qa,rfl,hpa,hca⟩:=(hA.below hT.bel) (by omega);obtain⟨pb,qb,rfl,hpb,hcb⟩:=(hB.below hT.bel) (by omega);have c1:=hca k hlt;have c2:=hcb k hlt;clear hca hcb
     by_cases he:f k=h k
     ·
      have t1:(((f k:Nat):Int) !=((h k:Nat):Int))=false:=by rw[he];simp
      have HE:=Lib.hid he;clear he;go_wp2_with fail
      go_quiet (fail)
      go_wp2
      go_roundw
      case rel=>exact⟨k+1,by omega,by go_num,Lib.hid (eqU_step hok.out HE.out),hT.drewN _⟩
      case measure=>simp[intOf];omega
     ·
      have t1:(((f k:Nat):Int) !=((h k:Nat):Int))=true:=bne_iff_ne.2 (by omega)
      have hfin:sameW s s n n f h=false:=by unfold sameW eqL;rw[eqU_false hlt he,Bool.and_false,Bool.and_false]
      have HF:=Lib.hid hfin;clear hfin he;go_wp2_with fail
      go_quiet (fail)
      go_wp2
      go_ret
      exact⟨ret_bool HF.out.symm,(hT.drewN _).bel⟩
    ·
     obtain rfl:k=n:=by omega
     have hfin:sameW s s k k f h=true:=by unfold sameW eqL;rw[hok.out];simp
     have HF:=Lib.hid hfin;clear hfin;go_wp2_with fail
     go_ret
     exact⟨ret_bool HF.out.symm,hT.bel⟩
  ·
   have t0:((n:Int) !=(m:Int))=true:=bne_iff_ne.2 (by omega)
   have hfin:sameW s s n m f h=false:=by unfold sameW eqL;rw[beq_false_of_ne hl,Bool.false_and,Bool.and_false]
   have HF:=Lib.hid hfin;clear hfin
   go_enter Tryz.func79,Tryz.ntmps79
   go_wp2_with fail
   go_ret
   exact⟨ret_bool HF.out.symm,hT.bel⟩
 ·
  have t0:(s==t)=false:=by simp[hst]
  have hfin:sameW s t n m f h=false:=by unfold sameW;rw[t0,Bool.false_and]
  have HF:=Lib.hid hfin;clear hfin
  go_enter Tryz.func79,Tryz.ntmps79
  go_wp2_with fail
  go_ret
  exact⟨ret_bool HF.out.symm,hT.bel⟩
theorem eqU_iff {f h:Nat->Nat}{n:Nat}:eqU f h n=true↔∀i,i<n->f i=h i:=by
 induction n with
 |zero=>simp[eqU]
 |succ n ih=>
  simp only[eqU,Bool.and_eq_true,ih,beq_iff_eq]
  exact⟨fun⟨h1,h2⟩ i hi=>by
   rcases Nat.lt_or_ge i n with h3|h3
   ·exact h1 i h3
   ·rw[show i=n by omega];exact h2,fun h=>⟨fun i hi=>h i (by omega),h n (by omega)⟩⟩
theorem sameW_num (a b:Int):sameW (decide (a<0)) (decide (b<0)) (ln b16 a.natAbs) (ln b16 b.natAbs) (dgt b16 a.natAbs) (dgt b16 b.natAbs)=decide (a=b):=by
 by_cases hab:a=b
 ·
  subst hab
  simp[sameW,eqL,eqU_iff.2 (fun i _=>rfl)]
 ·
  rw[decide_eq_false hab];unfold sameW eqL
  by_cases hs:decide (a<0)=decide (b<0)
  ·
   rw[hs,beq_self_eq_true,Bool.true_and]
   by_cases hl:ln b16 a.natAbs=ln b16 b.natAbs
   ·
    rw[hl,beq_self_eq_true,Bool.true_and]
    cases he:eqU (dgt b16 a.natAbs) (dgt b16 b.natAbs) (ln b16 b.natAbs) with
    |false=>rfl
    |true=>
     have h1:=vs_congr (B:=b16) (eqU_iff.1 he);rw[<-hl,vs_dgt_ln b16_two,hl,vs_dgt_ln b16_two] at h1;exfalso
     by_cases h0:a<0<;>by_cases h00:b<0<;>simp[h0,h00] at hs<;>omega
   ·rw[beq_false_of_ne hl,Bool.false_and]
  ·rw[beq_false_of_ne hs,Bool.false_and]
end Go.Proofs.YtclbiihcbfnjmaaGreat
namespace Go.Proofs.YtclbiihcbfnjmaaGreat
open Go.RowKit

theorem fd_unique {a b q r:Int}(h:a=q*b+r)(hr:(0<=r/\r<b)\/(b<r/\r<=0)):q=a.fdiv b/\r=a.fmod b:=by
 rcases hr with⟨h1,h2⟩|⟨h1,h2⟩
 ·
  have hb:0<b:=by omega
  rw[Int.fdiv_eq_ediv_of_nonneg _ (by omega),Int.fmod_eq_emod_of_nonneg _ (by omega)];have:=(Int.ediv_emod_unique hb (a:=a) (q:=q) (r:=r)).2 ⟨by rw[h,Int.mul_comm];omega,h1,h2⟩;exact⟨this.1.symm,this.2.symm⟩
 ·
  have hb:0< -b:=by omega
  have e1:a.fdiv b=(-a).fdiv (-b):=by rw[Int.neg_fdiv_neg]
  have hm:=Int.mul_fdiv_add_fmod a b;have hm':=Int.mul_fdiv_add_fmod (-a) (-b);rw[<-e1] at hm'
  have e2:a.fmod b=-(-a).fmod (-b):=by rw[Int.neg_mul] at hm';omega
  rw[e1,e2,Int.fdiv_eq_ediv_of_nonneg _ (by omega),Int.fmod_eq_emod_of_nonneg _ (by omega)];have:=(Int.ediv_emod_unique hb (a:=-a) (q:=q) (r:=-r)).2 ⟨by rw[h,Int.neg_mul,Int.mul_comm b q];omega,by omega,by omega⟩;exact⟨this.1.symm,by omega⟩
theorem toI_cases (a:Int):(decide (a<0)=true/\a=-(a.natAbs:Int)/\0<a.natAbs)\/(decide (a<0)=false/\a=(a.natAbs:Int)):=by
 by_cases h:a<0
 ·left;simp[h];omega
 ·right;simp[h];omega
theorem floor_same (a:Int){b:Int}(hb:b≠0)(h:¬(decide (a<0)≠decide (b<0)/\0<a.natAbs%b.natAbs)):
  toI (decide (a<0) !=decide (b<0)) (a.natAbs/b.natAbs)=a.fdiv b/\toI (decide (b<0)) (a.natAbs%b.natAbs)=a.fmod b:=by
 have hy:0<b.natAbs:=by omega
 have hd:=Nat.div_add_mod a.natAbs b.natAbs;have hm:=Nat.mod_lt a.natAbs hy
 obtain⟨q,hq⟩:∃q,q=a.natAbs/b.natAbs:=⟨_,rfl⟩
 obtain⟨r,hr⟩:∃r,r=a.natAbs%b.natAbs:=⟨_,rfl⟩
 rw[<-hq,<-hr] at hd⊢;rw[<-hr] at hm h
 have hd':(b.natAbs:Int)*(q:Int)+(r:Int)=(a.natAbs:Int):=by rw[<-Int.natCast_mul];omega
 have hrr:(toI (decide (b<0)) r=toI (decide (b<0)) r):=rfl
 rcases toI_cases a with⟨sa,ea,pa⟩|⟨sa,ea⟩<;>rcases toI_cases b with⟨sb,eb,pb⟩|⟨sb,eb⟩<;>rw[sa,sb] at h⊢<;>simp only[toI]<;>generalize a.natAbs=x at*<;>generalize b.natAbs=y at*<;>subst ea<;>subst eb<;>
  refine fd_unique ?_ ?_<;>simp at h⊢<;>(try simp only[Int.mul_comm (q:Int) (y:Int),Int.mul_neg,Int.neg_mul,Int.neg_neg])<;>(try(subst h))<;>(try simp)<;>(try omega)
theorem floor_up (a:Int){b:Int}(hb:b≠0)(h:decide (a<0)≠decide (b<0))(h0:0<a.natAbs%b.natAbs):
  toI (decide (a<0) !=decide (b<0)) (a.natAbs/b.natAbs+1)=a.fdiv b/\toI (decide (b<0)) (b.natAbs-a.natAbs%b.natAbs)=a.fmod b:=by
 have hy:0<b.natAbs:=by omega
 have hd:=Nat.div_add_mod a.natAbs b.natAbs;have hm:=Nat.mod_lt a.natAbs hy
 obtain⟨q,hq⟩:∃q,q=a.natAbs/b.natAbs:=⟨_,rfl⟩
 obtain⟨r,hr⟩:∃r,r=a.natAbs%b.natAbs:=⟨_,rfl⟩
 rw[<-hq,<-hr] at hd⊢;rw[<-hr] at hm h0
 have hd':(b.natAbs:Int)*(q:Int)+(r:Int)=(a.natAbs:Int):=by rw[<-Int.natCast_mul];omega
 rcases toI_cases a with⟨sa,ea,pa⟩|⟨sa,ea⟩<;>rcases toI_cases b with⟨sb,eb,pb⟩|⟨sb,eb⟩<;>rw[sa,sb] at h⊢<;>simp only[toI]<;>generalize a.natAbs=x at*<;>generalize b.natAbs=y at*<;>subst ea<;>subst eb<;>
  refine fd_unique ?_ ?_<;>simp at h⊢<;>(try rw[show((y-r:Nat):Int)=(y:Int)-r by omega])<;>(try simp only[Int.add_mul,Int.mul_comm (q:Int) (y:Int),Int.mul_neg,Int.neg_mul,Int.neg_neg,Int.neg_add,Int.one_mul])<;>(try omega)
end Go.Proofs.YtclbiihcbfnjmaaGreat
/-! The walk of whole.DivMod. -/
namespace Go.Proofs.YtclbiihcbfnjmaaGreat
open Go.RowKit

structure Two2 (w:World)(s t:Bool)(A B:Option Addr)(n m c d:Nat)(w':World):Prop where
 p0:WholeAt w' w.heap.size s (.slice A n c)
 p1:WholeAt w' (w.heap.size+1) t (.slice B m d)
 r:WholeAt w' (w.heap.size+1+1) false (.slice none 0 0)
 q:WholeAt w' (w.heap.size+1+1+1) false (.slice none 0 0)
 bel:Below w.heap.size w w'
theorem WholeAt.alloc {w:World}{g:Nat}{s:Bool}{v:Value}(h:WholeAt w g s v)(o:Obj):WholeAt (w.alloc o) g s v:=(Below.heap_alloc _ _ _ h.lt).trans h
theorem WholeAt.fresh {w:World}{g:Nat}(s:Bool)(v:Value)(h:w.heap.size=g):WholeAt (w.alloc (.cells #[.bool s,v] 27)) g s v:=by subst h;exact WholeAt.new w s v
theorem two_call3 (s t:Bool)(A B:Option Addr)(n m c d:Nat)(f h:Nat->Nat)(w:World)
  (hA:Rd w.heap.size .u16 w A n f) (hB:Rd w.heap.size .u16 w B m h) (hf:∀i,f i<65536) (hh:∀i,h i<65536) (hn:n<=1000000) (hm:m<=1000000):
  Calls Tryz.prog 122 #[.slice (some ⟨w.heap.size+1+1+1+1,0,none⟩) 2 2]
   (((((w.alloc (.cells #[.bool s,.slice A n c] 27)).alloc (.cells #[.bool t,.slice B m d] 27)).alloc (.cells #[.bool false,.slice none 0 0] 27)).alloc (.cells #[.bool false,.slice none 0 0] 27)).alloc (.cells #[.bool s,.slice A n c,.bool t,.slice B m d] 27))
   fun e w'=>e= .returned (.bool (okW s n f&&okW t m h))/\Two2 w s t A B n m c d w':=by
 have z1:(w.alloc (.cells #[.bool s,.slice A n c] 27)).heap.size=w.heap.size+1:=World.size_alloc ..
 obtain⟨w1,hw1⟩:∃w1,w1=w.alloc (.cells #[.bool s,.slice A n c] 27):=⟨_,rfl⟩
 have b1:Below w.heap.size w w1:=by rw[hw1];exact(Below.refl _ w).alloc (Nat.le_refl _) _
 have q0:WholeAt w1 w.heap.size s (.slice A n c):=by rw[hw1];exact WholeAt.new w s _
 rw[<-hw1] at z1⊢
 obtain⟨w2,hw2⟩:∃w2,w2=w1.alloc (.cells #[.bool t,.slice B m d] 27):=⟨_,rfl⟩
 have z2:w2.heap.size=w.heap.size+1+1:=by rw[hw2,World.size_alloc,z1]
 have b2:Below w.heap.size w w2:=by rw[hw2];exact b1.alloc b1.size _
 have q1:WholeAt w2 (w.heap.size+1) t (.slice B m d):=by rw[hw2];exact WholeAt.fresh t _ z1
 have q0:WholeAt w2 w.heap.size s (.slice A n c):=by rw[hw2];exact q0.alloc _
 rw[<-hw2]
 obtain⟨w3,hw3⟩:∃w3,w3=w2.alloc (.cells #[.bool false,.slice none 0 0] 27):=⟨_,rfl⟩
 have z3:w3.heap.size=w.heap.size+1+1+1:=by rw[hw3,World.size_alloc,z2]
 have b3:Below w.heap.size w w3:=by rw[hw3];exact b2.alloc b2.size _
 have q2:WholeAt w3 (w.heap.size+1+1) false (.slice none 0 0):=by rw[hw3];exact WholeAt.fresh _ _ z2
 have q1:WholeAt w3 (w.heap.size+1) t (.slice B m d):=by rw[hw3];exact q1.alloc _
 have q0:WholeAt w3 w.heap.size s (.slice A n c):=by rw[hw3];exact q0.alloc _
 rw[<-hw3]
 obtain⟨w4,hw4⟩:∃w4,w4=w3.alloc (.cells #[.bool false,.slice none 0 0] 27):=⟨_,rfl⟩
 have z4:w4.heap.size=w.heap.size+1+1+1+1:=by rw[hw4,World.size_alloc,z3]
 have b4:Below w.heap.size w w4:=by rw[hw4];exact b3.alloc b3.size _
 have q3:WholeAt w4 (w.heap.size+1+1+1) false (.slice none 0 0):=by rw[hw4];exact WholeAt.fresh _ _ z3
 have q2:WholeAt w4 (w.heap.size+1+1) false (.slice none 0 0):=by rw[hw4];exact q2.alloc _
 have q1:WholeAt w4 (w.heap.size+1) t (.slice B m d):=by rw[hw4];exact q1.alloc _
 have q0:WholeAt w4 w.heap.size s (.slice A n c):=by rw[hw4];exact q0.alloc _
 rw[<-hw4];have q4:=heap_alloc_new w4 (.cells #[.bool s,.slice A n c,.bool t,.slice B m d] 27);rw[z4] at q4;have b5:=b4.alloc b4.size (.cells #[.bool s,.slice A n c,.bool t,.slice B m d] 27);refine(allValid_two (w.heap.size+1+1+1+1) s t A B n m c d f h _ q4 ((hA.below b5).more b5.size) ((hB.below b5).more b5.size) hf hh hn hm).mono ?_
 rintro e w' ⟨rfl,hb⟩
 exact⟨rfl,(q0.alloc _).below hb (q0.alloc _).lt,(q1.alloc _).below hb (q1.alloc _).lt,(q2.alloc _).below hb (q2.alloc _).lt,(q3.alloc _).below hb (q3.alloc _).lt,b5.trans (hb.mono b5.size)⟩

theorem WholeAt.other {w:World}{g R:Nat}{s:Bool}{v:Value}(h:WholeAt w g s v)(hR:g≠R)(s':Bool)(v':Value):WholeAt ((w.setCell ⟨R,0,none⟩ (.bool s')).setCell ⟨R,1,none⟩ v') g s v:=
 (Below.heap_setCell _ _ _ _ hR).trans ((Below.heap_setCell _ _ _ _ hR).trans h)
end Go.Proofs.YtclbiihcbfnjmaaGreat
/-! The walk of whole.DivMod: valid arguments. -/
namespace Go.Proofs.YtclbiihcbfnjmaaGreat
open Go.RowKit

end Go.Proofs.YtclbiihcbfnjmaaGreat
namespace Go.Proofs.YtclbiihcbfnjmaaGreat
open Go.RowKit

theorem ln_gcd (a b:Nat)(m:Nat)(ha:ln b16 a<=m)(hb:ln b16 b<=m):ln b16 (Nat.gcd a b)<=m:=by
 rcases Nat.eq_zero_or_pos a with rfl|h
 ·rw[Nat.gcd_zero_left];exact hb
 ·exact Nat.le_trans (ln_mono b16_two (Nat.gcd_le_left b h)) ha
theorem WW.riv {w w':World}{x:Nat}{e:Ending}(h:WW w (false&&decide (0<x)) x e w')(hl:ln b16 x<=1024):∃A c,e= .returned (.agg #[.bool false,.slice A (ln b16 x) c])/\RIv w.heap.size w' (x:Int) false A (ln b16 x) c 0/\Below w.heap.size w w':=by
 obtain⟨A,c,he,ho,hb⟩:=h;refine⟨A,c,he,.inl ⟨hl, ?_,rfl,rfl,ho⟩,hb⟩
 simp
theorem gcd_any (a b:Int)(A B:Option Addr)(c d:Nat)(w:World)(hA:Num16 w A a.natAbs)(hB:Num16 w B b.natAbs)(ha:ln b16 a.natAbs<=1024)(hb:ln b16 b.natAbs<=1024):
  Calls Tryz.prog 169 #[.agg #[.bool (decide (a<0)),.slice A (ln b16 a.natAbs) c],.agg #[.bool (decide (b<0)),.slice B (ln b16 b.natAbs) d]] w (RI w ((Nat.gcd a.natAbs b.natAbs:Nat):Int)):=by
 have htwo:=two_call (decide (a<0)) (decide (b<0)) A B (ln b16 a.natAbs) (ln b16 b.natAbs) c d _ _ w hA hB (fun i=>dgt16_lt _ i) (fun i=>dgt16_lt _ i) (by omega) (by omega);rw[okW_two ha hb] at htwo;have la:=ln32_short ha;have lb:=ln32_short hb;have lg:=ln_gcd a.natAbs b.natAbs 1024 ha hb;have lg32:=ln32_short lg
 obtain⟨s,hs⟩:∃s,s=decide (a<0):=⟨_,rfl⟩
 obtain⟨t,ht⟩:∃t,t=decide (b<0):=⟨_,rfl⟩
 rw[<-hs,<-ht] at htwo⊢;clear hs ht
 go_enter Tryz.func169,Tryz.ntmps169
 go_wp2_with fail
 refine htwo.mono ?_
 rintro e w1 ⟨rfl,ht⟩
 have D1:=Lib.hid fun(w':World) (hw':Below w.heap.size w w')=>pack_any A c a.natAbs w' (Num16.below hA hw') (by omega)
 have D2:=Lib.hid fun(w':World) (hw':Below w.heap.size w w')=>pack_any B d b.natAbs w' (Num16.below hB hw') (by omega)
 have hT0:TwoP w s t A B (ln b16 a.natAbs) (ln b16 b.natAbs) c d w1.drew:=⟨ht.p0,ht.p1,ht.bel.drew⟩;have hR0:WholeAt w1.drew (w.heap.size+1+1) false (.slice none 0 0):=ht.r;have HT:=Lib.hid ht;clear ht;go_wp2_with fail
 go_region_held3 (fun w'=>w'.cell? ⟨w.heap.size,0,none⟩=some (.bool s)/\w'.cell? ⟨w.heap.size,1,none⟩=some (.slice A (ln b16 a.natAbs) c)/\w'.cell? ⟨w.heap.size+1,0,none⟩=some (.bool t)/\w'.cell? ⟨w.heap.size+1,1,none⟩=some (.slice B (ln b16 b.natAbs) d)/\TwoP w s t A B (ln b16 a.natAbs) (ln b16 b.natAbs) c d w')
  (first|with_reducible exact hT4.s|with_reducible exact hT3.s|with_reducible exact hT5.s|with_reducible exact hT2.s|with_reducible exact hT1.s|with_reducible exact hT0.s)
  (first
   |(go_at_call_of 124 (Value.slice A (ln b16 a.natAbs) c);refine(D1.out _ hT0.bel).mono ?_;rintro e w2 ⟨A1,c1,rfl,hc1,hn1,hb1⟩;have hT1:=hT0.below hb1)
   |(go_at_call_of 124 (Value.slice B (ln b16 b.natAbs) d);refine(D2.out _ hT1.bel).mono ?_;rintro e w3 ⟨A2,c2,rfl,hc2,hn2,hb2⟩;have hT2:=hT1.below hb2)
   |(go_at_call 181;refine(commonDivisor_any A1 A2 c1 c2 a.natAbs b.natAbs _ (Num32.below hn1 hb2) hn2 (by omega) (by omega) hc1 hc2).mono ?_;rintro e w5 ⟨A3,c3,rfl,hc3,hn3,hb5⟩;have hT5:=hT2.below hb5)
   |(go_at_call 173;refine(unpack_any false A3 c3 (Nat.gcd a.natAbs b.natAbs) _ hn3 hc3 (by omega)).mono ?_;rintro e w4 hri;obtain⟨A',c',rfl,hv,hb3⟩:=WW.riv hri lg;have hT3:=hT5.below hb3;have hR1:=hR0.below hb1 hR0.lt;have hR2:=hR1.below hb2 hR1.lt;have hR5:=hR2.below hb5 hR2.lt;have hR3:=hR5.below hb3 hR5.lt;obtain⟨r0,r1⟩:=hR3.cells;have g0:=hR3.frozen 0;have g1:=hR3.frozen 1;have hT4:=hT3.store false (.slice A' (ln b16 (Nat.gcd a.natAbs b.natAbs)) c')))
 obtain⟨hW,hbW⟩:=store_whole hR3 hT3.bel (show w.heap.size<=w.heap.size+1+1 by omega) false (.slice A' (ln b16 (Nat.gcd a.natAbs b.natAbs)) c');have hsz:=hT5.bel.size;have hv2:=(hv.store hR5.lt false (.slice A' (ln b16 (Nat.gcd a.natAbs b.natAbs)) c')).lower hsz;clear hv hT0 hT1 hT2 hT3 hT4 hT5 hR0 hR1 hR2 hR3 hR5 r0 r1 g0 g1 hri
 go_wp2
 generalize ((w4.setCell ⟨w.heap.size+1+1,0,none⟩ (.bool false)).setCell ⟨w.heap.size+1+1,1,none⟩ (.slice A' (ln b16 (Nat.gcd a.natAbs b.natAbs)) c'))=WW at*
 obtain⟨k0,k1⟩:=hW.cells;refine bodyPost_ret (v:= .tuple #[.agg #[.bool false,.slice A' (ln b16 (Nat.gcd a.natAbs b.natAbs)) c'],.int .i64 0]) (by simp[results,Tryz.results169,go_sem,k0,k1]) rfl ?_;exact hv2.ri hbW
end Go.Proofs.YtclbiihcbfnjmaaGreat
namespace Go.Proofs.YtclbiihcbfnjmaaGreat
open Go.RowKit

end Go.Proofs.YtclbiihcbfnjmaaGreat
/-! The walk of whole.Mul. -/
namespace Go.Proofs.YtclbiihcbfnjmaaGreat
open Go.RowKit

theorem toI_mul (a b:Int):toI (decide (a<0) !=decide (b<0)) (a.natAbs*b.natAbs)=a*b:=by
 rw[<-Int.natAbs_mul]
 by_cases ha:a<0<;>by_cases hb:b<0
 ·
  have:=Int.mul_pos_of_neg_of_neg ha hb
  simp[ha,hb,toI];omega
 ·
  have:a*b<=0:=Int.mul_nonpos_of_nonpos_of_nonneg (by omega) (by omega)
  simp[ha,hb,toI];omega
 ·
  have:a*b<=0:=Int.mul_nonpos_of_nonneg_of_nonpos (by omega) (by omega)
  simp[ha,hb,toI];omega
 ·
  have:0<=a*b:=Int.mul_nonneg (by omega) (by omega)
  simp[ha,hb,toI];omega
theorem ln_mul {B x y m n:Nat}(hB:2<=B)(hx:ln B x<=m)(hy:ln B y<=n):ln B (x*y)<=m+n:=by
 refine(ln_le hB).2 ?_;rw[Nat.pow_add];exact Nat.mul_lt_mul'' ((ln_le hB).1 hx) ((ln_le hB).1 hy)
theorem mul_any (a b:Int)(A B:Option Addr)(c d:Nat)(w:World)(hA:Num16 w A a.natAbs)(hB:Num16 w B b.natAbs)(ha:ln b16 a.natAbs<=1024)(hb:ln b16 b.natAbs<=1024):
  Calls Tryz.prog 125 #[.agg #[.bool (decide (a<0)),.slice A (ln b16 a.natAbs) c],.agg #[.bool (decide (b<0)),.slice B (ln b16 b.natAbs) d]] w (RI w (a*b)):=by
 have htwo:=two_call (decide (a<0)) (decide (b<0)) A B (ln b16 a.natAbs) (ln b16 b.natAbs) c d _ _ w hA hB (fun i=>dgt16_lt _ i) (fun i=>dgt16_lt _ i) (by omega) (by omega);rw[okW_two ha hb] at htwo;have la:=ln32_short ha;have lb:=ln32_short hb;have hsum:toI (decide (a<0) !=decide (b<0)) (a.natAbs*b.natAbs)=a*b:=toI_mul a b;have lm:=ln_mul b32_two la lb;have HSUM:=Lib.hid hsum;clear hsum
 obtain⟨s,hs⟩:∃s,s=decide (a<0):=⟨_,rfl⟩
 obtain⟨t,ht⟩:∃t,t=decide (b<0):=⟨_,rfl⟩
 rw[<-hs,<-ht] at htwo HSUM⊢;clear hs ht
 go_enter Tryz.func125,Tryz.ntmps125
 go_wp2_with fail
 refine htwo.mono ?_
 rintro e w1 ⟨rfl,ht⟩
 have D1:=Lib.hid fun(w':World) (hw':Below w.heap.size w w')=>pack_any A c a.natAbs w' (Num16.below hA hw') (by omega)
 have D2:=Lib.hid fun(w':World) (hw':Below w.heap.size w w')=>pack_any B d b.natAbs w' (Num16.below hB hw') (by omega)
 have hT0:TwoP w s t A B (ln b16 a.natAbs) (ln b16 b.natAbs) c d w1.drew:=⟨ht.p0,ht.p1,ht.bel.drew⟩;have hR0:WholeAt w1.drew (w.heap.size+1+1) false (.slice none 0 0):=ht.r;have HT:=Lib.hid ht;clear ht;go_wp2_with fail
 go_region_held3 (fun w'=>w'.cell? ⟨w.heap.size,0,none⟩=some (.bool s)/\w'.cell? ⟨w.heap.size,1,none⟩=some (.slice A (ln b16 a.natAbs) c)/\w'.cell? ⟨w.heap.size+1,0,none⟩=some (.bool t)/\w'.cell? ⟨w.heap.size+1,1,none⟩=some (.slice B (ln b16 b.natAbs) d)/\TwoP w s t A B (ln b16 a.natAbs) (ln b16 b.natAbs) c d w')
  (first|with_reducible exact hT4.s|with_reducible exact hT3.s|with_reducible exact hT5.s|with_reducible exact hT2.s|with_reducible exact hT1.s|with_reducible exact hT0.s)
  (first
   |(go_at_call_of 124 (Value.slice A (ln b16 a.natAbs) c);refine(D1.out _ hT0.bel).mono ?_;rintro e w2 ⟨A1,c1,rfl,hc1,hn1,hb1⟩;have hT1:=hT0.below hb1)
   |(go_at_call_of 124 (Value.slice B (ln b16 b.natAbs) d);refine(D2.out _ hT1.bel).mono ?_;rintro e w3 ⟨A2,c2,rfl,hc2,hn2,hb2⟩;have hT2:=hT1.below hb2)
   |(go_at_call 158;refine(times_any A1 A2 c1 c2 a.natAbs b.natAbs _ (Num32.below hn1 hb2) hn2 (by omega) (by omega)).mono ?_;rintro e w5 ⟨A3,c3,rfl,hc3,hn3,hb5⟩;have hT5:=hT2.below hb5)
   |(go_at_call 157;refine(result_any (s !=t) A3 c3 (a.natAbs*b.natAbs) _ hn3 hc3 (by omega)).mono ?_;rintro e w4 hri;obtain⟨s',A',n',c',k,rfl,hv,hb3⟩:=hri.vals;have hT3:=hT5.below hb3;have hR1:=hR0.below hb1 hR0.lt;have hR2:=hR1.below hb2 hR1.lt;have hR5:=hR2.below hb5 hR2.lt;have hR3:=hR5.below hb3 hR5.lt;obtain⟨r0,r1⟩:=hR3.cells;have g0:=hR3.frozen 0;have g1:=hR3.frozen 1;have hT4:=hT3.store s' (.slice A' n' c')))
 obtain⟨hW,hbW⟩:=store_whole hR3 hT3.bel (show w.heap.size<=w.heap.size+1+1 by omega) s' (.slice A' n' c');have hsz:=hT5.bel.size;have hv2:=(hv.store hR5.lt s' (.slice A' n' c')).lower hsz;rw[HSUM.out] at hv2;clear hv hT0 hT1 hT2 hT3 hT4 hT5 hR0 hR1 hR2 hR3 hR5 r0 r1 g0 g1 hri
 go_wp2
 generalize ((w4.setCell ⟨w.heap.size+1+1,0,none⟩ (.bool s')).setCell ⟨w.heap.size+1+1,1,none⟩ (.slice A' n' c'))=WW at*
 obtain⟨k0,k1⟩:=hW.cells;refine bodyPost_ret (v:= .tuple #[.agg #[.bool s',.slice A' n' c'],.int .i64 k]) (by simp[results,Tryz.results125,go_sem,k0,k1]) rfl ?_;exact hv2.ri hbW
end Go.Proofs.YtclbiihcbfnjmaaGreat
namespace Go.Proofs.YtclbiihcbfnjmaaGreat
open Go.RowKit

def cmpZ (a b:Int):Int:=if a<b then-1 else if b<a then 1 else 0
theorem two_call2 (s t:Bool)(A B:Option Addr)(n m c d:Nat)(f h:Nat->Nat)(w:World)
  (hA:Rd w.heap.size .u16 w A n f) (hB:Rd w.heap.size .u16 w B m h) (hf:∀i,f i<65536) (hh:∀i,h i<65536) (hn:n<=1000000) (hm:m<=1000000):
  Calls Tryz.prog 122 #[.slice (some ⟨w.heap.size+1+1,0,none⟩) 2 2]
   (((w.alloc (.cells #[.bool s,.slice A n c] 27)).alloc (.cells #[.bool t,.slice B m d] 27)).alloc (.cells #[.bool s,.slice A n c,.bool t,.slice B m d] 27))
   fun e w'=>e= .returned (.bool (okW s n f&&okW t m h))/\TwoP w s t A B n m c d w':=by
 have b1:Below w.heap.size w (w.alloc (.cells #[.bool s,.slice A n c] 27)):=(Below.refl _ w).alloc (Nat.le_refl _) _;have b2:=b1.alloc b1.size (.cells #[.bool t,.slice B m d] 27);have b4:=b2.alloc b2.size (.cells #[.bool s,.slice A n c,.bool t,.slice B m d] 27);have q0:=WholeAt.new w s (.slice A n c);have q1:=WholeAt.new (w.alloc (.cells #[.bool s,.slice A n c] 27)) t (.slice B m d);have q3:=heap_alloc_new ((w.alloc (.cells #[.bool s,.slice A n c] 27)).alloc (.cells #[.bool t,.slice B m d] 27)) (.cells #[.bool s,.slice A n c,.bool t,.slice B m d] 27);simp only[World.size_alloc] at q1 q3;refine(allValid_two (w.heap.size+1+1) s t A B n m c d f h _ q3 ((hA.below b4).more b4.size) ((hB.below b4).more b4.size) hf hh hn hm).mono ?_
 rintro e w' ⟨rfl,hb⟩
 refine⟨rfl, ?_, ?_,b4.trans (hb.mono b4.size)⟩
 ·
  refine WholeAt.below ?_ hb (by first|(simp;done)|(simp;omega));exact(Below.heap_alloc _ _ _ (by first|(simp;done)|(simp;omega))).trans ((Below.heap_alloc _ _ _ (by simp)).trans q0)
 ·
  refine WholeAt.below ?_ hb (by first|(simp;done)|(simp;omega));exact(Below.heap_alloc _ _ _ (by simp)).trans q1
theorem cmp_any (a b:Int)(A B:Option Addr)(c d:Nat)(w:World)(hA:Num16 w A a.natAbs)(hB:Num16 w B b.natAbs)(ha:ln b16 a.natAbs<=1024)(hb:ln b16 b.natAbs<=1024):
  Calls Tryz.prog 81 #[.agg #[.bool (decide (a<0)),.slice A (ln b16 a.natAbs) c],.agg #[.bool (decide (b<0)),.slice B (ln b16 b.natAbs) d]] w fun e w'=>e= .returned (.int .i64 (cmpZ a b))/\Below w.heap.size w w':=by
 have htwo:=two_call2 (decide (a<0)) (decide (b<0)) A B (ln b16 a.natAbs) (ln b16 b.natAbs) c d _ _ w hA hB (fun i=>dgt16_lt _ i) (fun i=>dgt16_lt _ i) (by omega) (by omega);rw[okW_two ha hb] at htwo;have la:=ln32_short ha;have lb:=ln32_short hb
 obtain⟨s,hs⟩:∃s,s=decide (a<0):=⟨_,rfl⟩
 obtain⟨t,ht⟩:∃t,t=decide (b<0):=⟨_,rfl⟩
 rw[<-hs,<-ht] at htwo⊢;have HS:=Lib.hid hs;have HT':=Lib.hid ht;clear hs ht
 go_enter Tryz.func81,Tryz.ntmps81
 go_wp2_with fail
 refine htwo.mono ?_
 rintro e w1 ⟨rfl,ht⟩
 obtain⟨p0,p1⟩:=ht.p0.cells;obtain⟨p2,p3⟩:=ht.p1.cells
 by_cases hst:s=t
 ·
  subst hst
  have t0:(s !=s)=false:=by simp
  have D1:=Lib.hid fun(w':World) (hw':Below w.heap.size w w')=>pack_any A c a.natAbs w' (Num16.below hA hw') (by omega)
  have D2:=Lib.hid fun(w':World) (hw':Below w.heap.size w w')=>pack_any B d b.natAbs w' (Num16.below hB hw') (by omega)
  have hT0:TwoP w s s A B (ln b16 a.natAbs) (ln b16 b.natAbs) c d w1.drew:=⟨ht.p0,ht.p1,ht.bel.drew⟩
  have hcz:cmpZ a b=if s then-cmpI a.natAbs b.natAbs else cmpI a.natAbs b.natAbs:=by
   have h1:=HS.out;have h2:=HT'.out;unfold cmpZ cmpI
   cases s
   ·
    have h1:0<=a:=by simpa using h1.symm
    have h2:0<=b:=by simpa using h2.symm
    simp only[Bool.false_eq_true,if_false]
    split<;>split<;>(try split)<;>(try split)<;>omega
   ·
    have h1:a<0:=by simpa using h1.symm
    have h2:b<0:=by simpa using h2.symm
    simp only[if_true]
    split<;>split<;>(try split)<;>(try split)<;>omega
  have HCZ:=Lib.hid hcz;clear hcz;go_wp2_with fail
  clear p0 p1 p2 p3
  go_region_held3 (fun w'=>w'.cell? ⟨w.heap.size,0,none⟩=some (.bool s)/\w'.cell? ⟨w.heap.size,1,none⟩=some (.slice A (ln b16 a.natAbs) c)/\w'.cell? ⟨w.heap.size+1,0,none⟩=some (.bool s)/\w'.cell? ⟨w.heap.size+1,1,none⟩=some (.slice B (ln b16 b.natAbs) d)/\TwoP w s s A B (ln b16 a.natAbs) (ln b16 b.natAbs) c d w')
   (first|with_reducible exact hT3.s|with_reducible exact hT2.s|with_reducible exact hT1.s|with_reducible exact hT0.s)
   (first
    |(go_at_call_of 124 (Value.slice A (ln b16 a.natAbs) c);refine(D1.out _ hT0.bel).mono ?_;rintro e w2 ⟨A1,c1,rfl,hc1,hn1,hb1⟩;have hT1:=hT0.below hb1)
    |(go_at_call_of 124 (Value.slice B (ln b16 b.natAbs) d);refine(D2.out _ hT1.bel).mono ?_;rintro e w3 ⟨A2,c2,rfl,hc2,hn2,hb2⟩;have hT2:=hT1.below hb2)
    |(go_at_call 123;refine(compare_any A1 A2 c1 c2 a.natAbs b.natAbs _ (Num32.below hn1 hb2) hn2 (by omega)).mono ?_;rintro e w4 ⟨rfl,q,rfl⟩;have hT3:=hT2.below (belowN (Below.refl _ _) q)))
  obtain⟨k0,-⟩:=hT3.p0.cells;have hbf:=hT3.bel
  cases s
  ·
   go_wp2
   go_ret
   exact⟨ret_int (by rw[HCZ.out];rfl),hbf⟩
  ·
   go_wp2
   go_ret
   exact⟨ret_int (by rw[HCZ.out];simp only[if_true];unfold cmpI;split<;>(try split)<;>simp[wrap64]),hbf⟩
 ·
  have hval:cmpZ a b=if s then-1 else 1:=by
   have h1:=HS.out;have h2:=HT'.out;unfold cmpZ
   cases s<;>cases t<;>simp_all<;>omega
  have HV:=Lib.hid hval;clear hval
  cases s<;>cases t
  ·exact absurd rfl hst
  ·
   go_wp2_with fail
   go_ret
   exact⟨ret_int (by rw[HV.out];rfl),ht.bel⟩
  ·
   go_wp2_with fail
   go_ret
   exact⟨ret_int (by rw[HV.out];rfl),ht.bel⟩
  ·exact absurd rfl hst
end Go.Proofs.YtclbiihcbfnjmaaGreat
