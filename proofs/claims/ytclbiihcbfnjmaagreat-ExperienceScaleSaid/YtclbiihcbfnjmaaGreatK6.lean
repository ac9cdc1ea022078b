/-
  Parts.
-/
import Derived.Test.YtclbiihcbfnjmaaGreatK4
import Derived.Test.YtclbiihcbfnjmaaGreatK3
import Derived.Test.YtclbiihcbfnjmaaGreatK5
import Derived.Deep.RegionHeld3
set_option maxRecDepth 100000
set_option maxHeartbeats 4000000
namespace Go.Proofs.YtclbiihcbfnjmaaGreat
open Go.RowKit

def valOf (w:World):Value->Nat
 | .slice (some p) n _=>vs ah (fun i=>match w.cell? ⟨p.block,p.off+i,none⟩ with|some (.int _ z)=>z.toNat|_=>0) n
 |_=>0
theorem nI {w:World}{A:Option Addr}{x c:Nat}(h:aL w A x):valOf w (.slice A (ln ah x) c)=x:=by
 rcases Nat.eq_zero_or_pos (ln ah x) with h0|h0
 ·
  have hx:x=0:=by
   rcases Nat.eq_zero_or_pos x with e|e
   ·exact e
   ·have:=(cK aF).2 e;omega
  subst hx
  cases A<;>simp[valOf,cF,vs]
 ·
  obtain⟨b,o,rfl,hb,hc⟩:=h h0
  have h1:vs ah (fun i=>match w.cell? ⟨b,o+i,none⟩ with|some (.int _ z)=>z.toNat|_=>0) (ln ah x)=vs ah (aB ah x) (ln ah x):=ei fun i hi=>by rw[hc i hi];simp
  show vs ah (fun i=>match w.cell? ⟨b,o+i,none⟩ with|some (.int _ z)=>z.toNat|_=>0) (ln ah x)=x;rw[h1,cL aF]

def ahA (w0:World)(G:Nat)(x y:Value)(wr:World)(b':Nat):Prop:=
 ∃A c B d a',x= .slice A (ln ah a') c/\y= .slice B (ln ah b') d/\aL wr A a'/\aL wr B b'/\b'<=a'/\Nat.gcd a' b'=G/\ln ah a'<=1000000/\ln ah a'<=c/\ln ah b'<=d/\Below w0.heap.size w0 wr

theorem Qe {a b G:Nat}(h:Nat.gcd a b=G):Nat.gcd b a=G:=by rw[Nat.gcd_comm];exact h
theorem Is {a b:Nat}:jP a b<0↔a<b:=by
 unfold jP;split<;>(try split)<;>omega
theorem pV (A B:Option Addr)(c d a b:Nat)(w:World)(ha:aL w A a)(hb:aL w B b)(hn:ln ah a<=1000000)(hm:ln ah b<=1000000)(hac:ln ah a<=c)(hbd:ln ah b<=d):
  Calls Tryz.prog 181 #[.slice A (ln ah a) c,.slice B (ln ah b) d] w (QT w (Nat.gcd a b)):=by
 obtain⟨G,hG⟩:∃G,Nat.gcd a b=G:=⟨_,rfl⟩
 rw[hG];have HG:=Lib.hid hG;clear hG
 go_enter Tryz.func181,Tryz.ntmps181
 go_wp2_with fail
 refine(fM A B c d a b w ha hb (by omega)).mono ?_
 rintro e w1 ⟨rfl,n,rfl⟩
 go_upto_if 15 with(fail)
 go_cut [0,1] (fun x y wx=>∃b',ahA w G x y wx b')
 case first=>
  by_cases hlt:a<b
  ·
   have h1:=Is.2 hlt;go_wp2_with fail
   go_meet
   exact⟨a,B,d,A,c,b,rfl,rfl,hb,ha,Nat.le_of_lt hlt,Qe HG.out,hm,hbd,hac,cI (Below.refl _ _) n⟩
  ·
   have h1:¬jP a b<0:=fun h=>hlt (Is.1 h)
   go_wp2_with fail
   go_meet
   exact⟨b,A,c,B,d,a,rfl,rfl,ha,hb,by omega,HG.out,hn,hac,hbd,cI (Below.refl _ _) n⟩
 case rest=>
  obtain⟨b0,hP⟩:=hcut;go_wp2_with fail
  go_loopw [0,1] (fun x y wr=>∃b',ahA w G x y wr b') (fun _ y wr=>valOf wr y)
  case atStart=>exact⟨b0,hP⟩
  case round=>
   obtain⟨b',hP⟩:=hrel;obtain⟨A,c,B,d,a',rfl,rfl,ha,hb,hba,hg,hn,hc,hd,aV⟩:=hP
   by_cases h3:3<=ln ah b'
   ·
    have t3:(2:Int)<(ln ah b':Int):=by omega
    go_wp2_with fail
    refine(zC A B c d a' b' wr ha hb hba hn h3).mono ?_
    rintro e w2 ⟨ev,u0,u1,v0,v1,rfl,hst,dL⟩
    have hbS:Below wr.heap.size wr (w2.alloc (.cells #[.int .u64 (u0:Int),.int .u64 (u1:Int),.int .u64 (v0:Int),.int .u64 (v1:Int),.bool ev] 194)):=dL.alloc dL.size _;have hS:dK (w2.alloc (.cells #[.int .u64 (u0:Int),.int .u64 (u1:Int),.int .u64 (v0:Int),.int .u64 (v1:Int),.bool ev] 194)) w2.heap.size ev u0 u1 v0 v1:=heap_alloc_new _ _;have haS:=aL.below ha hbS;have Ka:=aL.below hb hbS;have Xx:=aV.trans (hbS.mono aV.size);have Xy:ln ah b'<=1000000:=Nat.le_trans ((bf aF).2 (Nat.lt_of_le_of_lt hba (aW aF a'))) hn;have hval:=nI (c:=d) hb;obtain⟨s0,s1,s2,s3,s4⟩:=hS.cells;have zD:=hS.lt
    by_cases hv:v0=0
    ·
     subst hv;have hb0:0<b':=(cK aF).1 (by omega);go_wp2_with fail
     refine(oO A B c d a' b' _ haS Ka hb0 hn).mono ?_
     rintro e w3 ⟨Aq,cq,Ar,cr,rfl,hq1,DW,hq,hr,fT⟩
     have hmod:=Nat.mod_lt a' hb0;have hlr:ln ah (a'%b')<=1000000:=Nat.le_trans ((bf aF).2 (Nat.lt_trans hmod (aW aF b'))) Xy;have rW:=nI (c:=cr) hr;go_wp2_with fail
     go_roundw
     case rel=>exact⟨a'%b',B,d,Ar,cr,b',rfl,rfl,aL.below Ka fT,hr,Nat.le_of_lt hmod,by rw[Nat.gcd_comm,<-Nat.gcd_rec,Nat.gcd_comm];exact hg,Xy,hd,DW,Xx.trans (fT.mono Xx.size)⟩
     case measure=>rw[hval,rW];exact hmod
    ·
     have hv0:((v0:Int)==0)=false:=by simpa using hv
     have hok:=hst.resolve_left hv
     cases ev
     ·
      obtain⟨k1,k2,k3,k4⟩:=JB hok;have la:=hok.le0;have lb:=hok.le1;simp only[Bool.false_eq_true,if_false] at la lb
      have D1:=Lib.hid fun(w':World) (hw':Below (w2.alloc (.cells #[.int .u64 (u0:Int),.int .u64 (u1:Int),.int .u64 (v0:Int),.int .u64 (v1:Int),.bool false] 194)).heap.size (w2.alloc (.cells #[.int .u64 (u0:Int),.int .u64 (u1:Int),.int .u64 (v0:Int),.int .u64 (v1:Int),.bool false] 194)) w')=>gG B A d c v0 u0 b' a' w' (aL.below Ka hw') (aL.below haS hw') hok.aaJ hok.aaH la Xy hn
      have D2:=Lib.hid fun(w':World) (hw':Below (w2.alloc (.cells #[.int .u64 (u0:Int),.int .u64 (u1:Int),.int .u64 (v0:Int),.int .u64 (v1:Int),.bool false] 194)).heap.size (w2.alloc (.cells #[.int .u64 (u0:Int),.int .u64 (u1:Int),.int .u64 (v0:Int),.int .u64 (v1:Int),.bool false] 194)) w')=>gG A B c d u1 v1 a' b' w' (aL.below haS hw') (aL.below Ka hw') hok.aaI hok.aaK lb hn Xy
      have KS:=Lib.hid fun(w' w'':World) (h:Below (w2.alloc (.cells #[.int .u64 (u0:Int),.int .u64 (u1:Int),.int .u64 (v0:Int),.int .u64 (v1:Int),.bool false] 194)).heap.size (w2.alloc (.cells #[.int .u64 (u0:Int),.int .u64 (u1:Int),.int .u64 (v0:Int),.int .u64 (v1:Int),.bool false] 194)) w') (h2:Below w'.heap.size w' w'')=>(show w''.cell? ⟨w2.heap.size,0,none⟩=some (.int .u64 (u0:Int))/\w''.cell? ⟨w2.heap.size,1,none⟩=some (.int .u64 (u1:Int))/\w''.cell? ⟨w2.heap.size,2,none⟩=some (.int .u64 (v0:Int))/\w''.cell? ⟨w2.heap.size,3,none⟩=some (.int .u64 (v1:Int))/\Below (w2.alloc (.cells #[.int .u64 (u0:Int),.int .u64 (u1:Int),.int .u64 (v0:Int),.int .u64 (v1:Int),.bool false] 194)).heap.size (w2.alloc (.cells #[.int .u64 (u0:Int),.int .u64 (u1:Int),.int .u64 (v0:Int),.int .u64 (v1:Int),.bool false] 194)) w'' from
       have h3:=h.trans (h2.mono h.size)
       ⟨(h3.cell (p:=⟨w2.heap.size,0,none⟩) zD).trans s0,(h3.cell (p:=⟨w2.heap.size,1,none⟩) zD).trans s1,(h3.cell (p:=⟨w2.heap.size,2,none⟩) zD).trans s2,(h3.cell (p:=⟨w2.heap.size,3,none⟩) zD).trans s3,h3⟩)
      have hrefl:=Below.refl (w2.alloc (.cells #[.int .u64 (u0:Int),.int .u64 (u1:Int),.int .u64 (v0:Int),.int .u64 (v1:Int),.bool false] 194)).heap.size (w2.alloc (.cells #[.int .u64 (u0:Int),.int .u64 (u1:Int),.int .u64 (v0:Int),.int .u64 (v1:Int),.bool false] 194));go_wp2_with fail
      go_region_held3? (fun w'=>w'.cell? ⟨w2.heap.size,0,none⟩=some (.int .u64 (u0:Int))/\w'.cell? ⟨w2.heap.size,1,none⟩=some (.int .u64 (u1:Int))/\w'.cell? ⟨w2.heap.size,2,none⟩=some (.int .u64 (v0:Int))/\w'.cell? ⟨w2.heap.size,3,none⟩=some (.int .u64 (v1:Int))/\Below (w2.alloc (.cells #[.int .u64 (u0:Int),.int .u64 (u1:Int),.int .u64 (v0:Int),.int .u64 (v1:Int),.bool false] 194)).heap.size (w2.alloc (.cells #[.int .u64 (u0:Int),.int .u64 (u1:Int),.int .u64 (v0:Int),.int .u64 (v1:Int),.bool false] 194)) w') (first|exact⟨s0,s1,s2,s3,hrefl.drew⟩|with_reducible exact KS.out _ _ hrefl.drew dI|with_reducible exact KS.out _ _ hrefl.drew dL|exact KS.out _ _ (hrefl.drew.trans dI) dL|exact KS.out _ _ (hrefl.drew.trans dL) dI)
       (first|(go_at_call_of 189 (Value.int .u64 (v0:Int));refine(D1.out _ (by first|exact hrefl.drew|exact(hrefl.drew.trans dL))).mono ?_;rintro e w'' ⟨A1,c1,rfl,oR,ox,dI⟩)|(go_at_call_of 189 (Value.int .u64 (u1:Int));refine(D2.out _ (by first|exact hrefl.drew|exact(hrefl.drew.trans dI))).mono ?_;rintro e w'' ⟨A2,c2,rfl,lQ,hn2,dL⟩))
      have rW:=nI (c:=c2) hn2;have eP:Below wr.heap.size wr w'':=hbS.trans (((hrefl.drew.trans dI).trans (dL.mono (hrefl.drew.trans dI).size)).mono hbS.size);have lH:ln ah (v0*b'-u0*a')<=1000000:=Nat.le_trans ((bf aF).2 (Nat.lt_of_le_of_lt k4 (aW aF b'))) Xy
      go_wp2
      go_roundw
      case rel=>exact⟨_,A1,c1,A2,c2,_,rfl,rfl,aL.below ox dL,hn2,Nat.le_of_lt k3,k1.trans hg,lH,oR,lQ,aV.trans (eP.mono aV.size)⟩
      case measure=>rw[hval,rW];exact k2
     ·
      obtain⟨k1,k2,k3,k4⟩:=Fc hok;have la:=hok.le0;have lb:=hok.le1;simp only[if_true] at la lb
      have D1:=Lib.hid fun(w':World) (hw':Below (w2.alloc (.cells #[.int .u64 (u0:Int),.int .u64 (u1:Int),.int .u64 (v0:Int),.int .u64 (v1:Int),.bool true] 194)).heap.size (w2.alloc (.cells #[.int .u64 (u0:Int),.int .u64 (u1:Int),.int .u64 (v0:Int),.int .u64 (v1:Int),.bool true] 194)) w')=>gG A B c d u0 v0 a' b' w' (aL.below haS hw') (aL.below Ka hw') hok.aaH hok.aaJ la hn Xy
      have D2:=Lib.hid fun(w':World) (hw':Below (w2.alloc (.cells #[.int .u64 (u0:Int),.int .u64 (u1:Int),.int .u64 (v0:Int),.int .u64 (v1:Int),.bool true] 194)).heap.size (w2.alloc (.cells #[.int .u64 (u0:Int),.int .u64 (u1:Int),.int .u64 (v0:Int),.int .u64 (v1:Int),.bool true] 194)) w')=>gG B A d c v1 u1 b' a' w' (aL.below Ka hw') (aL.below haS hw') hok.aaK hok.aaI lb Xy hn
      have KS:=Lib.hid fun(w' w'':World) (h:Below (w2.alloc (.cells #[.int .u64 (u0:Int),.int .u64 (u1:Int),.int .u64 (v0:Int),.int .u64 (v1:Int),.bool true] 194)).heap.size (w2.alloc (.cells #[.int .u64 (u0:Int),.int .u64 (u1:Int),.int .u64 (v0:Int),.int .u64 (v1:Int),.bool true] 194)) w') (h2:Below w'.heap.size w' w'')=>(show w''.cell? ⟨w2.heap.size,0,none⟩=some (.int .u64 (u0:Int))/\w''.cell? ⟨w2.heap.size,1,none⟩=some (.int .u64 (u1:Int))/\w''.cell? ⟨w2.heap.size,2,none⟩=some (.int .u64 (v0:Int))/\w''.cell? ⟨w2.heap.size,3,none⟩=some (.int .u64 (v1:Int))/\Below (w2.alloc (.cells #[.int .u64 (u0:Int),.int .u64 (u1:Int),.int .u64 (v0:Int),.int .u64 (v1:Int),.bool true] 194)).heap.size (w2.alloc (.cells #[.int .u64 (u0:Int),.int .u64 (u1:Int),.int .u64 (v0:Int),.int .u64 (v1:Int),.bool true] 194)) w'' from
       have h3:=h.trans (h2.mono h.size)
       ⟨(h3.cell (p:=⟨w2.heap.size,0,none⟩) zD).trans s0,(h3.cell (p:=⟨w2.heap.size,1,none⟩) zD).trans s1,(h3.cell (p:=⟨w2.heap.size,2,none⟩) zD).trans s2,(h3.cell (p:=⟨w2.heap.size,3,none⟩) zD).trans s3,h3⟩)
      have hrefl:=Below.refl (w2.alloc (.cells #[.int .u64 (u0:Int),.int .u64 (u1:Int),.int .u64 (v0:Int),.int .u64 (v1:Int),.bool true] 194)).heap.size (w2.alloc (.cells #[.int .u64 (u0:Int),.int .u64 (u1:Int),.int .u64 (v0:Int),.int .u64 (v1:Int),.bool true] 194));go_wp2_with fail
      go_region_held3? (fun w'=>w'.cell? ⟨w2.heap.size,0,none⟩=some (.int .u64 (u0:Int))/\w'.cell? ⟨w2.heap.size,1,none⟩=some (.int .u64 (u1:Int))/\w'.cell? ⟨w2.heap.size,2,none⟩=some (.int .u64 (v0:Int))/\w'.cell? ⟨w2.heap.size,3,none⟩=some (.int .u64 (v1:Int))/\Below (w2.alloc (.cells #[.int .u64 (u0:Int),.int .u64 (u1:Int),.int .u64 (v0:Int),.int .u64 (v1:Int),.bool true] 194)).heap.size (w2.alloc (.cells #[.int .u64 (u0:Int),.int .u64 (u1:Int),.int .u64 (v0:Int),.int .u64 (v1:Int),.bool true] 194)) w') (first|exact⟨s0,s1,s2,s3,hrefl.drew⟩|with_reducible exact KS.out _ _ hrefl.drew dI|with_reducible exact KS.out _ _ hrefl.drew dL|exact KS.out _ _ (hrefl.drew.trans dI) dL|exact KS.out _ _ (hrefl.drew.trans dL) dI)
       (first|(go_at_call_of 189 (Value.int .u64 (u0:Int));refine(D1.out _ (by first|exact hrefl.drew|exact(hrefl.drew.trans dL))).mono ?_;rintro e w'' ⟨A1,c1,rfl,oR,ox,dI⟩)|(go_at_call_of 189 (Value.int .u64 (v1:Int));refine(D2.out _ (by first|exact hrefl.drew|exact(hrefl.drew.trans dI))).mono ?_;rintro e w'' ⟨A2,c2,rfl,lQ,hn2,dL⟩))
      have rW:=nI (c:=c2) hn2;have eP:Below wr.heap.size wr w'':=hbS.trans (((hrefl.drew.trans dI).trans (dL.mono (hrefl.drew.trans dI).size)).mono hbS.size);have lH:ln ah (u0*a'-v0*b')<=1000000:=Nat.le_trans ((bf aF).2 (Nat.lt_of_le_of_lt k4 (aW aF b'))) Xy
      go_wp2
      go_roundw
      case rel=>exact⟨_,A1,c1,A2,c2,_,rfl,rfl,aL.below ox dL,hn2,Nat.le_of_lt k3,k1.trans hg,lH,oR,lQ,aV.trans (eP.mono aV.size)⟩
      case measure=>rw[hval,rW];exact k2
   ·
    have t3:¬((2:Int)<(ln ah b':Int)):=by omega
    by_cases hz:b'=0
    ·
     subst hz
     rw[cF] at*
     go_wp2_with fail
     go_ret
     rw[Nat.gcd_zero_right] at hg;subst hg;exact⟨A,c,rfl,hc,ha,aV⟩
    ·
     have eP:ln ah b'≠0:=by have:=(cK aF).2 (show 0<b' by omega);omega
     have hb0:0<b':=by omega
     have tz:((ln ah b':Int)==0)=false:=by simp;omega
     go_upto_if 71 with(fail)
     have hval:=hz
     go_cut [0,1] (fun x y wx=>∃A c B d a'' b'',x= .slice A (ln ah a'') c/\y= .slice B (ln ah b'') d/\ln ah a''<=2/\ln ah b''<=2/\aL wx A a''/\aL wx B b''/\Nat.gcd a'' b''=G/\Below w.heap.size w wx)
     case first=>
      by_cases ht:3<=ln ah a'
      ·
       have t4:(2:Int)<(ln ah a':Int):=by omega
       go_wp2_with fail
       refine(oO A B c d a' b' _ ha hb hb0 hn).mono ?_
       rintro e w3 ⟨Aq,cq,Ar,cr,rfl,hq1,DW,hq,hr,fT⟩
       have hmod:=Nat.mod_lt a' hb0;have hlr:ln ah (a'%b')<=2:=Nat.le_trans ((bf aF).2 (Nat.lt_trans hmod (aW aF b'))) (by omega);go_wp2_with fail
       go_meet
       exact⟨B,d,Ar,cr,b',a'%b',rfl,rfl,by omega,hlr,aL.below hb fT,hr,by rw[Nat.gcd_comm,<-Nat.gcd_rec,Nat.gcd_comm];exact hg,aV.trans (fT.mono aV.size)⟩
      ·
       have t4:¬((2:Int)<(ln ah a':Int)):=by omega
       go_wp2_with fail
       go_meet
       exact⟨A,c,B,d,a',b',rfl,rfl,by omega,by omega,ha,hb,hg,aV⟩
     case rest=>
      obtain⟨A,c,B,d,x,y,rfl,rfl,Jr,hy2,hnx,hny,hg,aV⟩:=hcut;have JY:x<18446744073709551616:=Nat.lt_of_lt_of_le ((bf aF).1 Jr) (Nat.le_refl _);have aon:y<18446744073709551616:=Nat.lt_of_lt_of_le ((bf aF).1 hy2) (Nat.le_refl _);go_wp2_with fail
      refine(DI A c x _ hnx Jr).mono ?_
      rintro e w3 ⟨rfl,fT⟩
      go_wp2_with fail
      refine(DI B d y _ (aL.below hny fT) hy2).mono ?_
      rintro e w4 ⟨rfl,gQ⟩
      have aoo:=aV.trans ((fT.trans (gQ.mono fT.size)).mono aV.size);go_wp2_with fail
      go_loopw [10,11] (fun p q wr=>∃X Y:Nat,p= .int .u64 (X:Int)/\q= .int .u64 (Y:Int)/\X<18446744073709551616/\Y<18446744073709551616/\Nat.gcd X Y=G/\Below w.heap.size w wr) (fun _ q _=>(intOf q).toNat)
      case atStart=>exact⟨x,y,rfl,rfl,JY,aon,hg,aoo⟩
      case round=>
       obtain⟨X,Y,rfl,rfl,hX,hY,hg,aV⟩:=hrel
       by_cases hY0:Y=0
       ·
        subst hY0;go_wp2_with fail
        refine(JF X _ hX).mono ?_
        rintro e w5 ⟨A5,c5,rfl,hc5,hn5,fO⟩
        rw[Nat.gcd_zero_right] at hg;subst hg;go_wp2_with fail
        go_ret
        exact⟨A5,c5,rfl,hc5,hn5,aV.trans (fO.mono aV.size)⟩
       ·
        have t5:((Y:Int) !=0)=true:=by simp;omega
        have t6:(Y:Int)≠0:=by omega
        have hmod:=Nat.mod_lt X (show 0<Y by omega);go_wp2_with fail
        go_quiet (fail)
        go_wp2
        go_roundw
        case rel=>exact⟨Y,X%Y,rfl,rfl,hY,by omega,by rw[Nat.gcd_comm,<-Nat.gcd_rec,Nat.gcd_comm];exact hg,cI aV nq⟩
        case measure=>simp[intOf];omega
end Go.Proofs.YtclbiihcbfnjmaaGreat
namespace Go.Proofs.YtclbiihcbfnjmaaGreat
open Go.RowKit

theorem lB (g:Nat)(s t:Bool)(A B:Option Addr)(n m c d:Nat)(f h:Nat->Nat)(w:World)
  (hg:w.heap[g]?=some (.cells #[.bool s,.slice A n c,.bool t,.slice B m d] 27 (0,0)))
  (hA:Rd w.heap.size .u16 w A n f) (hB:Rd w.heap.size .u16 w B m h) (hf:∀i,f i<65536) (hh:∀i,h i<65536) (hn:n<=1000000) (hm:m<=1000000):
  Calls Tryz.prog 122 #[.slice (some ⟨g,0,none⟩) 2 2] w fun e w'=>e= .returned (.bool (okW s n f&&okW t m h))/\Below w.heap.size w w':=by
 refine(yU g 0 2 (fun i=>if i=0 then s else t) (fun i=>if i=0 then A else B) (fun i=>if i=0 then n else m) (fun i=>if i=0 then c else d) (fun i=>if i=0 then f else h) w ?_ (jE hg) (by omega)).mono ?_
 ·
  intro i hi
  match i,hi with
  |0,_=>exact⟨(cell_of_row w g 0 _ _ (0,0) hg).trans rfl,(cell_of_row w g 1 _ _ (0,0) hg).trans rfl,hA,fun j _=>hf j,hn⟩
  |1,_=>exact⟨(cell_of_row w g 2 _ _ (0,0) hg).trans rfl,(cell_of_row w g 3 _ _ (0,0) hg).trans rfl,hB,fun j _=>hh j,hm⟩
 ·
  rintro e w' ⟨rfl,hb⟩
  exact⟨aS (by simp[uq]),hb⟩

structure Two (w:World)(s t:Bool)(A B:Option Addr)(n m c d:Nat)(w':World):Prop where
 p0:aG w' w.heap.size s (.slice A n c)
 p1:aG w' (w.heap.size+1) t (.slice B m d)
 r:aG w' (w.heap.size+1+1) false (.slice none 0 0)
 av:Below w.heap.size w w'
theorem uQ (s t:Bool)(A B:Option Addr)(n m c d:Nat)(f h:Nat->Nat)(w:World)
  (hA:Rd w.heap.size .u16 w A n f) (hB:Rd w.heap.size .u16 w B m h) (hf:∀i,f i<65536) (hh:∀i,h i<65536) (hn:n<=1000000) (hm:m<=1000000):
  Calls Tryz.prog 122 #[.slice (some ⟨w.heap.size+1+1+1,0,none⟩) 2 2]
   ((((w.alloc (.cells #[.bool s,.slice A n c] 27)).alloc (.cells #[.bool t,.slice B m d] 27)).alloc (.cells #[.bool false,.slice none 0 0] 27)).alloc (.cells #[.bool s,.slice A n c,.bool t,.slice B m d] 27))
   fun e w'=>e= .returned (.bool (okW s n f&&okW t m h))/\Two w s t A B n m c d w':=by
 have b1:Below w.heap.size w (w.alloc (.cells #[.bool s,.slice A n c] 27)):=(Below.refl _ w).alloc (Nat.le_refl _) _;have b2:=b1.alloc (by simp) (.cells #[.bool t,.slice B m d] 27);have b3:=b2.alloc (by first|(simp;done)|(simp;omega)) (.cells #[.bool false,.slice none 0 0] 27);have b4:=b3.alloc (by first|(simp;done)|(simp;omega)) (.cells #[.bool s,.slice A n c,.bool t,.slice B m d] 27);have q0:=aG.new w s (.slice A n c);have q1:=aG.new (w.alloc (.cells #[.bool s,.slice A n c] 27)) t (.slice B m d);have q2:=aG.new ((w.alloc (.cells #[.bool s,.slice A n c] 27)).alloc (.cells #[.bool t,.slice B m d] 27)) false (.slice none 0 0);have q3:=heap_alloc_new (((w.alloc (.cells #[.bool s,.slice A n c] 27)).alloc (.cells #[.bool t,.slice B m d] 27)).alloc (.cells #[.bool false,.slice none 0 0] 27)) (.cells #[.bool s,.slice A n c,.bool t,.slice B m d] 27);simp only[World.size_alloc] at q1 q2 q3;refine(lB (w.heap.size+1+1+1) s t A B n m c d f h _ q3 ((hA.below b4).more b4.size) ((hB.below b4).more b4.size) hf hh hn hm).mono ?_
 rintro e w' ⟨rfl,hb⟩
 refine⟨rfl, ?_, ?_, ?_,b4.trans (hb.mono b4.size)⟩
 ·
  refine aG.below ?_ hb (by first|(simp;done)|(simp;omega));exact(Below.heap_alloc _ _ _ (by first|(simp;done)|(simp;omega))).trans ((Below.heap_alloc _ _ _ (by first|(simp;done)|(simp;omega))).trans ((Below.heap_alloc _ _ _ (by simp)).trans q0))
 ·
  refine aG.below ?_ hb (by first|(simp;done)|(simp;omega));exact(Below.heap_alloc _ _ _ (by first|(simp;done)|(simp;omega))).trans ((Below.heap_alloc _ _ _ (by simp)).trans q1)
 ·
  refine aG.below ?_ hb (by simp);exact(Below.heap_alloc _ _ _ (by simp)).trans q2

structure eD (w:World)(s t:Bool)(A B:Option Addr)(n m c d:Nat)(w':World):Prop where
 p0:aG w' w.heap.size s (.slice A n c)
 p1:aG w' (w.heap.size+1) t (.slice B m d)
 av:Below w.heap.size w w'
theorem eD.below {w:World}{s t:Bool}{A B:Option Addr}{n m c d:Nat}{w' w'':World}(h:eD w s t A B n m c d w')(h2:Below w'.heap.size w' w''):eD w s t A B n m c d w'':=
 ⟨h.p0.below h2 h.p0.lt,h.p1.below h2 h.p1.lt,h.av.trans (h2.mono h.av.size)⟩
theorem eD.store {w:World}{s t:Bool}{A B:Option Addr}{n m c d:Nat}{w':World}(h:eD w s t A B n m c d w')(s':Bool)(v':Value):
  eD w s t A B n m c d ((w'.setCell ⟨w.heap.size+1+1,0,none⟩ (.bool s')).setCell ⟨w.heap.size+1+1,1,none⟩ v'):=
 have e0:w.heap.size≠w.heap.size+1+1:=by omega
 have e1:w.heap.size+1≠w.heap.size+1+1:=by omega
 have e2:w.heap.size<=w.heap.size+1+1:=by omega
 ⟨(Below.heap_setCell _ _ _ _ e0).trans ((Below.heap_setCell _ _ _ _ e0).trans h.p0),(Below.heap_setCell _ _ _ _ e1).trans ((Below.heap_setCell _ _ _ _ e1).trans h.p1),
  (h.av.setCell (p:=⟨w.heap.size+1+1,0,none⟩) e2 _).setCell (p:=⟨w.heap.size+1+1,1,none⟩) e2 _⟩
theorem eD.s {w:World}{s t:Bool}{A B:Option Addr}{n m c d:Nat}{w':World}(h:eD w s t A B n m c d w'):
  w'.cell? ⟨w.heap.size,0,none⟩=some (.bool s)/\w'.cell? ⟨w.heap.size,1,none⟩=some (.slice A n c)/\w'.cell? ⟨w.heap.size+1,0,none⟩=some (.bool t)/\w'.cell? ⟨w.heap.size+1,1,none⟩=some (.slice B m d)/\eD w s t A B n m c d w':=⟨h.p0.cells.1,h.p0.cells.2,h.p1.cells.1,h.p1.cells.2,h⟩
theorem pW {a b:Int}(ha:ln aj a.natAbs<=1024)(hb:ln aj b.natAbs<=1024):(okW (decide (a<0)) (ln aj a.natAbs) (aB aj a.natAbs)&&okW (decide (b<0)) (ln aj b.natAbs) (aB aj b.natAbs))=true:=by
 rw[sU ha,sU hb];rfl
theorem dF {x:Nat}(h:ln aj x<=1024):ln ah x<=512:=by rw[kg];omega

theorem Vp (a b:Int)(A B:Option Addr)(c d:Nat)(w:World)(hA:aN w A a.natAbs)(hB:aN w B b.natAbs)(ha:ln aj a.natAbs<=1024)(hb:ln aj b.natAbs<=1024):
  Calls Tryz.prog 153 #[.agg #[.bool (decide (a<0)),.slice A (ln aj a.natAbs) c],.agg #[.bool (decide (b<0)),.slice B (ln aj b.natAbs) d]] w (RI w (a+b)):=by
 have lR:=uQ (decide (a<0)) (decide (b<0)) A B (ln aj a.natAbs) (ln aj b.natAbs) c d _ _ w hA hB (fun i=>bh _ i) (fun i=>bh _ i) (by omega) (by omega);rw[pW ha hb] at lR;have la:=dF ha;have lb:=dF hb
 have hsum:jg (decide (a<0)) a.natAbs+jg (decide (b<0)) b.natAbs=a+b:=by rw[zl,zl]
 have Qf:=Lib.hid hsum;clear hsum
 obtain⟨s,hs⟩:∃s,s=decide (a<0):=⟨_,rfl⟩
 obtain⟨t,ht⟩:∃t,t=decide (b<0):=⟨_,rfl⟩
 rw[<-hs,<-ht] at lR Qf⊢;clear hs ht
 go_enter Tryz.func153,Tryz.ntmps153
 go_wp2_with fail
 refine lR.mono ?_
 rintro e w1 ⟨rfl,ht⟩
 have D1:=Lib.hid fun(w':World) (hw':Below w.heap.size w w')=>fz A c a.natAbs w' (aN.below hA hw') (by omega)
 have D2:=Lib.hid fun(w':World) (hw':Below w.heap.size w w')=>fz B d b.natAbs w' (aN.below hB hw') (by omega)
 have zU:eD w s t A B (ln aj a.natAbs) (ln aj b.natAbs) c d w1.drew:=⟨ht.p0,ht.p1,ht.av.drew⟩;have lV:aG w1.drew (w.heap.size+1+1) false (.slice none 0 0):=ht.r;have HT:=Lib.hid ht;clear ht;go_wp2_with fail
 go_region_held3 (fun w'=>w'.cell? ⟨w.heap.size,0,none⟩=some (.bool s)/\w'.cell? ⟨w.heap.size,1,none⟩=some (.slice A (ln aj a.natAbs) c)/\w'.cell? ⟨w.heap.size+1,0,none⟩=some (.bool t)/\w'.cell? ⟨w.heap.size+1,1,none⟩=some (.slice B (ln aj b.natAbs) d)/\eD w s t A B (ln aj a.natAbs) (ln aj b.natAbs) c d w')
  (first|with_reducible exact Xz.s|with_reducible exact zV.s|with_reducible exact D7.s|with_reducible exact zW.s|with_reducible exact zU.s)
  (first
   |(go_at_call_of 124 (Value.slice A (ln aj a.natAbs) c);refine(D1.out _ zU.av).mono ?_;rintro e w2 ⟨A1,c1,rfl,oR,ox,dI⟩;have zW:=zU.below dI)
   |(go_at_call_of 124 (Value.slice B (ln aj b.natAbs) d);refine(D2.out _ zW.av).mono ?_;rintro e w3 ⟨A2,c2,rfl,lQ,hn2,dL⟩;have D7:=zW.below dL)
   |(go_at_call 171;refine(Ve s t A1 A2 c1 c2 a.natAbs b.natAbs _ (aL.below ox dL) hn2 (by omega) (by omega)).mono ?_;rintro e w4 oy;obtain⟨s',A',n',c',k,rfl,hv,fT⟩:=oy.vals;have zV:=D7.below fT;have vD:=lV.below dI lV.lt;have jT:=vD.below dL vD.lt;have DJ:=jT.below fT jT.lt;obtain⟨r0,r1⟩:=DJ.cells;have g0:=DJ.frozen 0;have g1:=DJ.frozen 1;have Xz:=zV.store s' (.slice A' n' c')))
 obtain⟨hW,p5⟩:=bP DJ zV.av (show w.heap.size<=w.heap.size+1+1 by omega) s' (.slice A' n' c');have hsz:=D7.av.size;have mX:=(hv.store jT.lt s' (.slice A' n' c')).lower hsz;rw[Qf.out] at mX;clear hv zU zW D7 zV Xz lV vD jT DJ r0 r1 g0 g1 oy
 go_wp2
 generalize ((w4.setCell ⟨w.heap.size+1+1,0,none⟩ (.bool s')).setCell ⟨w.heap.size+1+1,1,none⟩ (.slice A' n' c'))=WW at*
 obtain⟨k0,k1⟩:=hW.cells;refine bodyPost_ret (v:= .tuple #[.agg #[.bool s',.slice A' n' c'],.int .i64 k]) (by simp[results,Tryz.results153,go_sem,k0,k1]) rfl ?_;exact mX.ri p5
end Go.Proofs.YtclbiihcbfnjmaaGreat
namespace Go.Proofs.YtclbiihcbfnjmaaGreat
open Go.RowKit

theorem C7 (t:Bool)(A:Option Addr)(n c:Nat)(w:World):Calls Tryz.prog 162 #[.bool t,.slice A n c] w fun e w'=>e= .returned (.agg #[.bool (t&&decide (0<n)),.slice A n c])/\Below w.heap.size w w':=by
 have b1:Below w.heap.size w (w.alloc (.cells #[.bool false,.slice none 0 0] 27)):=(Below.refl _ w).alloc (Nat.le_refl _) _
 go_enter Tryz.func162,Tryz.ntmps162
 cases t
 ·
  go_wp2_with fail
  exact bodyPost_ret (v:= .agg #[.bool false,.slice A n c]) (by simp[results,Tryz.results162,go_sem]) rfl ⟨by simp,(Below.refl _ w).alloc (Nat.le_refl _) _⟩
 ·
  by_cases hn:0<n
  ·
   have t1:(0:Int)<(n:Int):=by omega
   go_wp2_with fail
   exact bodyPost_ret (v:= .agg #[.bool true,.slice A n c]) (by simp[results,Tryz.results162,go_sem]) rfl ⟨by simp[hn],(Below.refl _ w).alloc (Nat.le_refl _) _⟩
  ·
   obtain rfl:n=0:=by omega
   go_wp2_with fail
   exact bodyPost_ret (v:= .agg #[.bool false,.slice A 0 c]) (by simp[results,Tryz.results162,go_sem]) rfl ⟨by simp,(Below.refl _ w).alloc (Nat.le_refl _) _⟩

theorem mM {base n:Nat}{w:World}{v:Value}{xs:List Value}(h:w.ownsRow base 108 1 v n xs):∃A c,v= .slice A n c:=by
 rcases h.2 with⟨hv,hn⟩|⟨g,cap,cur,hv,_⟩
 ·exact⟨none,0,by rw[hv,hn]⟩
 ·exact⟨_,_,hv⟩
theorem xb {x k:Nat}:0<x/65536^k↔k<ln aj x:=by
 rw[Oo aD,Nat.div_pos_iff];exact⟨fun h=>h.2,fun h=>⟨Nat.pow_pos (by decide),h⟩⟩
theorem uB (z:Int)(w:World)(h1:-9223372036854775808<=z)(h2:z<=9223372036854775807):Calls Tryz.prog 168 #[.int .i64 z] w (WI w z):=by
 obtain⟨x,hx⟩:∃x,x=z.natAbs:=⟨_,rfl⟩
 have JY:x<18446744073709551616:=by omega
 have Rs:ln aj x<=4:=(bf aD).2 JY;obtain⟨i0,hi,IC,vG,Oy⟩:=info_parts kq
 go_enter Tryz.func168,Tryz.ntmps168
 go_upto_if 8 with(fail)
 go_cut [3] (fun v wx=>v= .int .u64 (x:Int)/\wx=w.alloc (.cells #[.bool false,.slice none 0 0] 27))
 case first=>
  by_cases hneg:z<0
  ·
   go_wp2_with fail
   go_meet
   refine⟨?_,rfl⟩
   congr 1
   rw[IntKind.wrap_u64,IntKind.wrap_u64];omega
  ·
   go_wp2_with fail
   go_meet
   refine⟨?_,rfl⟩
   congr 1
   rw[IntKind.wrap_u64];omega
 case rest=>
  obtain⟨rfl,rfl⟩:=hcut;have HX:=Lib.hid hx;clear hx;have lV:=aG.new w false (.slice none 0 0);have hb0:Below w.heap.size w (w.alloc (.cells #[.bool false,.slice none 0 0] 27)):=(Below.refl _ w).alloc (Nat.le_refl _) _;go_wp2_with fail
  go_loopw [3,4] (fun u v wr=>∃k X,u= .int .u64 ((X:Nat):Int)/\Hid (X=x/65536^k)/\X<18446744073709551616/\k<=ln aj x/\Hid (zz v=k)/\wr.ownsRow (w.heap.size+1) 108 1 v k (eZ .u16 k (aB aj x))/\aG wr w.heap.size false (.slice none 0 0)/\Below w.heap.size w wr) (fun _ v _=>ln aj x-zz v)
  case atStart=>exact⟨0,x,rfl,Lib.hid (by simp),JY,Nat.zero_le _,Lib.hid rfl,World.ownsRow_nil ..,lV,hb0⟩
  case round=>
   obtain⟨k,X,rfl,hX,aok,hk,hlv,hown,hp,eP⟩:=hrel;have hsz:=eP.size;have hpl:=hp.lt
   by_cases hX0:0<X
   ·
    have t1:(0:Int)<(X:Int):=by omega
    have hd:X%65536=aB aj x k:=by rw[hX.out];rfl
    have hk9:k<ln aj x:=xb.1 (by rw[<-hX.out];exact hX0);have hdl:=bh x k
    have e3:(X:Int)%65536=((aB aj x k:Nat):Int):=by omega
    have HD:=Lib.hid hd;clear hd;go_wp2_with (at_builtin;refine wpList_append_own _ rfl _ _ 25 rfl (w.heap.size+1) 108 i0 (.int .u16 0) 1 2 Tryz.underlying25 hi IC vG Oy rfl (by decide) _ _ _ rfl (hown.alloc _) ⟨wr.heap.size,0,none⟩ 1 1 [.int .u16 ((aB aj x k:Nat):Int)] rfl rfl (cell_one_new _ _ _) (by simp[Value.oneCell']) (by unfold maxLen;omega) (by omega) (by simp;omega) ?_;intro v' w5 mN hgrow _;obtain⟨g',cap',rfl⟩:=ownsRow_succ mN)
    go_roundw
    case rel=>
     rw[qR] at mN;exact⟨k+1,X/65536,by congr 1,Lib.hid (by rw[hX.out,Nat.div_div_eq_div_mul,Nat.pow_succ]),by omega,hk9,Lib.hid rfl,mN,(hp.abx _).grown hgrow (Vd hown (Nat.lt_succ_self _)),(eP.alloc hsz (.cells #[.int .u16 ((aB aj x k:Nat):Int)] 108)).grown hgrow (by simp;omega) (fun g hg=>by have:=(hown.lt g hg).1;omega)⟩
    case measure=>show ln aj x-(k+1)<ln aj x-zz u4;rw[hlv.out];omega
   ·
    obtain rfl:X=0:=by omega
    have hkk:k=ln aj x:=by
     have:=mt xb.2 (by rw[<-hX.out];decide:¬0<x/65536^k);omega
    subst hkk;obtain⟨A,c,rfl⟩:=mM hown;have hm:=C7 (decide (z<0)) A (ln aj x) c wr
    rw[show(decide (z<0)&&decide (0<ln aj x))=decide (z<0) by
     by_cases hz:z<0
     ·
      have:=(cK aD (x:=x)).2 (by have:=HX.out;omega)
      simp[hz,this]
     ·simp[hz]] at hm
    have HM:=Lib.hid hm;clear hm
    obtain⟨s,hs⟩:∃s,s=decide (z<0):=⟨_,rfl⟩
    rw[<-hs] at HM;have HS:=Lib.hid hs;go_wp2_with fail
    rw[<-HS.out];clear hs;refine HM.out.mono ?_
    rintro e w5 ⟨rfl,fO⟩
    have wM:=hp.below fO hpl;have aop:=eP.trans (fO.mono hsz);have ho5:cO (w.heap.size+1) w5 A (ln aj x) c (aB aj x):=J5 hown fO (Nat.le_refl _);obtain⟨r0,r1⟩:=wM.cells;have g0:=wM.frozen 0;have g1:=wM.frozen 1;obtain⟨hW,p5⟩:=bP wM aop (Nat.le_refl _) s (.slice A (ln aj x) c);have ho6:=(cM (R:=w.heap.size) ho5 (Nat.lt_succ_self _) s (.slice A (ln aj x) c)).lower (base':=w.heap.size) (by omega);have HW:=Lib.hid hW;clear hW ho5 hown;go_wp2_with fail
    have hW:=HW.out;clear HW wM r0 r1
    generalize ((w5.setCell ⟨w.heap.size,0,none⟩ (.bool s)).setCell ⟨w.heap.size,1,none⟩ (.slice A (ln aj x) c))=WW at*
    obtain⟨k0,k1⟩:=hW.cells;refine bodyPost_ret (v:= .agg #[.bool s,.slice A (ln aj x) c]) (by simp[results,Tryz.results168,go_sem,k0,k1]) rfl ?_;rw[HX.out] at ho6⊢;rw[HS.out];exact⟨A,c,rfl,ho6,p5⟩

theorem eD.start (w:World)(s t:Bool)(A B:Option Addr)(n m c d:Nat):eD w s t A B n m c d ((w.alloc (.cells #[.bool s,.slice A n c] 27)).alloc (.cells #[.bool t,.slice B m d] 27)):=by
 have b1:Below w.heap.size w (w.alloc (.cells #[.bool s,.slice A n c] 27)):=(Below.refl _ w).alloc (Nat.le_refl _) _;have q1:=aG.new (w.alloc (.cells #[.bool s,.slice A n c] 27)) t (.slice B m d);rw[World.size_alloc] at q1;exact⟨(Below.heap_alloc _ _ _ (by simp)).trans (aG.new w s (.slice A n c)),q1,b1.alloc b1.size _⟩
theorem eD.drewN {w:World}{s t:Bool}{A B:Option Addr}{n m c d:Nat}{w':World}(h:eD w s t A B n m c d w')(q:Nat):eD w s t A B n m c d (w'.drewN q):=⟨h.p0,h.p1,cI h.av q⟩
theorem DK (s t:Bool)(A B:Option Addr)(n m c d:Nat)(f h:Nat->Nat)(w:World)(hA:Rd w.heap.size .u16 w A n f)(hB:Rd w.heap.size .u16 w B m h)(hn:n<=1000000)(hm:m<=1000000):
  Calls Tryz.prog 79 #[.agg #[.bool s,.slice A n c],.agg #[.bool t,.slice B m d]] w fun e w'=>e= .returned (.bool (jh s t n m f h))/\Below w.heap.size w w':=by
 have hT:=eD.start w s t A B n m c d
 by_cases hst:s=t
 ·
  subst hst
  by_cases hl:n=m
  ·
   subst hl
   go_enter Tryz.func79,Tryz.ntmps79
   go_wp2_with fail
   go_loopw [5] (fun i wr=>∃k:Nat,k<=n/\i= .int .i64 (k:Int)/\Hid (J3 f h k=true)/\eD w s s A B n n c d wr) (fun i _=>n-(intOf i).toNat)
   case atStart=>exact⟨0,Nat.zero_le _,rfl,Lib.hid rfl,hT⟩
   case round=>
    obtain⟨k,hk,rfl,hok,hT⟩:=hrel;obtain⟨p0,p1⟩:=hT.p0.cells;obtain⟨p2,p3⟩:=hT.p1.cells
    by_cases hlt:k<n
    ·
     obtain⟨pa,qa,rfl,hpa,hca⟩:=(hA.below hT.av) (by omega);obtain⟨pb,qb,rfl,hpb,hcb⟩:=(hB.below hT.av) (by omega);have c1:=hca k hlt;have c2:=hcb k hlt;clear hca hcb
     by_cases he:f k=h k
     ·
      have t1:(((f k:Nat):Int) !=((h k:Nat):Int))=false:=by rw[he];simp
      have HE:=Lib.hid he;clear he;go_wp2_with fail
      go_quiet (fail)
      go_wp2
      go_roundw
      case rel=>exact⟨k+1,by omega,by go_num,Lib.hid (Dy hok.out HE.out),hT.drewN _⟩
      case measure=>simp[intOf];omega
     ·
      have t1:(((f k:Nat):Int) !=((h k:Nat):Int))=true:=bne_iff_ne.2 (by omega)
      have iK:jh s s n n f h=false:=by unfold jh J4;rw[wW hlt he,Bool.and_false,Bool.and_false]
      have HF:=Lib.hid iK;clear iK he;go_wp2_with fail
      go_quiet (fail)
      go_wp2
      go_ret
      exact⟨aS HF.out.symm,(hT.drewN _).av⟩
    ·
     obtain rfl:k=n:=by omega
     have iK:jh s s k k f h=true:=by unfold jh J4;rw[hok.out];simp
     have HF:=Lib.hid iK;clear iK;go_wp2_with fail
     go_ret
     exact⟨aS HF.out.symm,hT.av⟩
  ·
   have t0:((n:Int) !=(m:Int))=true:=bne_iff_ne.2 (by omega)
   have iK:jh s s n m f h=false:=by unfold jh J4;rw[beq_false_of_ne hl,Bool.false_and,Bool.and_false]
   have HF:=Lib.hid iK;clear iK
   go_enter Tryz.func79,Tryz.ntmps79
   go_wp2_with fail
   go_ret
   exact⟨aS HF.out.symm,hT.av⟩
 ·
  have t0:(s==t)=false:=by simp[hst]
  have iK:jh s t n m f h=false:=by unfold jh;rw[t0,Bool.false_and]
  have HF:=Lib.hid iK;clear iK
  go_enter Tryz.func79,Tryz.ntmps79
  go_wp2_with fail
  go_ret
  exact⟨aS HF.out.symm,hT.av⟩
theorem Iu {f h:Nat->Nat}{n:Nat}:J3 f h n=true↔∀i,i<n->f i=h i:=by
 induction n with
 |zero=>simp[J3]
 |succ n ih=>
  simp only[J3,Bool.and_eq_true,ih,beq_iff_eq]
  exact⟨fun⟨h1,h2⟩ i hi=>by
   rcases Nat.lt_or_ge i n with h3|h3
   ·exact h1 i h3
   ·rw[show i=n by omega];exact h2,fun h=>⟨fun i hi=>h i (by omega),h n (by omega)⟩⟩
theorem xe (a b:Int):jh (decide (a<0)) (decide (b<0)) (ln aj a.natAbs) (ln aj b.natAbs) (aB aj a.natAbs) (aB aj b.natAbs)=decide (a=b):=by
 by_cases hab:a=b
 ·
  subst hab
  simp[jh,J4,Iu.2 (fun i _=>rfl)]
 ·
  rw[decide_eq_false hab];unfold jh J4
  by_cases hs:decide (a<0)=decide (b<0)
  ·
   rw[hs,beq_self_eq_true,Bool.true_and]
   by_cases hl:ln aj a.natAbs=ln aj b.natAbs
   ·
    rw[hl,beq_self_eq_true,Bool.true_and]
    cases he:J3 (aB aj a.natAbs) (aB aj b.natAbs) (ln aj b.natAbs) with
    |false=>rfl
    |true=>
     have h1:=ei (B:=aj) (Iu.1 he);rw[<-hl,cL aD,hl,cL aD] at h1;exfalso
     by_cases h0:a<0<;>by_cases h00:b<0<;>simp[h0,h00] at hs<;>omega
   ·rw[beq_false_of_ne hl,Bool.false_and]
  ·rw[beq_false_of_ne hs,Bool.false_and]
end Go.Proofs.YtclbiihcbfnjmaaGreat
namespace Go.Proofs.YtclbiihcbfnjmaaGreat
open Go.RowKit

theorem xg {a b q r:Int}(h:a=q*b+r)(hr:(0<=r/\r<b)\/(b<r/\r<=0)):q=a.fdiv b/\r=a.fmod b:=by
 rcases hr with⟨h1,h2⟩|⟨h1,h2⟩
 ·
  have hb:0<b:=by omega
  rw[Int.fdiv_eq_ediv_of_nonneg _ (by omega),Int.fmod_eq_emod_of_nonneg _ (by omega)];have:=(Int.ediv_emod_unique hb (a:=a) (q:=q) (r:=r)).2 ⟨by rw[h,Int.mul_comm];omega,h1,h2⟩;exact⟨this.1.symm,this.2.symm⟩
 ·
  have hb:0< -b:=by omega
  have e1:a.fdiv b=(-a).fdiv (-b):=by rw[Int.neg_fdiv_neg]
  have hm:=Int.mul_fdiv_add_fmod a b;have hm':=Int.mul_fdiv_add_fmod (-a) (-b);rw[<-e1] at hm'
  have e2:a.fmod b=-(-a).fmod (-b):=by rw[Int.neg_mul] at hm';omega
  rw[e1,e2,Int.fdiv_eq_ediv_of_nonneg _ (by omega),Int.fmod_eq_emod_of_nonneg _ (by omega)];have:=(Int.ediv_emod_unique hb (a:=-a) (q:=q) (r:=-r)).2 ⟨by rw[h,Int.neg_mul,Int.mul_comm b q];omega,by omega,by omega⟩;exact⟨this.1.symm,by omega⟩
theorem nJ (a:Int):(decide (a<0)=true/\a=-(a.natAbs:Int)/\0<a.natAbs)\/(decide (a<0)=false/\a=(a.natAbs:Int)):=by
 by_cases h:a<0
 ·left;simp[h];omega
 ·right;simp[h];omega
theorem FD (a:Int){b:Int}(hb:b≠0)(h:¬(decide (a<0)≠decide (b<0)/\0<a.natAbs%b.natAbs)):
  jg (decide (a<0) !=decide (b<0)) (a.natAbs/b.natAbs)=a.fdiv b/\jg (decide (b<0)) (a.natAbs%b.natAbs)=a.fmod b:=by
 have hy:0<b.natAbs:=by omega
 have hd:=Nat.div_add_mod a.natAbs b.natAbs;have hm:=Nat.mod_lt a.natAbs hy
 obtain⟨q,hq⟩:∃q,q=a.natAbs/b.natAbs:=⟨_,rfl⟩
 obtain⟨r,hr⟩:∃r,r=a.natAbs%b.natAbs:=⟨_,rfl⟩
 rw[<-hq,<-hr] at hd⊢;rw[<-hr] at hm h
 have hd':(b.natAbs:Int)*(q:Int)+(r:Int)=(a.natAbs:Int):=by rw[<-Int.natCast_mul];omega
 have hrr:(jg (decide (b<0)) r=jg (decide (b<0)) r):=rfl
 rcases nJ a with⟨sa,ea,pa⟩|⟨sa,ea⟩<;>rcases nJ b with⟨sb,eb,pb⟩|⟨sb,eb⟩<;>rw[sa,sb] at h⊢<;>simp only[jg]<;>generalize a.natAbs=x at*<;>generalize b.natAbs=y at*<;>subst ea<;>subst eb<;>
  refine xg ?_ ?_<;>simp at h⊢<;>(try simp only[Int.mul_comm (q:Int) (y:Int),Int.mul_neg,Int.neg_mul,Int.neg_neg])<;>(try(subst h))<;>(try simp)<;>(try omega)
theorem Qg (a:Int){b:Int}(hb:b≠0)(h:decide (a<0)≠decide (b<0))(h0:0<a.natAbs%b.natAbs):
  jg (decide (a<0) !=decide (b<0)) (a.natAbs/b.natAbs+1)=a.fdiv b/\jg (decide (b<0)) (b.natAbs-a.natAbs%b.natAbs)=a.fmod b:=by
 have hy:0<b.natAbs:=by omega
 have hd:=Nat.div_add_mod a.natAbs b.natAbs;have hm:=Nat.mod_lt a.natAbs hy
 obtain⟨q,hq⟩:∃q,q=a.natAbs/b.natAbs:=⟨_,rfl⟩
 obtain⟨r,hr⟩:∃r,r=a.natAbs%b.natAbs:=⟨_,rfl⟩
 rw[<-hq,<-hr] at hd⊢;rw[<-hr] at hm h0
 have hd':(b.natAbs:Int)*(q:Int)+(r:Int)=(a.natAbs:Int):=by rw[<-Int.natCast_mul];omega
 rcases nJ a with⟨sa,ea,pa⟩|⟨sa,ea⟩<;>rcases nJ b with⟨sb,eb,pb⟩|⟨sb,eb⟩<;>rw[sa,sb] at h⊢<;>simp only[jg]<;>generalize a.natAbs=x at*<;>generalize b.natAbs=y at*<;>subst ea<;>subst eb<;>
  refine xg ?_ ?_<;>simp at h⊢<;>(try rw[show((y-r:Nat):Int)=(y:Int)-r by omega])<;>(try simp only[Int.add_mul,Int.mul_comm (q:Int) (y:Int),Int.mul_neg,Int.neg_mul,Int.neg_neg,Int.neg_add,Int.one_mul])<;>(try omega)
end Go.Proofs.YtclbiihcbfnjmaaGreat
/-! The walk of whole.DivMod. -/
namespace Go.Proofs.YtclbiihcbfnjmaaGreat
open Go.RowKit

structure FE (w:World)(s t:Bool)(A B:Option Addr)(n m c d:Nat)(w':World):Prop where
 p0:aG w' w.heap.size s (.slice A n c)
 p1:aG w' (w.heap.size+1) t (.slice B m d)
 r:aG w' (w.heap.size+1+1) false (.slice none 0 0)
 q:aG w' (w.heap.size+1+1+1) false (.slice none 0 0)
 av:Below w.heap.size w w'
theorem aG.alloc {w:World}{g:Nat}{s:Bool}{v:Value}(h:aG w g s v)(o:Obj):aG (w.alloc o) g s v:=(Below.heap_alloc _ _ _ h.lt).trans h
theorem aG.fresh {w:World}{g:Nat}(s:Bool)(v:Value)(h:w.heap.size=g):aG (w.alloc (.cells #[.bool s,v] 27)) g s v:=by subst h;exact aG.new w s v
theorem Kb (s t:Bool)(A B:Option Addr)(n m c d:Nat)(f h:Nat->Nat)(w:World)
  (hA:Rd w.heap.size .u16 w A n f) (hB:Rd w.heap.size .u16 w B m h) (hf:∀i,f i<65536) (hh:∀i,h i<65536) (hn:n<=1000000) (hm:m<=1000000):
  Calls Tryz.prog 122 #[.slice (some ⟨w.heap.size+1+1+1+1,0,none⟩) 2 2]
   (((((w.alloc (.cells #[.bool s,.slice A n c] 27)).alloc (.cells #[.bool t,.slice B m d] 27)).alloc (.cells #[.bool false,.slice none 0 0] 27)).alloc (.cells #[.bool false,.slice none 0 0] 27)).alloc (.cells #[.bool s,.slice A n c,.bool t,.slice B m d] 27))
   fun e w'=>e= .returned (.bool (okW s n f&&okW t m h))/\FE w s t A B n m c d w':=by
 have z1:(w.alloc (.cells #[.bool s,.slice A n c] 27)).heap.size=w.heap.size+1:=World.size_alloc ..
 obtain⟨w1,hw1⟩:∃w1,w1=w.alloc (.cells #[.bool s,.slice A n c] 27):=⟨_,rfl⟩
 have b1:Below w.heap.size w w1:=by rw[hw1];exact(Below.refl _ w).alloc (Nat.le_refl _) _
 have q0:aG w1 w.heap.size s (.slice A n c):=by rw[hw1];exact aG.new w s _
 rw[<-hw1] at z1⊢
 obtain⟨w2,zP⟩:∃w2,w2=w1.alloc (.cells #[.bool t,.slice B m d] 27):=⟨_,rfl⟩
 have z2:w2.heap.size=w.heap.size+1+1:=by rw[zP,World.size_alloc,z1]
 have b2:Below w.heap.size w w2:=by rw[zP];exact b1.alloc b1.size _
 have q1:aG w2 (w.heap.size+1) t (.slice B m d):=by rw[zP];exact aG.fresh t _ z1
 have q0:aG w2 w.heap.size s (.slice A n c):=by rw[zP];exact q0.alloc _
 rw[<-zP]
 obtain⟨w3,DY⟩:∃w3,w3=w2.alloc (.cells #[.bool false,.slice none 0 0] 27):=⟨_,rfl⟩
 have z3:w3.heap.size=w.heap.size+1+1+1:=by rw[DY,World.size_alloc,z2]
 have b3:Below w.heap.size w w3:=by rw[DY];exact b2.alloc b2.size _
 have q2:aG w3 (w.heap.size+1+1) false (.slice none 0 0):=by rw[DY];exact aG.fresh _ _ z2
 have q1:aG w3 (w.heap.size+1) t (.slice B m d):=by rw[DY];exact q1.alloc _
 have q0:aG w3 w.heap.size s (.slice A n c):=by rw[DY];exact q0.alloc _
 rw[<-DY]
 obtain⟨w4,WB⟩:∃w4,w4=w3.alloc (.cells #[.bool false,.slice none 0 0] 27):=⟨_,rfl⟩
 have z4:w4.heap.size=w.heap.size+1+1+1+1:=by rw[WB,World.size_alloc,z3]
 have b4:Below w.heap.size w w4:=by rw[WB];exact b3.alloc b3.size _
 have q3:aG w4 (w.heap.size+1+1+1) false (.slice none 0 0):=by rw[WB];exact aG.fresh _ _ z3
 have q2:aG w4 (w.heap.size+1+1) false (.slice none 0 0):=by rw[WB];exact q2.alloc _
 have q1:aG w4 (w.heap.size+1) t (.slice B m d):=by rw[WB];exact q1.alloc _
 have q0:aG w4 w.heap.size s (.slice A n c):=by rw[WB];exact q0.alloc _
 rw[<-WB];have q4:=heap_alloc_new w4 (.cells #[.bool s,.slice A n c,.bool t,.slice B m d] 27);rw[z4] at q4;have b5:=b4.alloc b4.size (.cells #[.bool s,.slice A n c,.bool t,.slice B m d] 27);refine(lB (w.heap.size+1+1+1+1) s t A B n m c d f h _ q4 ((hA.below b5).more b5.size) ((hB.below b5).more b5.size) hf hh hn hm).mono ?_
 rintro e w' ⟨rfl,hb⟩
 exact⟨rfl,(q0.alloc _).below hb (q0.alloc _).lt,(q1.alloc _).below hb (q1.alloc _).lt,(q2.alloc _).below hb (q2.alloc _).lt,(q3.alloc _).below hb (q3.alloc _).lt,b5.trans (hb.mono b5.size)⟩

theorem aG.other {w:World}{g R:Nat}{s:Bool}{v:Value}(h:aG w g s v)(hR:g≠R)(s':Bool)(v':Value):aG ((w.setCell ⟨R,0,none⟩ (.bool s')).setCell ⟨R,1,none⟩ v') g s v:=
 (Below.heap_setCell _ _ _ _ hR).trans ((Below.heap_setCell _ _ _ _ hR).trans h)
end Go.Proofs.YtclbiihcbfnjmaaGreat
/-! The walk of whole.DivMod: valid arguments. -/
namespace Go.Proofs.YtclbiihcbfnjmaaGreat
open Go.RowKit

end Go.Proofs.YtclbiihcbfnjmaaGreat
namespace Go.Proofs.YtclbiihcbfnjmaaGreat
open Go.RowKit

theorem Fh (a b:Nat)(m:Nat)(ha:ln aj a<=m)(hb:ln aj b<=m):ln aj (Nat.gcd a b)<=m:=by
 rcases Nat.eq_zero_or_pos a with rfl|h
 ·rw[Nat.gcd_zero_left];exact hb
 ·exact Nat.le_trans (bO aD (Nat.gcd_le_left b h)) ha
theorem WW.riv {w w':World}{x:Nat}{e:Ending}(h:WW w (false&&decide (0<x)) x e w')(hl:ln aj x<=1024):∃A c,e= .returned (.agg #[.bool false,.slice A (ln aj x) c])/\Q5 w.heap.size w' (x:Int) false A (ln aj x) c 0/\Below w.heap.size w w':=by
 obtain⟨A,c,he,ho,hb⟩:=h;refine⟨A,c,he,.inl ⟨hl, ?_,rfl,rfl,ho⟩,hb⟩
 simp
theorem Vq (a b:Int)(A B:Option Addr)(c d:Nat)(w:World)(hA:aN w A a.natAbs)(hB:aN w B b.natAbs)(ha:ln aj a.natAbs<=1024)(hb:ln aj b.natAbs<=1024):
  Calls Tryz.prog 169 #[.agg #[.bool (decide (a<0)),.slice A (ln aj a.natAbs) c],.agg #[.bool (decide (b<0)),.slice B (ln aj b.natAbs) d]] w (RI w ((Nat.gcd a.natAbs b.natAbs:Nat):Int)):=by
 have lR:=uQ (decide (a<0)) (decide (b<0)) A B (ln aj a.natAbs) (ln aj b.natAbs) c d _ _ w hA hB (fun i=>bh _ i) (fun i=>bh _ i) (by omega) (by omega);rw[pW ha hb] at lR;have la:=dF ha;have lb:=dF hb;have lg:=Fh a.natAbs b.natAbs 1024 ha hb;have aqY:=dF lg
 obtain⟨s,hs⟩:∃s,s=decide (a<0):=⟨_,rfl⟩
 obtain⟨t,ht⟩:∃t,t=decide (b<0):=⟨_,rfl⟩
 rw[<-hs,<-ht] at lR⊢;clear hs ht
 go_enter Tryz.func169,Tryz.ntmps169
 go_wp2_with fail
 refine lR.mono ?_
 rintro e w1 ⟨rfl,ht⟩
 have D1:=Lib.hid fun(w':World) (hw':Below w.heap.size w w')=>fz A c a.natAbs w' (aN.below hA hw') (by omega)
 have D2:=Lib.hid fun(w':World) (hw':Below w.heap.size w w')=>fz B d b.natAbs w' (aN.below hB hw') (by omega)
 have zU:eD w s t A B (ln aj a.natAbs) (ln aj b.natAbs) c d w1.drew:=⟨ht.p0,ht.p1,ht.av.drew⟩;have lV:aG w1.drew (w.heap.size+1+1) false (.slice none 0 0):=ht.r;have HT:=Lib.hid ht;clear ht;go_wp2_with fail
 go_region_held3 (fun w'=>w'.cell? ⟨w.heap.size,0,none⟩=some (.bool s)/\w'.cell? ⟨w.heap.size,1,none⟩=some (.slice A (ln aj a.natAbs) c)/\w'.cell? ⟨w.heap.size+1,0,none⟩=some (.bool t)/\w'.cell? ⟨w.heap.size+1,1,none⟩=some (.slice B (ln aj b.natAbs) d)/\eD w s t A B (ln aj a.natAbs) (ln aj b.natAbs) c d w')
  (first|with_reducible exact Xz.s|with_reducible exact zV.s|with_reducible exact Vr.s|with_reducible exact D7.s|with_reducible exact zW.s|with_reducible exact zU.s)
  (first
   |(go_at_call_of 124 (Value.slice A (ln aj a.natAbs) c);refine(D1.out _ zU.av).mono ?_;rintro e w2 ⟨A1,c1,rfl,oR,ox,dI⟩;have zW:=zU.below dI)
   |(go_at_call_of 124 (Value.slice B (ln aj b.natAbs) d);refine(D2.out _ zW.av).mono ?_;rintro e w3 ⟨A2,c2,rfl,lQ,hn2,dL⟩;have D7:=zW.below dL)
   |(go_at_call 181;refine(pV A1 A2 c1 c2 a.natAbs b.natAbs _ (aL.below ox dL) hn2 (by omega) (by omega) oR lQ).mono ?_;rintro e w5 ⟨A3,c3,rfl,hc3,hn3,fO⟩;have Vr:=D7.below fO)
   |(go_at_call 173;refine(eO false A3 c3 (Nat.gcd a.natAbs b.natAbs) _ hn3 hc3 (by omega)).mono ?_;rintro e w4 oy;obtain⟨A',c',rfl,hv,fT⟩:=WW.riv oy lg;have zV:=Vr.below fT;have vD:=lV.below dI lV.lt;have jT:=vD.below dL vD.lt;have wM:=jT.below fO jT.lt;have DJ:=wM.below fT wM.lt;obtain⟨r0,r1⟩:=DJ.cells;have g0:=DJ.frozen 0;have g1:=DJ.frozen 1;have Xz:=zV.store false (.slice A' (ln aj (Nat.gcd a.natAbs b.natAbs)) c')))
 obtain⟨hW,p5⟩:=bP DJ zV.av (show w.heap.size<=w.heap.size+1+1 by omega) false (.slice A' (ln aj (Nat.gcd a.natAbs b.natAbs)) c');have hsz:=Vr.av.size;have mX:=(hv.store wM.lt false (.slice A' (ln aj (Nat.gcd a.natAbs b.natAbs)) c')).lower hsz;clear hv zU zW D7 zV Xz Vr lV vD jT DJ wM r0 r1 g0 g1 oy
 go_wp2
 generalize ((w4.setCell ⟨w.heap.size+1+1,0,none⟩ (.bool false)).setCell ⟨w.heap.size+1+1,1,none⟩ (.slice A' (ln aj (Nat.gcd a.natAbs b.natAbs)) c'))=WW at*
 obtain⟨k0,k1⟩:=hW.cells;refine bodyPost_ret (v:= .tuple #[.agg #[.bool false,.slice A' (ln aj (Nat.gcd a.natAbs b.natAbs)) c'],.int .i64 0]) (by simp[results,Tryz.results169,go_sem,k0,k1]) rfl ?_;exact mX.ri p5
end Go.Proofs.YtclbiihcbfnjmaaGreat
namespace Go.Proofs.YtclbiihcbfnjmaaGreat
open Go.RowKit

end Go.Proofs.YtclbiihcbfnjmaaGreat
/-! The walk of whole.Mul. -/
namespace Go.Proofs.YtclbiihcbfnjmaaGreat
open Go.RowKit

theorem Vs (a b:Int):jg (decide (a<0) !=decide (b<0)) (a.natAbs*b.natAbs)=a*b:=by
 rw[<-Int.natAbs_mul]
 by_cases ha:a<0<;>by_cases hb:b<0
 ·
  have:=Int.mul_pos_of_neg_of_neg ha hb
  simp[ha,hb,jg];omega
 ·
  have:a*b<=0:=Int.mul_nonpos_of_nonpos_of_nonneg (by omega) (by omega)
  simp[ha,hb,jg];omega
 ·
  have:a*b<=0:=Int.mul_nonpos_of_nonneg_of_nonpos (by omega) (by omega)
  simp[ha,hb,jg];omega
 ·
  have:0<=a*b:=Int.mul_nonneg (by omega) (by omega)
  simp[ha,hb,jg];omega
theorem Qh {B x y m n:Nat}(hB:2<=B)(hx:ln B x<=m)(hy:ln B y<=n):ln B (x*y)<=m+n:=by
 refine(bf hB).2 ?_;rw[Nat.pow_add];exact Nat.mul_lt_mul'' ((bf hB).1 hx) ((bf hB).1 hy)
theorem Vt (a b:Int)(A B:Option Addr)(c d:Nat)(w:World)(hA:aN w A a.natAbs)(hB:aN w B b.natAbs)(ha:ln aj a.natAbs<=1024)(hb:ln aj b.natAbs<=1024):
  Calls Tryz.prog 125 #[.agg #[.bool (decide (a<0)),.slice A (ln aj a.natAbs) c],.agg #[.bool (decide (b<0)),.slice B (ln aj b.natAbs) d]] w (RI w (a*b)):=by
 have lR:=uQ (decide (a<0)) (decide (b<0)) A B (ln aj a.natAbs) (ln aj b.natAbs) c d _ _ w hA hB (fun i=>bh _ i) (fun i=>bh _ i) (by omega) (by omega);rw[pW ha hb] at lR;have la:=dF ha;have lb:=dF hb;have hsum:jg (decide (a<0) !=decide (b<0)) (a.natAbs*b.natAbs)=a*b:=Vs a b;have lm:=Qh aF la lb;have Qf:=Lib.hid hsum;clear hsum
 obtain⟨s,hs⟩:∃s,s=decide (a<0):=⟨_,rfl⟩
 obtain⟨t,ht⟩:∃t,t=decide (b<0):=⟨_,rfl⟩
 rw[<-hs,<-ht] at lR Qf⊢;clear hs ht
 go_enter Tryz.func125,Tryz.ntmps125
 go_wp2_with fail
 refine lR.mono ?_
 rintro e w1 ⟨rfl,ht⟩
 have D1:=Lib.hid fun(w':World) (hw':Below w.heap.size w w')=>fz A c a.natAbs w' (aN.below hA hw') (by omega)
 have D2:=Lib.hid fun(w':World) (hw':Below w.heap.size w w')=>fz B d b.natAbs w' (aN.below hB hw') (by omega)
 have zU:eD w s t A B (ln aj a.natAbs) (ln aj b.natAbs) c d w1.drew:=⟨ht.p0,ht.p1,ht.av.drew⟩;have lV:aG w1.drew (w.heap.size+1+1) false (.slice none 0 0):=ht.r;have HT:=Lib.hid ht;clear ht;go_wp2_with fail
 go_region_held3 (fun w'=>w'.cell? ⟨w.heap.size,0,none⟩=some (.bool s)/\w'.cell? ⟨w.heap.size,1,none⟩=some (.slice A (ln aj a.natAbs) c)/\w'.cell? ⟨w.heap.size+1,0,none⟩=some (.bool t)/\w'.cell? ⟨w.heap.size+1,1,none⟩=some (.slice B (ln aj b.natAbs) d)/\eD w s t A B (ln aj a.natAbs) (ln aj b.natAbs) c d w')
  (first|with_reducible exact Xz.s|with_reducible exact zV.s|with_reducible exact Vr.s|with_reducible exact D7.s|with_reducible exact zW.s|with_reducible exact zU.s)
  (first
   |(go_at_call_of 124 (Value.slice A (ln aj a.natAbs) c);refine(D1.out _ zU.av).mono ?_;rintro e w2 ⟨A1,c1,rfl,oR,ox,dI⟩;have zW:=zU.below dI)
   |(go_at_call_of 124 (Value.slice B (ln aj b.natAbs) d);refine(D2.out _ zW.av).mono ?_;rintro e w3 ⟨A2,c2,rfl,lQ,hn2,dL⟩;have D7:=zW.below dL)
   |(go_at_call 158;refine(J7 A1 A2 c1 c2 a.natAbs b.natAbs _ (aL.below ox dL) hn2 (by omega) (by omega)).mono ?_;rintro e w5 ⟨A3,c3,rfl,hc3,hn3,fO⟩;have Vr:=D7.below fO)
   |(go_at_call 157;refine(lA (s !=t) A3 c3 (a.natAbs*b.natAbs) _ hn3 hc3 (by omega)).mono ?_;rintro e w4 oy;obtain⟨s',A',n',c',k,rfl,hv,fT⟩:=oy.vals;have zV:=Vr.below fT;have vD:=lV.below dI lV.lt;have jT:=vD.below dL vD.lt;have wM:=jT.below fO jT.lt;have DJ:=wM.below fT wM.lt;obtain⟨r0,r1⟩:=DJ.cells;have g0:=DJ.frozen 0;have g1:=DJ.frozen 1;have Xz:=zV.store s' (.slice A' n' c')))
 obtain⟨hW,p5⟩:=bP DJ zV.av (show w.heap.size<=w.heap.size+1+1 by omega) s' (.slice A' n' c');have hsz:=Vr.av.size;have mX:=(hv.store wM.lt s' (.slice A' n' c')).lower hsz;rw[Qf.out] at mX;clear hv zU zW D7 zV Xz Vr lV vD jT DJ wM r0 r1 g0 g1 oy
 go_wp2
 generalize ((w4.setCell ⟨w.heap.size+1+1,0,none⟩ (.bool s')).setCell ⟨w.heap.size+1+1,1,none⟩ (.slice A' n' c'))=WW at*
 obtain⟨k0,k1⟩:=hW.cells;refine bodyPost_ret (v:= .tuple #[.agg #[.bool s',.slice A' n' c'],.int .i64 k]) (by simp[results,Tryz.results125,go_sem,k0,k1]) rfl ?_;exact mX.ri p5
end Go.Proofs.YtclbiihcbfnjmaaGreat
namespace Go.Proofs.YtclbiihcbfnjmaaGreat
open Go.RowKit

def vA (a b:Int):Int:=if a<b then-1 else if b<a then 1 else 0
theorem Kc (s t:Bool)(A B:Option Addr)(n m c d:Nat)(f h:Nat->Nat)(w:World)
  (hA:Rd w.heap.size .u16 w A n f) (hB:Rd w.heap.size .u16 w B m h) (hf:∀i,f i<65536) (hh:∀i,h i<65536) (hn:n<=1000000) (hm:m<=1000000):
  Calls Tryz.prog 122 #[.slice (some ⟨w.heap.size+1+1,0,none⟩) 2 2]
   (((w.alloc (.cells #[.bool s,.slice A n c] 27)).alloc (.cells #[.bool t,.slice B m d] 27)).alloc (.cells #[.bool s,.slice A n c,.bool t,.slice B m d] 27))
   fun e w'=>e= .returned (.bool (okW s n f&&okW t m h))/\eD w s t A B n m c d w':=by
 have b1:Below w.heap.size w (w.alloc (.cells #[.bool s,.slice A n c] 27)):=(Below.refl _ w).alloc (Nat.le_refl _) _;have b2:=b1.alloc b1.size (.cells #[.bool t,.slice B m d] 27);have b4:=b2.alloc b2.size (.cells #[.bool s,.slice A n c,.bool t,.slice B m d] 27);have q0:=aG.new w s (.slice A n c);have q1:=aG.new (w.alloc (.cells #[.bool s,.slice A n c] 27)) t (.slice B m d);have q3:=heap_alloc_new ((w.alloc (.cells #[.bool s,.slice A n c] 27)).alloc (.cells #[.bool t,.slice B m d] 27)) (.cells #[.bool s,.slice A n c,.bool t,.slice B m d] 27);simp only[World.size_alloc] at q1 q3;refine(lB (w.heap.size+1+1) s t A B n m c d f h _ q3 ((hA.below b4).more b4.size) ((hB.below b4).more b4.size) hf hh hn hm).mono ?_
 rintro e w' ⟨rfl,hb⟩
 refine⟨rfl, ?_, ?_,b4.trans (hb.mono b4.size)⟩
 ·
  refine aG.below ?_ hb (by first|(simp;done)|(simp;omega));exact(Below.heap_alloc _ _ _ (by first|(simp;done)|(simp;omega))).trans ((Below.heap_alloc _ _ _ (by simp)).trans q0)
 ·
  refine aG.below ?_ hb (by first|(simp;done)|(simp;omega));exact(Below.heap_alloc _ _ _ (by simp)).trans q1
theorem Vu (a b:Int)(A B:Option Addr)(c d:Nat)(w:World)(hA:aN w A a.natAbs)(hB:aN w B b.natAbs)(ha:ln aj a.natAbs<=1024)(hb:ln aj b.natAbs<=1024):
  Calls Tryz.prog 81 #[.agg #[.bool (decide (a<0)),.slice A (ln aj a.natAbs) c],.agg #[.bool (decide (b<0)),.slice B (ln aj b.natAbs) d]] w fun e w'=>e= .returned (.int .i64 (vA a b))/\Below w.heap.size w w':=by
 have lR:=Kc (decide (a<0)) (decide (b<0)) A B (ln aj a.natAbs) (ln aj b.natAbs) c d _ _ w hA hB (fun i=>bh _ i) (fun i=>bh _ i) (by omega) (by omega);rw[pW ha hb] at lR;have la:=dF ha;have lb:=dF hb
 obtain⟨s,hs⟩:∃s,s=decide (a<0):=⟨_,rfl⟩
 obtain⟨t,ht⟩:∃t,t=decide (b<0):=⟨_,rfl⟩
 rw[<-hs,<-ht] at lR⊢;have HS:=Lib.hid hs;have HT':=Lib.hid ht;clear hs ht
 go_enter Tryz.func81,Tryz.ntmps81
 go_wp2_with fail
 refine lR.mono ?_
 rintro e w1 ⟨rfl,ht⟩
 obtain⟨p0,p1⟩:=ht.p0.cells;obtain⟨p2,p3⟩:=ht.p1.cells
 by_cases hst:s=t
 ·
  subst hst
  have t0:(s !=s)=false:=by simp
  have D1:=Lib.hid fun(w':World) (hw':Below w.heap.size w w')=>fz A c a.natAbs w' (aN.below hA hw') (by omega)
  have D2:=Lib.hid fun(w':World) (hw':Below w.heap.size w w')=>fz B d b.natAbs w' (aN.below hB hw') (by omega)
  have zU:eD w s s A B (ln aj a.natAbs) (ln aj b.natAbs) c d w1.drew:=⟨ht.p0,ht.p1,ht.av.drew⟩
  have hcz:vA a b=if s then-jP a.natAbs b.natAbs else jP a.natAbs b.natAbs:=by
   have h1:=HS.out;have h2:=HT'.out;unfold vA jP
   cases s
   ·
    have h1:0<=a:=by simpa using h1.symm
    have h2:0<=b:=by simpa using h2.symm
    simp only[Bool.false_eq_true,if_false]
    split<;>split<;>(try split)<;>(try split)<;>omega
   ·
    have h1:a<0:=by simpa using h1.symm
    have h2:b<0:=by simpa using h2.symm
    simp only[if_true]
    split<;>split<;>(try split)<;>(try split)<;>omega
  have HCZ:=Lib.hid hcz;clear hcz;go_wp2_with fail
  clear p0 p1 p2 p3
  go_region_held3 (fun w'=>w'.cell? ⟨w.heap.size,0,none⟩=some (.bool s)/\w'.cell? ⟨w.heap.size,1,none⟩=some (.slice A (ln aj a.natAbs) c)/\w'.cell? ⟨w.heap.size+1,0,none⟩=some (.bool s)/\w'.cell? ⟨w.heap.size+1,1,none⟩=some (.slice B (ln aj b.natAbs) d)/\eD w s s A B (ln aj a.natAbs) (ln aj b.natAbs) c d w')
   (first|with_reducible exact zV.s|with_reducible exact D7.s|with_reducible exact zW.s|with_reducible exact zU.s)
   (first
    |(go_at_call_of 124 (Value.slice A (ln aj a.natAbs) c);refine(D1.out _ zU.av).mono ?_;rintro e w2 ⟨A1,c1,rfl,oR,ox,dI⟩;have zW:=zU.below dI)
    |(go_at_call_of 124 (Value.slice B (ln aj b.natAbs) d);refine(D2.out _ zW.av).mono ?_;rintro e w3 ⟨A2,c2,rfl,lQ,hn2,dL⟩;have D7:=zW.below dL)
    |(go_at_call 123;refine(fM A1 A2 c1 c2 a.natAbs b.natAbs _ (aL.below ox dL) hn2 (by omega)).mono ?_;rintro e w4 ⟨rfl,q,rfl⟩;have zV:=D7.below (cI (Below.refl _ _) q)))
  obtain⟨k0,-⟩:=zV.p0.cells;have hbf:=zV.av
  cases s
  ·
   go_wp2
   go_ret
   exact⟨fC (by rw[HCZ.out];rfl),hbf⟩
  ·
   go_wp2
   go_ret
   exact⟨fC (by rw[HCZ.out];simp only[if_true];unfold jP;split<;>(try split)<;>simp[wrap64]),hbf⟩
 ·
  have hval:vA a b=if s then-1 else 1:=by
   have h1:=HS.out;have h2:=HT'.out;unfold vA
   cases s<;>cases t<;>simp_all<;>omega
  have HV:=Lib.hid hval;clear hval
  cases s<;>cases t
  ·exact absurd rfl hst
  ·
   go_wp2_with fail
   go_ret
   exact⟨fC (by rw[HV.out];rfl),ht.av⟩
  ·
   go_wp2_with fail
   go_ret
   exact⟨fC (by rw[HV.out];rfl),ht.av⟩
  ·exact absurd rfl hst
end Go.Proofs.YtclbiihcbfnjmaaGreat
