/-
  Parts.
-/
import Derived.Test.YtclbiihcbfnjmaaGreatK4
import Derived.Test.YtclbiihcbfnjmaaGreatK3
import Derived.Test.YtclbiihcbfnjmaaGreatK5
import Derived.Deep.RegionHeld3
set_option maxRecDepth 100000
set_option maxHeartbeats 4000000
namespace Go.Proofs.YtclbiihcbfnjmaaGreat
open Go.RowKit

def valOf (w:World):Value->Nat
 | .slice (some p) n _=>vs ah (fun i=>match w.cell? ⟨p.block,p.off+i,none⟩ with|some (.int _ z)=>z.toNat|_=>0) n
 |_=>0
theorem pg {w:World}{A:Option Addr}{x c:Nat}(h:aO w A x):valOf w (.slice A (ln ah x) c)=x:=by
 rcases dF (ln ah x) with h0|h0
 ·
  have hx:x=0:=by
   rcases dF x with e|e
   ·exact e
   ·have:=(dM aE).2 e;omega
  subst hx
  cases A<;>simp[valOf,cY,vs]
 ·
  obtain⟨b,o,rfl,hb,hc⟩:=h h0
  have h1:vs ah (fun i=>match w.cell? ⟨b,o+i,none⟩ with|some (.int _ z)=>z.toNat|_=>0) (ln ah x)=vs ah (aB ah x) (ln ah x):=fo fun i hi=>by rw[hc i hi];simp
  show vs ah (fun i=>match w.cell? ⟨b,o+i,none⟩ with|some (.int _ z)=>z.toNat|_=>0) (ln ah x)=x;rw[h1,dB aE]

def ajQ (w0:World)(G:Nat)(x y:Value)(wr:World)(b':Nat):Prop:=
 ∃A c B d a',x= .slice A (ln ah a') c/\y= .slice B (ln ah b') d/\aO wr A a'/\aO wr B b'/\b'<=a'/\Nat.gcd a' b'=G/\ln ah a'<=1000000/\ln ah a'<=c/\ln ah b'<=d/\Below w0.heap.size w0 wr

theorem Tf {a b G:Nat}(h:Nat.gcd a b=G):Nat.gcd b a=G:=by rw[jP];exact h
theorem Kk {a b:Nat}:kQ a b<0↔a<b:=by
 unfold kQ;split<;>(try split)<;>omega
theorem rL (A B:Option Addr)(c d a b:Nat)(w:World)(ha:aO w A a)(hb:aO w B b)(hn:ln ah a<=1000000)(hm:ln ah b<=1000000)(hac:ln ah a<=c)(hbd:ln ah b<=d):
  Calls Tryz.prog 181 #[.slice A (ln ah a) c,.slice B (ln ah b) d] w (TM w (Nat.gcd a b)):=by
 obtain⟨G,hG⟩:∃G,Nat.gcd a b=G:=⟨_,rfl⟩
 rw[hG];have HG:=af hG;clear hG
 go_enter Tryz.func181,Tryz.ntmps181
 go_wp2_with fail
 refine(iu A B c d a b w ha hb (by omega)).mono ?_
 rintro e w1 ⟨rfl,n,rfl⟩
 go_upto_if 15 with(fail)
 go_cut [0,1] (fun x y wx=>∃b',ajQ w G x y wx b')
 case first=>
  by_cases hlt:a<b
  ·
   have h1:=Kk.2 hlt;go_wp2_with fail
   go_meet
   exact⟨a,B,d,A,c,b,rfl,rfl,hb,ha,bG hlt,Tf HG.out,hm,hbd,hac,dG (aU _ _) n⟩
  ·
   have h1:¬kQ a b<0:=fun h=>hlt (Kk.1 h)
   go_wp2_with fail
   go_meet
   exact⟨b,A,c,B,d,a,rfl,rfl,ha,hb,by omega,HG.out,hn,hac,hbd,dG (aU _ _) n⟩
 case rest=>
  obtain⟨b0,hP⟩:=hcut;go_wp2_with fail
  go_loopw [0,1] (fun x y wr=>∃b',ajQ w G x y wr b') (fun _ y wr=>valOf wr y)
  case atStart=>exact⟨b0,hP⟩
  case round=>
   obtain⟨b',hP⟩:=hrel;obtain⟨A,c,B,d,a',rfl,rfl,ha,hb,hba,hg,hn,hc,hd,bh⟩:=hP
   by_cases h3:3<=ln ah b'
   ·
    have t3:(2:Int)<(ln ah b':Int):=by omega
    go_wp2_with fail
    refine(Cf A B c d a' b' wr ha hb hba hn h3).mono ?_
    rintro e w2 ⟨ev,u0,u1,v0,v1,rfl,hst,eS⟩
    have hbS:Below wr.heap.size wr (w2.alloc (.cells #[.int .u64 (u0:Int),.int .u64 (u1:Int),.int .u64 (v0:Int),.int .u64 (v1:Int),.bool ev] 194)):=eS.alloc eS.size _;have hS:eP (w2.alloc (.cells #[.int .u64 (u0:Int),.int .u64 (u1:Int),.int .u64 (v0:Int),.int .u64 (v1:Int),.bool ev] 194)) w2.heap.size ev u0 u1 v0 v1:=eU _ _;have haS:=aO.below ha hbS;have Mo:=aO.below hb hbS;have aax:=bh.trans (hbS.mono bh.size);have hbm:ln ah b'<=1000000:=ay ((bJ aE).2 (eH hba (bt aE a'))) hn;have hval:=pg (c:=d) hb;obtain⟨s0,s1,s2,s3,s4⟩:=hS.cells;have Cg:=hS.lt
    by_cases hv:v0=0
    ·
     subst hv;have hb0:0<b':=(dM aE).1 (by omega);go_wp2_with fail
     refine(qF A B c d a' b' _ haS Mo hb0 hn).mono ?_
     rintro e w3 ⟨Aq,cq,Ar,cr,rfl,hq1,FB,hq,hr,iz⟩
     have hmod:=bK a' hb0;have hlr:ln ah (a'%b')<=1000000:=ay ((bJ aE).2 (Nat.lt_trans hmod (bt aE b'))) hbm;have uf:=pg (c:=cr) hr;go_wp2_with fail
     go_roundw
     case rel=>exact⟨a'%b',B,d,Ar,cr,b',rfl,rfl,aO.below Mo iz,hr,bG hmod,by rw[jP,<-Nat.gcd_rec,jP];exact hg,hbm,hd,FB,aax.trans (iz.mono aax.size)⟩
     case measure=>rw[hval,uf];exact hmod
    ·
     have hv0:((v0:Int)==0)=false:=by simpa using hv
     have hok:=hst.resolve_left hv
     cases ev
     ·
      obtain⟨k1,k2,k3,k4⟩:=LD hok;have la:=hok.le0;have lb:=hok.le1;simp only[Bool.false_eq_true,if_false] at la lb
      have D1:=af fun(w':World) (hw':Below (w2.alloc (.cells #[.int .u64 (u0:Int),.int .u64 (u1:Int),.int .u64 (v0:Int),.int .u64 (v1:Int),.bool false] 194)).heap.size (w2.alloc (.cells #[.int .u64 (u0:Int),.int .u64 (u1:Int),.int .u64 (v0:Int),.int .u64 (v1:Int),.bool false] 194)) w')=>iU B A d c v0 u0 b' a' w' (aO.below Mo hw') (aO.below haS hw') hok.adH hok.adF la hbm hn
      have D2:=af fun(w':World) (hw':Below (w2.alloc (.cells #[.int .u64 (u0:Int),.int .u64 (u1:Int),.int .u64 (v0:Int),.int .u64 (v1:Int),.bool false] 194)).heap.size (w2.alloc (.cells #[.int .u64 (u0:Int),.int .u64 (u1:Int),.int .u64 (v0:Int),.int .u64 (v1:Int),.bool false] 194)) w')=>iU A B c d u1 v1 a' b' w' (aO.below haS hw') (aO.below Mo hw') hok.adG hok.adI lb hn hbm
      have KS:=af fun(w' w'':World) (h:Below (w2.alloc (.cells #[.int .u64 (u0:Int),.int .u64 (u1:Int),.int .u64 (v0:Int),.int .u64 (v1:Int),.bool false] 194)).heap.size (w2.alloc (.cells #[.int .u64 (u0:Int),.int .u64 (u1:Int),.int .u64 (v0:Int),.int .u64 (v1:Int),.bool false] 194)) w') (h2:Below w'.heap.size w' w'')=>(show w''.cell? ⟨w2.heap.size,0,none⟩=some (.int .u64 (u0:Int))/\w''.cell? ⟨w2.heap.size,1,none⟩=some (.int .u64 (u1:Int))/\w''.cell? ⟨w2.heap.size,2,none⟩=some (.int .u64 (v0:Int))/\w''.cell? ⟨w2.heap.size,3,none⟩=some (.int .u64 (v1:Int))/\Below (w2.alloc (.cells #[.int .u64 (u0:Int),.int .u64 (u1:Int),.int .u64 (v0:Int),.int .u64 (v1:Int),.bool false] 194)).heap.size (w2.alloc (.cells #[.int .u64 (u0:Int),.int .u64 (u1:Int),.int .u64 (v0:Int),.int .u64 (v1:Int),.bool false] 194)) w'' from
       have h3:=h.trans (h2.mono h.size)
       ⟨(h3.cell (p:=⟨w2.heap.size,0,none⟩) Cg).trans s0,(h3.cell (p:=⟨w2.heap.size,1,none⟩) Cg).trans s1,(h3.cell (p:=⟨w2.heap.size,2,none⟩) Cg).trans s2,(h3.cell (p:=⟨w2.heap.size,3,none⟩) Cg).trans s3,h3⟩)
      have hrefl:=aU (w2.alloc (.cells #[.int .u64 (u0:Int),.int .u64 (u1:Int),.int .u64 (v0:Int),.int .u64 (v1:Int),.bool false] 194)).heap.size (w2.alloc (.cells #[.int .u64 (u0:Int),.int .u64 (u1:Int),.int .u64 (v0:Int),.int .u64 (v1:Int),.bool false] 194));go_wp2_with fail
      go_region_held3? (fun w'=>w'.cell? ⟨w2.heap.size,0,none⟩=some (.int .u64 (u0:Int))/\w'.cell? ⟨w2.heap.size,1,none⟩=some (.int .u64 (u1:Int))/\w'.cell? ⟨w2.heap.size,2,none⟩=some (.int .u64 (v0:Int))/\w'.cell? ⟨w2.heap.size,3,none⟩=some (.int .u64 (v1:Int))/\Below (w2.alloc (.cells #[.int .u64 (u0:Int),.int .u64 (u1:Int),.int .u64 (v0:Int),.int .u64 (v1:Int),.bool false] 194)).heap.size (w2.alloc (.cells #[.int .u64 (u0:Int),.int .u64 (u1:Int),.int .u64 (v0:Int),.int .u64 (v1:Int),.bool false] 194)) w') (first|exact⟨s0,s1,s2,s3,hrefl.drew⟩|with_reducible exact KS.out _ _ hrefl.drew eD|with_reducible exact KS.out _ _ hrefl.drew eS|exact KS.out _ _ (hrefl.drew.trans eD) eS|exact KS.out _ _ (hrefl.drew.trans eS) eD)
       (first|(go_at_call_of 189 (Value.int .u64 (v0:Int));refine(D1.out _ (by first|exact hrefl.drew|exact(hrefl.drew.trans eS))).mono ?_;rintro e w'' ⟨A1,c1,rfl,qM,vu,eD⟩)|(go_at_call_of 189 (Value.int .u64 (u1:Int));refine(D2.out _ (by first|exact hrefl.drew|exact(hrefl.drew.trans eD))).mono ?_;rintro e w'' ⟨A2,c2,rfl,oW,hn2,eS⟩))
      have uf:=pg (c:=c2) hn2;have iZ:Below wr.heap.size wr w'':=hbS.trans (((hrefl.drew.trans eD).trans (eS.mono (hrefl.drew.trans eD).size)).mono hbS.size);have tE:ln ah (v0*b'-u0*a')<=1000000:=ay ((bJ aE).2 (eH k4 (bt aE b'))) hbm
      go_wp2
      go_roundw
      case rel=>exact⟨_,A1,c1,A2,c2,_,rfl,rfl,aO.below vu eS,hn2,bG k3,k1.trans hg,tE,qM,oW,bh.trans (iZ.mono bh.size)⟩
      case measure=>rw[hval,uf];exact k2
     ·
      obtain⟨k1,k2,k3,k4⟩:=GM hok;have la:=hok.le0;have lb:=hok.le1;simp only[if_true] at la lb
      have D1:=af fun(w':World) (hw':Below (w2.alloc (.cells #[.int .u64 (u0:Int),.int .u64 (u1:Int),.int .u64 (v0:Int),.int .u64 (v1:Int),.bool true] 194)).heap.size (w2.alloc (.cells #[.int .u64 (u0:Int),.int .u64 (u1:Int),.int .u64 (v0:Int),.int .u64 (v1:Int),.bool true] 194)) w')=>iU A B c d u0 v0 a' b' w' (aO.below haS hw') (aO.below Mo hw') hok.adF hok.adH la hn hbm
      have D2:=af fun(w':World) (hw':Below (w2.alloc (.cells #[.int .u64 (u0:Int),.int .u64 (u1:Int),.int .u64 (v0:Int),.int .u64 (v1:Int),.bool true] 194)).heap.size (w2.alloc (.cells #[.int .u64 (u0:Int),.int .u64 (u1:Int),.int .u64 (v0:Int),.int .u64 (v1:Int),.bool true] 194)) w')=>iU B A d c v1 u1 b' a' w' (aO.below Mo hw') (aO.below haS hw') hok.adI hok.adG lb hbm hn
      have KS:=af fun(w' w'':World) (h:Below (w2.alloc (.cells #[.int .u64 (u0:Int),.int .u64 (u1:Int),.int .u64 (v0:Int),.int .u64 (v1:Int),.bool true] 194)).heap.size (w2.alloc (.cells #[.int .u64 (u0:Int),.int .u64 (u1:Int),.int .u64 (v0:Int),.int .u64 (v1:Int),.bool true] 194)) w') (h2:Below w'.heap.size w' w'')=>(show w''.cell? ⟨w2.heap.size,0,none⟩=some (.int .u64 (u0:Int))/\w''.cell? ⟨w2.heap.size,1,none⟩=some (.int .u64 (u1:Int))/\w''.cell? ⟨w2.heap.size,2,none⟩=some (.int .u64 (v0:Int))/\w''.cell? ⟨w2.heap.size,3,none⟩=some (.int .u64 (v1:Int))/\Below (w2.alloc (.cells #[.int .u64 (u0:Int),.int .u64 (u1:Int),.int .u64 (v0:Int),.int .u64 (v1:Int),.bool true] 194)).heap.size (w2.alloc (.cells #[.int .u64 (u0:Int),.int .u64 (u1:Int),.int .u64 (v0:Int),.int .u64 (v1:Int),.bool true] 194)) w'' from
       have h3:=h.trans (h2.mono h.size)
       ⟨(h3.cell (p:=⟨w2.heap.size,0,none⟩) Cg).trans s0,(h3.cell (p:=⟨w2.heap.size,1,none⟩) Cg).trans s1,(h3.cell (p:=⟨w2.heap.size,2,none⟩) Cg).trans s2,(h3.cell (p:=⟨w2.heap.size,3,none⟩) Cg).trans s3,h3⟩)
      have hrefl:=aU (w2.alloc (.cells #[.int .u64 (u0:Int),.int .u64 (u1:Int),.int .u64 (v0:Int),.int .u64 (v1:Int),.bool true] 194)).heap.size (w2.alloc (.cells #[.int .u64 (u0:Int),.int .u64 (u1:Int),.int .u64 (v0:Int),.int .u64 (v1:Int),.bool true] 194));go_wp2_with fail
      go_region_held3? (fun w'=>w'.cell? ⟨w2.heap.size,0,none⟩=some (.int .u64 (u0:Int))/\w'.cell? ⟨w2.heap.size,1,none⟩=some (.int .u64 (u1:Int))/\w'.cell? ⟨w2.heap.size,2,none⟩=some (.int .u64 (v0:Int))/\w'.cell? ⟨w2.heap.size,3,none⟩=some (.int .u64 (v1:Int))/\Below (w2.alloc (.cells #[.int .u64 (u0:Int),.int .u64 (u1:Int),.int .u64 (v0:Int),.int .u64 (v1:Int),.bool true] 194)).heap.size (w2.alloc (.cells #[.int .u64 (u0:Int),.int .u64 (u1:Int),.int .u64 (v0:Int),.int .u64 (v1:Int),.bool true] 194)) w') (first|exact⟨s0,s1,s2,s3,hrefl.drew⟩|with_reducible exact KS.out _ _ hrefl.drew eD|with_reducible exact KS.out _ _ hrefl.drew eS|exact KS.out _ _ (hrefl.drew.trans eD) eS|exact KS.out _ _ (hrefl.drew.trans eS) eD)
       (first|(go_at_call_of 189 (Value.int .u64 (u0:Int));refine(D1.out _ (by first|exact hrefl.drew|exact(hrefl.drew.trans eS))).mono ?_;rintro e w'' ⟨A1,c1,rfl,qM,vu,eD⟩)|(go_at_call_of 189 (Value.int .u64 (v1:Int));refine(D2.out _ (by first|exact hrefl.drew|exact(hrefl.drew.trans eD))).mono ?_;rintro e w'' ⟨A2,c2,rfl,oW,hn2,eS⟩))
      have uf:=pg (c:=c2) hn2;have iZ:Below wr.heap.size wr w'':=hbS.trans (((hrefl.drew.trans eD).trans (eS.mono (hrefl.drew.trans eD).size)).mono hbS.size);have tE:ln ah (u0*a'-v0*b')<=1000000:=ay ((bJ aE).2 (eH k4 (bt aE b'))) hbm
      go_wp2
      go_roundw
      case rel=>exact⟨_,A1,c1,A2,c2,_,rfl,rfl,aO.below vu eS,hn2,bG k3,k1.trans hg,tE,qM,oW,bh.trans (iZ.mono bh.size)⟩
      case measure=>rw[hval,uf];exact k2
   ·
    have t3:¬((2:Int)<(ln ah b':Int)):=by omega
    by_cases hz:b'=0
    ·
     subst hz
     rw[cY] at*
     go_wp2_with fail
     go_ret
     rw[Nat.gcd_zero_right] at hg;subst hg;exact⟨A,c,rfl,hc,ha,bh⟩
    ·
     have iZ:ln ah b'≠0:=by have:=(dM aE).2 (show 0<b' by omega);omega
     have hb0:0<b':=by omega
     have tz:((ln ah b':Int)==0)=false:=by simp;omega
     go_upto_if 71 with(fail)
     have hval:=hz
     go_cut [0,1] (fun x y wx=>∃A c B d a'' b'',x= .slice A (ln ah a'') c/\y= .slice B (ln ah b'') d/\ln ah a''<=2/\ln ah b''<=2/\aO wx A a''/\aO wx B b''/\Nat.gcd a'' b''=G/\Below w.heap.size w wx)
     case first=>
      by_cases ht:3<=ln ah a'
      ·
       have t4:(2:Int)<(ln ah a':Int):=by omega
       go_wp2_with fail
       refine(qF A B c d a' b' _ ha hb hb0 hn).mono ?_
       rintro e w3 ⟨Aq,cq,Ar,cr,rfl,hq1,FB,hq,hr,iz⟩
       have hmod:=bK a' hb0;have hlr:ln ah (a'%b')<=2:=ay ((bJ aE).2 (Nat.lt_trans hmod (bt aE b'))) (by omega);go_wp2_with fail
       go_meet
       exact⟨B,d,Ar,cr,b',a'%b',rfl,rfl,by omega,hlr,aO.below hb iz,hr,by rw[jP,<-Nat.gcd_rec,jP];exact hg,bh.trans (iz.mono bh.size)⟩
      ·
       have t4:¬((2:Int)<(ln ah a':Int)):=by omega
       go_wp2_with fail
       go_meet
       exact⟨A,c,B,d,a',b',rfl,rfl,by omega,by omega,ha,hb,hg,bh⟩
     case rest=>
      obtain⟨A,c,B,d,x,y,rfl,rfl,Ls,hy2,hnx,hny,hg,bh⟩:=hcut;have Mc:x<18446744073709551616:=bY ((bJ aE).1 Ls) (aq _);have aqj:y<18446744073709551616:=bY ((bJ aE).1 hy2) (aq _);go_wp2_with fail
      refine(Fl A c x _ hnx Ls).mono ?_
      rintro e w3 ⟨rfl,iz⟩
      go_wp2_with fail
      refine(Fl B d y _ (aO.below hny iz) hy2).mono ?_
      rintro e w4 ⟨rfl,jf⟩
      have aqk:=bh.trans ((iz.trans (jf.mono iz.size)).mono bh.size);go_wp2_with fail
      go_loopw [10,11] (fun p q wr=>∃X Y:Nat,p= .int .u64 (X:Int)/\q= .int .u64 (Y:Int)/\X<18446744073709551616/\Y<18446744073709551616/\Nat.gcd X Y=G/\Below w.heap.size w wr) (fun _ q _=>(intOf q).toNat)
      case atStart=>exact⟨x,y,rfl,rfl,Mc,aqj,hg,aqk⟩
      case round=>
       obtain⟨X,Y,rfl,rfl,hX,hY,hg,bh⟩:=hrel
       by_cases hY0:Y=0
       ·
        subst hY0;go_wp2_with fail
        refine(LI X _ hX).mono ?_
        rintro e w5 ⟨A5,c5,rfl,hc5,ug,fC⟩
        rw[Nat.gcd_zero_right] at hg;subst hg;go_wp2_with fail
        go_ret
        exact⟨A5,c5,rfl,hc5,ug,bh.trans (fC.mono bh.size)⟩
       ·
        have t5:((Y:Int) !=0)=true:=by simp;omega
        have t6:(Y:Int)≠0:=by omega
        have hmod:=bK X (show 0<Y by omega);go_wp2_with fail
        go_quiet (fail)
        go_wp2
        go_roundw
        case rel=>exact⟨Y,X%Y,rfl,rfl,hY,by omega,by rw[jP,<-Nat.gcd_rec,jP];exact hg,dG bh nq⟩
        case measure=>simp[intOf];omega
end Go.Proofs.YtclbiihcbfnjmaaGreat
namespace Go.Proofs.YtclbiihcbfnjmaaGreat
open Go.RowKit

theorem nB (g:Nat)(s t:Bool)(A B:Option Addr)(n m c d:Nat)(f h:Nat->Nat)(w:World)
  (hg:w.heap[g]?=some (.cells #[.bool s,.slice A n c,.bool t,.slice B m d] 27 (0,0)))
  (hA:Rd w.heap.size .u16 w A n f) (hB:Rd w.heap.size .u16 w B m h) (hf:∀i,f i<65536) (hh:∀i,h i<65536) (hn:n<=1000000) (hm:m<=1000000):
  Calls Tryz.prog 122 #[.slice (some ⟨g,0,none⟩) 2 2] w fun e w'=>e= .returned (.bool (okW s n f&&okW t m h))/\Below w.heap.size w w':=by
 refine(BB g 0 2 (fun i=>if i=0 then s else t) (fun i=>if i=0 then A else B) (fun i=>if i=0 then n else m) (fun i=>if i=0 then c else d) (fun i=>if i=0 then f else h) w ?_ (kJ hg) (by omega)).mono ?_
 ·
  intro i hi
  match i,hi with
  |0,_=>exact⟨(gZ w g 0 _ _ (0,0) hg).trans rfl,(gZ w g 1 _ _ (0,0) hg).trans rfl,hA,fun j _=>hf j,hn⟩
  |1,_=>exact⟨(gZ w g 2 _ _ (0,0) hg).trans rfl,(gZ w g 3 _ _ (0,0) hg).trans rfl,hB,fun j _=>hh j,hm⟩
 ·
  rintro e w' ⟨rfl,hb⟩
  exact⟨aT (by simp[vW]),hb⟩

structure Two (w:World)(s t:Bool)(A B:Option Addr)(n m c d:Nat)(w':World):Prop where
 p0:aF w' w.heap.size s (.slice A n c)
 p1:aF w' (w.heap.size+1) t (.slice B m d)
 r:aF w' (w.heap.size+1+1) false (.slice none 0 0)
 ax:Below w.heap.size w w'
theorem wO (s t:Bool)(A B:Option Addr)(n m c d:Nat)(f h:Nat->Nat)(w:World)
  (hA:Rd w.heap.size .u16 w A n f) (hB:Rd w.heap.size .u16 w B m h) (hf:∀i,f i<65536) (hh:∀i,h i<65536) (hn:n<=1000000) (hm:m<=1000000):
  Calls Tryz.prog 122 #[.slice (some ⟨w.heap.size+1+1+1,0,none⟩) 2 2]
   ((((w.alloc (.cells #[.bool s,.slice A n c] 27)).alloc (.cells #[.bool t,.slice B m d] 27)).alloc (.cells #[.bool false,.slice none 0 0] 27)).alloc (.cells #[.bool s,.slice A n c,.bool t,.slice B m d] 27))
   fun e w'=>e= .returned (.bool (okW s n f&&okW t m h))/\Two w s t A B n m c d w':=by
 have b1:Below w.heap.size w (w.alloc (.cells #[.bool s,.slice A n c] 27)):=(aU _ w).alloc (aq _) _;have b2:=b1.alloc (by simp) (.cells #[.bool t,.slice B m d] 27);have b3:=b2.alloc (by first|(simp;done)|(simp;omega)) (.cells #[.bool false,.slice none 0 0] 27);have b4:=b3.alloc (by first|(simp;done)|(simp;omega)) (.cells #[.bool s,.slice A n c,.bool t,.slice B m d] 27);have q0:=aF.new w s (.slice A n c);have q1:=aF.new (w.alloc (.cells #[.bool s,.slice A n c] 27)) t (.slice B m d);have q2:=aF.new ((w.alloc (.cells #[.bool s,.slice A n c] 27)).alloc (.cells #[.bool t,.slice B m d] 27)) false (.slice none 0 0);have q3:=eU (((w.alloc (.cells #[.bool s,.slice A n c] 27)).alloc (.cells #[.bool t,.slice B m d] 27)).alloc (.cells #[.bool false,.slice none 0 0] 27)) (.cells #[.bool s,.slice A n c,.bool t,.slice B m d] 27);simp only[World.size_alloc] at q1 q2 q3;refine(nB (w.heap.size+1+1+1) s t A B n m c d f h _ q3 ((hA.below b4).more b4.size) ((hB.below b4).more b4.size) hf hh hn hm).mono ?_
 rintro e w' ⟨rfl,hb⟩
 refine⟨rfl, ?_, ?_, ?_,b4.trans (hb.mono b4.size)⟩
 ·
  refine aF.below ?_ hb (by first|(simp;done)|(simp;omega));exact(ei _ _ _ (by first|(simp;done)|(simp;omega))).trans ((ei _ _ _ (by first|(simp;done)|(simp;omega))).trans ((ei _ _ _ (by simp)).trans q0))
 ·
  refine aF.below ?_ hb (by first|(simp;done)|(simp;omega));exact(ei _ _ _ (by first|(simp;done)|(simp;omega))).trans ((ei _ _ _ (by simp)).trans q1)
 ·
  refine aF.below ?_ hb (by simp);exact(ei _ _ _ (by simp)).trans q2

structure fF (w:World)(s t:Bool)(A B:Option Addr)(n m c d:Nat)(w':World):Prop where
 p0:aF w' w.heap.size s (.slice A n c)
 p1:aF w' (w.heap.size+1) t (.slice B m d)
 ax:Below w.heap.size w w'
theorem fF.below {w:World}{s t:Bool}{A B:Option Addr}{n m c d:Nat}{w' w'':World}(h:fF w s t A B n m c d w')(h2:Below w'.heap.size w' w''):fF w s t A B n m c d w'':=
 ⟨h.p0.below h2 h.p0.lt,h.p1.below h2 h.p1.lt,h.ax.trans (h2.mono h.ax.size)⟩
theorem fF.store {w:World}{s t:Bool}{A B:Option Addr}{n m c d:Nat}{w':World}(h:fF w s t A B n m c d w')(s':Bool)(v':Value):
  fF w s t A B n m c d ((w'.setCell ⟨w.heap.size+1+1,0,none⟩ (.bool s')).setCell ⟨w.heap.size+1+1,1,none⟩ v'):=
 have e0:w.heap.size≠w.heap.size+1+1:=by omega
 have e1:w.heap.size+1≠w.heap.size+1+1:=by omega
 have e2:w.heap.size<=w.heap.size+1+1:=by omega
 ⟨(dL _ _ _ _ e0).trans ((dL _ _ _ _ e0).trans h.p0),(dL _ _ _ _ e1).trans ((dL _ _ _ _ e1).trans h.p1),
  (h.ax.setCell (p:=⟨w.heap.size+1+1,0,none⟩) e2 _).setCell (p:=⟨w.heap.size+1+1,1,none⟩) e2 _⟩
theorem fF.s {w:World}{s t:Bool}{A B:Option Addr}{n m c d:Nat}{w':World}(h:fF w s t A B n m c d w'):
  w'.cell? ⟨w.heap.size,0,none⟩=some (.bool s)/\w'.cell? ⟨w.heap.size,1,none⟩=some (.slice A n c)/\w'.cell? ⟨w.heap.size+1,0,none⟩=some (.bool t)/\w'.cell? ⟨w.heap.size+1,1,none⟩=some (.slice B m d)/\fF w s t A B n m c d w':=⟨h.p0.cells.1,h.p0.cells.2,h.p1.cells.1,h.p1.cells.2,h⟩
theorem rM {a b:Int}(ha:ln ai a.natAbs<=1024)(hb:ln ai b.natAbs<=1024):(okW (decide (a<0)) (ln ai a.natAbs) (aB ai a.natAbs)&&okW (decide (b<0)) (ln ai b.natAbs) (aB ai b.natAbs))=true:=by
 rw[uR ha,uR hb];rfl
theorem eL {x:Nat}(h:ln ai x<=1024):ln ah x<=512:=by rw[lC];omega

theorem YC (a b:Int)(A B:Option Addr)(c d:Nat)(w:World)(hA:aJ w A a.natAbs)(hB:aJ w B b.natAbs)(ha:ln ai a.natAbs<=1024)(hb:ln ai b.natAbs<=1024):
  Calls Tryz.prog 153 #[.agg #[.bool (decide (a<0)),.slice A (ln ai a.natAbs) c],.agg #[.bool (decide (b<0)),.slice B (ln ai b.natAbs) d]] w (RI w (a+b)):=by
 have nP:=wO (decide (a<0)) (decide (b<0)) A B (ln ai a.natAbs) (ln ai b.natAbs) c d _ _ w hA hB (fun i=>bu _ i) (fun i=>bu _ i) (by omega) (by omega);rw[rM ha hb] at nP;have la:=eL ha;have lb:=eL hb
 have hsum:jt (decide (a<0)) a.natAbs+jt (decide (b<0)) b.natAbs=a+b:=by rw[rE,rE]
 have Tg:=af hsum;clear hsum
 obtain⟨s,hs⟩:∃s,s=decide (a<0):=⟨_,rfl⟩
 obtain⟨t,ht⟩:∃t,t=decide (b<0):=⟨_,rfl⟩
 rw[<-hs,<-ht] at nP Tg⊢;clear hs ht
 go_enter Tryz.func153,Tryz.ntmps153
 go_wp2_with fail
 refine nP.mono ?_
 rintro e w1 ⟨rfl,ht⟩
 have D1:=af fun(w':World) (hw':Below w.heap.size w w')=>gI A c a.natAbs w' (aJ.below hA hw') (by omega)
 have D2:=af fun(w':World) (hw':Below w.heap.size w w')=>gI B d b.natAbs w' (aJ.below hB hw') (by omega)
 have Cv:fF w s t A B (ln ai a.natAbs) (ln ai b.natAbs) c d w1.drew:=⟨ht.p0,ht.p1,ht.ax.drew⟩;have nW:aF w1.drew (w.heap.size+1+1) false (.slice none 0 0):=ht.r;have HT:=af ht;clear ht;go_wp2_with fail
 go_region_held3 (fun w'=>w'.cell? ⟨w.heap.size,0,none⟩=some (.bool s)/\w'.cell? ⟨w.heap.size,1,none⟩=some (.slice A (ln ai a.natAbs) c)/\w'.cell? ⟨w.heap.size+1,0,none⟩=some (.bool t)/\w'.cell? ⟨w.heap.size+1,1,none⟩=some (.slice B (ln ai b.natAbs) d)/\fF w s t A B (ln ai a.natAbs) (ln ai b.natAbs) c d w')
  (first|with_reducible exact hT4.s|with_reducible exact Cw.s|with_reducible exact FG.s|with_reducible exact Cx.s|with_reducible exact Cv.s)
  (first
   |(go_at_call_of 124 (Value.slice A (ln ai a.natAbs) c);refine(D1.out _ Cv.ax).mono ?_;rintro e w2 ⟨A1,c1,rfl,qM,vu,eD⟩;have Cx:=Cv.below eD)
   |(go_at_call_of 124 (Value.slice B (ln ai b.natAbs) d);refine(D2.out _ Cx.ax).mono ?_;rintro e w3 ⟨A2,c2,rfl,oW,hn2,eS⟩;have FG:=Cx.below eS)
   |(go_at_call 171;refine(Yt s t A1 A2 c1 c2 a.natAbs b.natAbs _ (aO.below vu eS) hn2 (by omega) (by omega)).mono ?_;rintro e w4 uN;obtain⟨s',A',n',c',k,rfl,hv,iz⟩:=uN.vals;have Cw:=FG.below iz;have xI:=nW.below eD nW.lt;have kV:=xI.below eS xI.lt;have Fm:=kV.below iz kV.lt;obtain⟨r0,r1⟩:=Fm.cells;have g0:=Fm.frozen 0;have g1:=Fm.frozen 1;have hT4:=Cw.store s' (.slice A' n' c')))
 obtain⟨hW,nX⟩:=bT Fm Cw.ax (show w.heap.size<=w.heap.size+1+1 by omega) s' (.slice A' n' c');have hsz:=FG.ax.size;have nO:=(hv.store kV.lt s' (.slice A' n' c')).lower hsz;rw[Tg.out] at nO;clear hv Cv Cx FG Cw hT4 nW xI kV Fm r0 r1 g0 g1 uN
 go_wp2
 generalize ((w4.setCell ⟨w.heap.size+1+1,0,none⟩ (.bool s')).setCell ⟨w.heap.size+1+1,1,none⟩ (.slice A' n' c'))=WW at*
 obtain⟨k0,k1⟩:=hW.cells;refine aK (v:= .tuple #[.agg #[.bool s',.slice A' n' c'],.int .i64 k]) (by simp[results,Tryz.results153,go_sem,k0,k1]) rfl ?_;exact nO.ri nX
end Go.Proofs.YtclbiihcbfnjmaaGreat
namespace Go.Proofs.YtclbiihcbfnjmaaGreat
open Go.RowKit

theorem lK (t:Bool)(A:Option Addr)(n c:Nat)(w:World):Calls Tryz.prog 162 #[.bool t,.slice A n c] w fun e w'=>e= .returned (.agg #[.bool (t&&decide (0<n)),.slice A n c])/\Below w.heap.size w w':=by
 have b1:Below w.heap.size w (w.alloc (.cells #[.bool false,.slice none 0 0] 27)):=(aU _ w).alloc (aq _) _
 go_enter Tryz.func162,Tryz.ntmps162
 cases t
 ·
  go_wp2_with fail
  exact aK (v:= .agg #[.bool false,.slice A n c]) (by simp[results,Tryz.results162,go_sem]) rfl ⟨by simp,(aU _ w).alloc (aq _) _⟩
 ·
  by_cases hn:0<n
  ·
   have t1:(0:Int)<(n:Int):=by omega
   go_wp2_with fail
   exact aK (v:= .agg #[.bool true,.slice A n c]) (by simp[results,Tryz.results162,go_sem]) rfl ⟨by simp[hn],(aU _ w).alloc (aq _) _⟩
  ·
   obtain rfl:n=0:=by omega
   go_wp2_with fail
   exact aK (v:= .agg #[.bool false,.slice A 0 c]) (by simp[results,Tryz.results162,go_sem]) rfl ⟨by simp,(aU _ w).alloc (aq _) _⟩

theorem oG {base n:Nat}{w:World}{v:Value}{xs:List Value}(h:w.ownsRow base 108 1 v n xs):∃A c,v= .slice A n c:=by
 rcases h.2 with⟨hv,hn⟩|⟨g,cap,cur,hv,_⟩
 ·exact⟨none,0,by rw[hv,hn]⟩
 ·exact⟨_,_,hv⟩
theorem zb {x k:Nat}:0<x/65536^k↔k<ln ai x:=by
 rw[Rv aA,Nat.div_pos_iff];exact⟨fun h=>h.2,fun h=>⟨bM (by decide),h⟩⟩
theorem wu (z:Int)(w:World)(h1:-9223372036854775808<=z)(h2:z<=9223372036854775807):Calls Tryz.prog 168 #[.int .i64 z] w (WI w z):=by
 obtain⟨x,hx⟩:∃x,x=z.natAbs:=⟨_,rfl⟩
 have Mc:x<18446744073709551616:=by omega
 have hl4:ln ai x<=4:=(bJ aA).2 Mc;obtain⟨i0,hi,Kx,xM,El⟩:=info_parts lG
 go_enter Tryz.func168,Tryz.ntmps168
 go_upto_if 8 with(fail)
 go_cut [3] (fun v wx=>v= .int .u64 (x:Int)/\wx=w.alloc (.cells #[.bool false,.slice none 0 0] 27))
 case first=>
  by_cases hneg:z<0
  ·
   go_wp2_with fail
   go_meet
   refine⟨?_,rfl⟩
   congr 1
   rw[jk,jk];omega
  ·
   go_wp2_with fail
   go_meet
   refine⟨?_,rfl⟩
   congr 1
   rw[jk];omega
 case rest=>
  obtain⟨rfl,rfl⟩:=hcut;have HX:=af hx;clear hx;have nW:=aF.new w false (.slice none 0 0);have hb0:Below w.heap.size w (w.alloc (.cells #[.bool false,.slice none 0 0] 27)):=(aU _ w).alloc (aq _) _;go_wp2_with fail
  go_loopw [3,4] (fun u v wr=>∃k X,u= .int .u64 ((X:Nat):Int)/\Hid (X=x/65536^k)/\X<18446744073709551616/\k<=ln ai x/\Hid (Cc v=k)/\wr.ownsRow (w.heap.size+1) 108 1 v k (gC .u16 k (aB ai x))/\aF wr w.heap.size false (.slice none 0 0)/\Below w.heap.size w wr) (fun _ v _=>ln ai x-Cc v)
  case atStart=>exact⟨0,x,rfl,af (by simp),Mc,bF _,af rfl,World.ownsRow_nil ..,nW,hb0⟩
  case round=>
   obtain⟨k,X,rfl,hX,aqg,hk,hlv,hown,hp,iZ⟩:=hrel;have hsz:=iZ.size;have hpl:=hp.lt
   by_cases hX0:0<X
   ·
    have t1:(0:Int)<(X:Int):=by omega
    have hd:X%65536=aB ai x k:=by rw[hX.out];rfl
    have hk9:k<ln ai x:=zb.1 (by rw[<-hX.out];exact hX0);have hdl:=bu x k
    have e3:(X:Int)%65536=((aB ai x k:Nat):Int):=by omega
    have HD:=af hd;clear hd;go_wp2_with (at_builtin;refine wpList_append_own _ rfl _ _ 25 rfl (w.heap.size+1) 108 i0 (.int .u16 0) 1 2 Tryz.underlying25 hi Kx xM El rfl (by decide) _ _ _ rfl (hown.alloc _) ⟨wr.heap.size,0,none⟩ 1 1 [.int .u16 ((aB ai x k:Nat):Int)] rfl rfl (cell_one_new _ _ _) (by simp[Value.oneCell']) (by unfold maxLen;omega) (by omega) (by simp;omega) ?_;intro v' w5 oH hgrow _;obtain⟨g',cap',rfl⟩:=ownsRow_succ oH)
    go_roundw
    case rel=>
     rw[sU] at oH;exact⟨k+1,X/65536,by congr 1,af (by rw[hX.out,eJ,cF]),by omega,hk9,af rfl,oH,(hp.aep _).grown hgrow (Yq hown (mL _)),(iZ.alloc hsz (.cells #[.int .u16 ((aB ai x k:Nat):Int)] 108)).grown hgrow (by simp;omega) (fun g hg=>by have:=(hown.lt g hg).1;omega)⟩
    case measure=>show ln ai x-(k+1)<ln ai x-Cc u4;rw[hlv.out];omega
   ·
    obtain rfl:X=0:=by omega
    have hkk:k=ln ai x:=by
     have:=mt zb.2 (by rw[<-hX.out];decide:¬0<x/65536^k);omega
    subst hkk;obtain⟨A,c,rfl⟩:=oG hown;have hm:=lK (decide (z<0)) A (ln ai x) c wr
    rw[show(decide (z<0)&&decide (0<ln ai x))=decide (z<0) by
     by_cases hz:z<0
     ·
      have:=(dM aA (x:=x)).2 (by have:=HX.out;omega)
      simp[hz,this]
     ·simp[hz]] at hm
    have HM:=af hm;clear hm
    obtain⟨s,hs⟩:∃s,s=decide (z<0):=⟨_,rfl⟩
    rw[<-hs] at HM;have HS:=af hs;go_wp2_with fail
    rw[<-HS.out];clear hs;refine HM.out.mono ?_
    rintro e w5 ⟨rfl,fC⟩
    have yL:=hp.below fC hpl;have aql:=iZ.trans (fC.mono hsz);have ho5:dW (w.heap.size+1) w5 A (ln ai x) c (aB ai x):=Mj hown fC (aq _);obtain⟨r0,r1⟩:=yL.cells;have g0:=yL.frozen 0;have g1:=yL.frozen 1;obtain⟨hW,nX⟩:=bT yL aql (aq _) s (.slice A (ln ai x) c);have ho6:=(dR (R:=w.heap.size) ho5 (mL _) s (.slice A (ln ai x) c)).lower (base':=w.heap.size) (by omega);have HW:=af hW;clear hW ho5 hown;go_wp2_with fail
    have hW:=HW.out;clear HW yL r0 r1
    generalize ((w5.setCell ⟨w.heap.size,0,none⟩ (.bool s)).setCell ⟨w.heap.size,1,none⟩ (.slice A (ln ai x) c))=WW at*
    obtain⟨k0,k1⟩:=hW.cells;refine aK (v:= .agg #[.bool s,.slice A (ln ai x) c]) (by simp[results,Tryz.results168,go_sem,k0,k1]) rfl ?_;rw[HX.out] at ho6⊢;rw[HS.out];exact⟨A,c,rfl,ho6,nX⟩

theorem fF.start (w:World)(s t:Bool)(A B:Option Addr)(n m c d:Nat):fF w s t A B n m c d ((w.alloc (.cells #[.bool s,.slice A n c] 27)).alloc (.cells #[.bool t,.slice B m d] 27)):=by
 have b1:Below w.heap.size w (w.alloc (.cells #[.bool s,.slice A n c] 27)):=(aU _ w).alloc (aq _) _;have q1:=aF.new (w.alloc (.cells #[.bool s,.slice A n c] 27)) t (.slice B m d);rw[fe] at q1;exact⟨(ei _ _ _ (by simp)).trans (aF.new w s (.slice A n c)),q1,b1.alloc b1.size _⟩
theorem fF.drewN {w:World}{s t:Bool}{A B:Option Addr}{n m c d:Nat}{w':World}(h:fF w s t A B n m c d w')(q:Nat):fF w s t A B n m c d (w'.drewN q):=⟨h.p0,h.p1,dG h.ax q⟩
theorem Fo (s t:Bool)(A B:Option Addr)(n m c d:Nat)(f h:Nat->Nat)(w:World)(hA:Rd w.heap.size .u16 w A n f)(hB:Rd w.heap.size .u16 w B m h)(hn:n<=1000000)(hm:m<=1000000):
  Calls Tryz.prog 79 #[.agg #[.bool s,.slice A n c],.agg #[.bool t,.slice B m d]] w fun e w'=>e= .returned (.bool (jO s t n m f h))/\Below w.heap.size w w':=by
 have hT:=fF.start w s t A B n m c d
 by_cases hst:s=t
 ·
  subst hst
  by_cases hl:n=m
  ·
   subst hl
   go_enter Tryz.func79,Tryz.ntmps79
   go_wp2_with fail
   go_loopw [5] (fun i wr=>∃k:Nat,k<=n/\i= .int .i64 (k:Int)/\Hid (Mh f h k=true)/\fF w s s A B n n c d wr) (fun i _=>n-(intOf i).toNat)
   case atStart=>exact⟨0,bF _,rfl,af rfl,hT⟩
   case round=>
    obtain⟨k,hk,rfl,hok,hT⟩:=hrel;obtain⟨p0,p1⟩:=hT.p0.cells;obtain⟨p2,p3⟩:=hT.p1.cells
    by_cases hlt:k<n
    ·
     obtain⟨pa,qa,rfl,hpa,hca⟩:=(hA.below hT.ax) (by omega);obtain⟨pb,qb,rfl,hpb,hcb⟩:=(hB.below hT.ax) (by omega);have c1:=hca k hlt;have c2:=hcb k hlt;clear hca hcb
     by_cases he:f k=h k
     ·
      have t1:(((f k:Nat):Int) !=((h k:Nat):Int))=false:=by rw[he];simp
      have HE:=af he;clear he;go_wp2_with fail
      go_quiet (fail)
      go_wp2
      go_roundw
      case rel=>exact⟨k+1,by omega,by go_num,af (Fa hok.out HE.out),hT.drewN _⟩
      case measure=>simp[intOf];omega
     ·
      have t1:(((f k:Nat):Int) !=((h k:Nat):Int))=true:=jK.2 (by omega)
      have eR:jO s s n n f h=false:=by unfold jO Mi;rw[yX hlt he,Bool.and_false,Bool.and_false]
      have HF:=af eR;clear eR he;go_wp2_with fail
      go_quiet (fail)
      go_wp2
      go_ret
      exact⟨aT HF.out.symm,(hT.drewN _).ax⟩
    ·
     obtain rfl:k=n:=by omega
     have eR:jO s s k k f h=true:=by unfold jO Mi;rw[hok.out];simp
     have HF:=af eR;clear eR;go_wp2_with fail
     go_ret
     exact⟨aT HF.out.symm,hT.ax⟩
  ·
   have t0:((n:Int) !=(m:Int))=true:=jK.2 (by omega)
   have eR:jO s s n m f h=false:=by unfold jO Mi;rw[beq_false_of_ne hl,jJ,Bool.and_false]
   have HF:=af eR;clear eR
   go_enter Tryz.func79,Tryz.ntmps79
   go_wp2_with fail
   go_ret
   exact⟨aT HF.out.symm,hT.ax⟩
 ·
  have t0:(s==t)=false:=by simp[hst]
  have eR:jO s t n m f h=false:=by unfold jO;rw[t0,jJ]
  have HF:=af eR;clear eR
  go_enter Tryz.func79,Tryz.ntmps79
  go_wp2_with fail
  go_ret
  exact⟨aT HF.out.symm,hT.ax⟩
theorem Kl {f h:Nat->Nat}{n:Nat}:Mh f h n=true↔∀i,i<n->f i=h i:=by
 induction n with
 |zero=>simp[Mh]
 |succ n ih=>
  simp only[Mh,Bool.and_eq_true,ih,beq_iff_eq]
  exact⟨fun⟨h1,h2⟩ i hi=>by
   rcases cX i n with h3|h3
   ·exact h1 i h3
   ·rw[show i=n by omega];exact h2,fun h=>⟨fun i hi=>h i (by omega),h n (by omega)⟩⟩
theorem zc (a b:Int):jO (decide (a<0)) (decide (b<0)) (ln ai a.natAbs) (ln ai b.natAbs) (aB ai a.natAbs) (aB ai b.natAbs)=decide (a=b):=by
 by_cases hab:a=b
 ·
  subst hab
  simp[jO,Mi,Kl.2 (fun i _=>rfl)]
 ·
  rw[aH hab];unfold jO Mi
  by_cases hs:decide (a<0)=decide (b<0)
  ·
   rw[hs,beq_self_eq_true,kH]
   by_cases hl:ln ai a.natAbs=ln ai b.natAbs
   ·
    rw[hl,beq_self_eq_true,kH]
    cases he:Mh (aB ai a.natAbs) (aB ai b.natAbs) (ln ai b.natAbs) with
    |false=>rfl
    |true=>
     have h1:=fo (B:=ai) (Kl.1 he);rw[<-hl,dB aA,hl,dB aA] at h1;exfalso
     by_cases h0:a<0<;>by_cases h00:b<0<;>simp[h0,h00] at hs<;>omega
   ·rw[beq_false_of_ne hl,jJ]
  ·rw[beq_false_of_ne hs,jJ]
end Go.Proofs.YtclbiihcbfnjmaaGreat
namespace Go.Proofs.YtclbiihcbfnjmaaGreat
open Go.RowKit

theorem ze {a b q r:Int}(h:a=q*b+r)(hr:(0<=r/\r<b)\/(b<r/\r<=0)):q=a.fdiv b/\r=a.fmod b:=by
 rcases hr with⟨h1,h2⟩|⟨h1,h2⟩
 ·
  have hb:0<b:=by omega
  rw[Int.fdiv_eq_ediv_of_nonneg _ (by omega),Int.fmod_eq_emod_of_nonneg _ (by omega)];have:=(Int.ediv_emod_unique hb (a:=a) (q:=q) (r:=r)).2 ⟨by rw[h,Int.mul_comm];omega,h1,h2⟩;exact⟨this.1.symm,this.2.symm⟩
 ·
  have hb:0< -b:=by omega
  have e1:a.fdiv b=(-a).fdiv (-b):=by rw[Int.neg_fdiv_neg]
  have hm:=Int.mul_fdiv_add_fmod a b;have hm':=Int.mul_fdiv_add_fmod (-a) (-b);rw[<-e1] at hm'
  have e2:a.fmod b=-(-a).fmod (-b):=by rw[Int.neg_mul] at hm';omega
  rw[e1,e2,Int.fdiv_eq_ediv_of_nonneg _ (by omega),Int.fmod_eq_emod_of_nonneg _ (by omega)];have:=(Int.ediv_emod_unique hb (a:=-a) (q:=q) (r:=-r)).2 ⟨by rw[h,Int.neg_mul,Int.mul_comm b q];omega,by omega,by omega⟩;exact⟨this.1.symm,by omega⟩
theorem pq (a:Int):(decide (a<0)=true/\a=-(a.natAbs:Int)/\0<a.natAbs)\/(decide (a<0)=false/\a=(a.natAbs:Int)):=by
 by_cases h:a<0
 ·left;simp[h];omega
 ·right;simp[h];omega
theorem Ib (a:Int){b:Int}(hb:b≠0)(h:¬(decide (a<0)≠decide (b<0)/\0<a.natAbs%b.natAbs)):
  jt (decide (a<0) !=decide (b<0)) (a.natAbs/b.natAbs)=a.fdiv b/\jt (decide (b<0)) (a.natAbs%b.natAbs)=a.fmod b:=by
 have hy:0<b.natAbs:=by omega
 have hd:=eK a.natAbs b.natAbs;have hm:=bK a.natAbs hy
 obtain⟨q,hq⟩:∃q,q=a.natAbs/b.natAbs:=⟨_,rfl⟩
 obtain⟨r,hr⟩:∃r,r=a.natAbs%b.natAbs:=⟨_,rfl⟩
 rw[<-hq,<-hr] at hd⊢;rw[<-hr] at hm h
 have hd':(b.natAbs:Int)*(q:Int)+(r:Int)=(a.natAbs:Int):=by rw[<-cM];omega
 have hrr:(jt (decide (b<0)) r=jt (decide (b<0)) r):=rfl
 rcases pq a with⟨sa,ea,pa⟩|⟨sa,ea⟩<;>rcases pq b with⟨sb,eb,pb⟩|⟨sb,eb⟩<;>rw[sa,sb] at h⊢<;>simp only[jt]<;>generalize a.natAbs=x at*<;>generalize b.natAbs=y at*<;>subst ea<;>subst eb<;>
  refine ze ?_ ?_<;>simp at h⊢<;>(try simp only[Int.mul_comm (q:Int) (y:Int),Int.mul_neg,Int.neg_mul,Int.neg_neg])<;>(try(subst h))<;>(try simp)<;>(try omega)
theorem Th (a:Int){b:Int}(hb:b≠0)(h:decide (a<0)≠decide (b<0))(h0:0<a.natAbs%b.natAbs):
  jt (decide (a<0) !=decide (b<0)) (a.natAbs/b.natAbs+1)=a.fdiv b/\jt (decide (b<0)) (b.natAbs-a.natAbs%b.natAbs)=a.fmod b:=by
 have hy:0<b.natAbs:=by omega
 have hd:=eK a.natAbs b.natAbs;have hm:=bK a.natAbs hy
 obtain⟨q,hq⟩:∃q,q=a.natAbs/b.natAbs:=⟨_,rfl⟩
 obtain⟨r,hr⟩:∃r,r=a.natAbs%b.natAbs:=⟨_,rfl⟩
 rw[<-hq,<-hr] at hd⊢;rw[<-hr] at hm h0
 have hd':(b.natAbs:Int)*(q:Int)+(r:Int)=(a.natAbs:Int):=by rw[<-cM];omega
 rcases pq a with⟨sa,ea,pa⟩|⟨sa,ea⟩<;>rcases pq b with⟨sb,eb,pb⟩|⟨sb,eb⟩<;>rw[sa,sb] at h⊢<;>simp only[jt]<;>generalize a.natAbs=x at*<;>generalize b.natAbs=y at*<;>subst ea<;>subst eb<;>
  refine ze ?_ ?_<;>simp at h⊢<;>(try rw[show((y-r:Nat):Int)=(y:Int)-r by omega])<;>(try simp only[Int.add_mul,Int.mul_comm (q:Int) (y:Int),Int.mul_neg,Int.neg_mul,Int.neg_neg,Int.neg_add,Int.one_mul])<;>(try omega)
end Go.Proofs.YtclbiihcbfnjmaaGreat
/-! The walk of whole.DivMod. -/
namespace Go.Proofs.YtclbiihcbfnjmaaGreat
open Go.RowKit

structure Ic (w:World)(s t:Bool)(A B:Option Addr)(n m c d:Nat)(w':World):Prop where
 p0:aF w' w.heap.size s (.slice A n c)
 p1:aF w' (w.heap.size+1) t (.slice B m d)
 r:aF w' (w.heap.size+1+1) false (.slice none 0 0)
 q:aF w' (w.heap.size+1+1+1) false (.slice none 0 0)
 ax:Below w.heap.size w w'
theorem aF.alloc {w:World}{g:Nat}{s:Bool}{v:Value}(h:aF w g s v)(o:Obj):aF (w.alloc o) g s v:=(ei _ _ _ h.lt).trans h
theorem aF.fresh {w:World}{g:Nat}(s:Bool)(v:Value)(h:w.heap.size=g):aF (w.alloc (.cells #[.bool s,v] 27)) g s v:=by subst h;exact aF.new w s v
theorem Mp (s t:Bool)(A B:Option Addr)(n m c d:Nat)(f h:Nat->Nat)(w:World)
  (hA:Rd w.heap.size .u16 w A n f) (hB:Rd w.heap.size .u16 w B m h) (hf:∀i,f i<65536) (hh:∀i,h i<65536) (hn:n<=1000000) (hm:m<=1000000):
  Calls Tryz.prog 122 #[.slice (some ⟨w.heap.size+1+1+1+1,0,none⟩) 2 2]
   (((((w.alloc (.cells #[.bool s,.slice A n c] 27)).alloc (.cells #[.bool t,.slice B m d] 27)).alloc (.cells #[.bool false,.slice none 0 0] 27)).alloc (.cells #[.bool false,.slice none 0 0] 27)).alloc (.cells #[.bool s,.slice A n c,.bool t,.slice B m d] 27))
   fun e w'=>e= .returned (.bool (okW s n f&&okW t m h))/\Ic w s t A B n m c d w':=by
 have z1:(w.alloc (.cells #[.bool s,.slice A n c] 27)).heap.size=w.heap.size+1:=fe ..
 obtain⟨w1,hw1⟩:∃w1,w1=w.alloc (.cells #[.bool s,.slice A n c] 27):=⟨_,rfl⟩
 have b1:Below w.heap.size w w1:=by rw[hw1];exact(aU _ w).alloc (aq _) _
 have q0:aF w1 w.heap.size s (.slice A n c):=by rw[hw1];exact aF.new w s _
 rw[<-hw1] at z1⊢
 obtain⟨w2,KU⟩:∃w2,w2=w1.alloc (.cells #[.bool t,.slice B m d] 27):=⟨_,rfl⟩
 have z2:w2.heap.size=w.heap.size+1+1:=by rw[KU,fe,z1]
 have b2:Below w.heap.size w w2:=by rw[KU];exact b1.alloc b1.size _
 have q1:aF w2 (w.heap.size+1) t (.slice B m d):=by rw[KU];exact aF.fresh t _ z1
 have q0:aF w2 w.heap.size s (.slice A n c):=by rw[KU];exact q0.alloc _
 rw[<-KU]
 obtain⟨w3,Qd⟩:∃w3,w3=w2.alloc (.cells #[.bool false,.slice none 0 0] 27):=⟨_,rfl⟩
 have z3:w3.heap.size=w.heap.size+1+1+1:=by rw[Qd,fe,z2]
 have b3:Below w.heap.size w w3:=by rw[Qd];exact b2.alloc b2.size _
 have q2:aF w3 (w.heap.size+1+1) false (.slice none 0 0):=by rw[Qd];exact aF.fresh _ _ z2
 have q1:aF w3 (w.heap.size+1) t (.slice B m d):=by rw[Qd];exact q1.alloc _
 have q0:aF w3 w.heap.size s (.slice A n c):=by rw[Qd];exact q0.alloc _
 rw[<-Qd]
 obtain⟨w4,ZN⟩:∃w4,w4=w3.alloc (.cells #[.bool false,.slice none 0 0] 27):=⟨_,rfl⟩
 have z4:w4.heap.size=w.heap.size+1+1+1+1:=by rw[ZN,fe,z3]
 have b4:Below w.heap.size w w4:=by rw[ZN];exact b3.alloc b3.size _
 have q3:aF w4 (w.heap.size+1+1+1) false (.slice none 0 0):=by rw[ZN];exact aF.fresh _ _ z3
 have q2:aF w4 (w.heap.size+1+1) false (.slice none 0 0):=by rw[ZN];exact q2.alloc _
 have q1:aF w4 (w.heap.size+1) t (.slice B m d):=by rw[ZN];exact q1.alloc _
 have q0:aF w4 w.heap.size s (.slice A n c):=by rw[ZN];exact q0.alloc _
 rw[<-ZN];have q4:=eU w4 (.cells #[.bool s,.slice A n c,.bool t,.slice B m d] 27);rw[z4] at q4;have b5:=b4.alloc b4.size (.cells #[.bool s,.slice A n c,.bool t,.slice B m d] 27);refine(nB (w.heap.size+1+1+1+1) s t A B n m c d f h _ q4 ((hA.below b5).more b5.size) ((hB.below b5).more b5.size) hf hh hn hm).mono ?_
 rintro e w' ⟨rfl,hb⟩
 exact⟨rfl,(q0.alloc _).below hb (q0.alloc _).lt,(q1.alloc _).below hb (q1.alloc _).lt,(q2.alloc _).below hb (q2.alloc _).lt,(q3.alloc _).below hb (q3.alloc _).lt,b5.trans (hb.mono b5.size)⟩

theorem aF.other {w:World}{g R:Nat}{s:Bool}{v:Value}(h:aF w g s v)(hR:g≠R)(s':Bool)(v':Value):aF ((w.setCell ⟨R,0,none⟩ (.bool s')).setCell ⟨R,1,none⟩ v') g s v:=
 (dL _ _ _ _ hR).trans ((dL _ _ _ _ hR).trans h)
end Go.Proofs.YtclbiihcbfnjmaaGreat
/-! The walk of whole.DivMod: valid arguments. -/
namespace Go.Proofs.YtclbiihcbfnjmaaGreat
open Go.RowKit

end Go.Proofs.YtclbiihcbfnjmaaGreat
namespace Go.Proofs.YtclbiihcbfnjmaaGreat
open Go.RowKit

theorem GU (a b:Nat)(m:Nat)(ha:ln ai a<=m)(hb:ln ai b<=m):ln ai (Nat.gcd a b)<=m:=by
 rcases dF a with rfl|h
 ·rw[Nat.gcd_zero_left];exact hb
 ·exact ay (cN aA (Nat.gcd_le_left b h)) ha
theorem WW.riv {w w':World}{x:Nat}{e:Ending}(h:WW w (false&&decide (0<x)) x e w')(hl:ln ai x<=1024):∃A c,e= .returned (.agg #[.bool false,.slice A (ln ai x) c])/\TU w.heap.size w' (x:Int) false A (ln ai x) c 0/\Below w.heap.size w w':=by
 obtain⟨A,c,he,ho,hb⟩:=h;refine⟨A,c,he,.inl ⟨hl, ?_,rfl,rfl,ho⟩,hb⟩
 simp
theorem YD (a b:Int)(A B:Option Addr)(c d:Nat)(w:World)(hA:aJ w A a.natAbs)(hB:aJ w B b.natAbs)(ha:ln ai a.natAbs<=1024)(hb:ln ai b.natAbs<=1024):
  Calls Tryz.prog 169 #[.agg #[.bool (decide (a<0)),.slice A (ln ai a.natAbs) c],.agg #[.bool (decide (b<0)),.slice B (ln ai b.natAbs) d]] w (RI w ((Nat.gcd a.natAbs b.natAbs:Nat):Int)):=by
 have nP:=wO (decide (a<0)) (decide (b<0)) A B (ln ai a.natAbs) (ln ai b.natAbs) c d _ _ w hA hB (fun i=>bu _ i) (fun i=>bu _ i) (by omega) (by omega);rw[rM ha hb] at nP;have la:=eL ha;have lb:=eL hb;have lg:=GU a.natAbs b.natAbs 1024 ha hb;have as1:=eL lg
 obtain⟨s,hs⟩:∃s,s=decide (a<0):=⟨_,rfl⟩
 obtain⟨t,ht⟩:∃t,t=decide (b<0):=⟨_,rfl⟩
 rw[<-hs,<-ht] at nP⊢;clear hs ht
 go_enter Tryz.func169,Tryz.ntmps169
 go_wp2_with fail
 refine nP.mono ?_
 rintro e w1 ⟨rfl,ht⟩
 have D1:=af fun(w':World) (hw':Below w.heap.size w w')=>gI A c a.natAbs w' (aJ.below hA hw') (by omega)
 have D2:=af fun(w':World) (hw':Below w.heap.size w w')=>gI B d b.natAbs w' (aJ.below hB hw') (by omega)
 have Cv:fF w s t A B (ln ai a.natAbs) (ln ai b.natAbs) c d w1.drew:=⟨ht.p0,ht.p1,ht.ax.drew⟩;have nW:aF w1.drew (w.heap.size+1+1) false (.slice none 0 0):=ht.r;have HT:=af ht;clear ht;go_wp2_with fail
 go_region_held3 (fun w'=>w'.cell? ⟨w.heap.size,0,none⟩=some (.bool s)/\w'.cell? ⟨w.heap.size,1,none⟩=some (.slice A (ln ai a.natAbs) c)/\w'.cell? ⟨w.heap.size+1,0,none⟩=some (.bool t)/\w'.cell? ⟨w.heap.size+1,1,none⟩=some (.slice B (ln ai b.natAbs) d)/\fF w s t A B (ln ai a.natAbs) (ln ai b.natAbs) c d w')
  (first|with_reducible exact hT4.s|with_reducible exact Cw.s|with_reducible exact YE.s|with_reducible exact FG.s|with_reducible exact Cx.s|with_reducible exact Cv.s)
  (first
   |(go_at_call_of 124 (Value.slice A (ln ai a.natAbs) c);refine(D1.out _ Cv.ax).mono ?_;rintro e w2 ⟨A1,c1,rfl,qM,vu,eD⟩;have Cx:=Cv.below eD)
   |(go_at_call_of 124 (Value.slice B (ln ai b.natAbs) d);refine(D2.out _ Cx.ax).mono ?_;rintro e w3 ⟨A2,c2,rfl,oW,hn2,eS⟩;have FG:=Cx.below eS)
   |(go_at_call 181;refine(rL A1 A2 c1 c2 a.natAbs b.natAbs _ (aO.below vu eS) hn2 (by omega) (by omega) qM oW).mono ?_;rintro e w5 ⟨A3,c3,rfl,hc3,hn3,fC⟩;have YE:=FG.below fC)
   |(go_at_call 173;refine(fQ false A3 c3 (Nat.gcd a.natAbs b.natAbs) _ hn3 hc3 (by omega)).mono ?_;rintro e w4 uN;obtain⟨A',c',rfl,hv,iz⟩:=WW.riv uN lg;have Cw:=YE.below iz;have xI:=nW.below eD nW.lt;have kV:=xI.below eS xI.lt;have yL:=kV.below fC kV.lt;have Fm:=yL.below iz yL.lt;obtain⟨r0,r1⟩:=Fm.cells;have g0:=Fm.frozen 0;have g1:=Fm.frozen 1;have hT4:=Cw.store false (.slice A' (ln ai (Nat.gcd a.natAbs b.natAbs)) c')))
 obtain⟨hW,nX⟩:=bT Fm Cw.ax (show w.heap.size<=w.heap.size+1+1 by omega) false (.slice A' (ln ai (Nat.gcd a.natAbs b.natAbs)) c');have hsz:=YE.ax.size;have nO:=(hv.store yL.lt false (.slice A' (ln ai (Nat.gcd a.natAbs b.natAbs)) c')).lower hsz;clear hv Cv Cx FG Cw hT4 YE nW xI kV Fm yL r0 r1 g0 g1 uN
 go_wp2
 generalize ((w4.setCell ⟨w.heap.size+1+1,0,none⟩ (.bool false)).setCell ⟨w.heap.size+1+1,1,none⟩ (.slice A' (ln ai (Nat.gcd a.natAbs b.natAbs)) c'))=WW at*
 obtain⟨k0,k1⟩:=hW.cells;refine aK (v:= .tuple #[.agg #[.bool false,.slice A' (ln ai (Nat.gcd a.natAbs b.natAbs)) c'],.int .i64 0]) (by simp[results,Tryz.results169,go_sem,k0,k1]) rfl ?_;exact nO.ri nX
end Go.Proofs.YtclbiihcbfnjmaaGreat
namespace Go.Proofs.YtclbiihcbfnjmaaGreat
open Go.RowKit

end Go.Proofs.YtclbiihcbfnjmaaGreat
/-! The walk of whole.Mul. -/
namespace Go.Proofs.YtclbiihcbfnjmaaGreat
open Go.RowKit

theorem Km (a b:Int):jt (decide (a<0) !=decide (b<0)) (a.natAbs*b.natAbs)=a*b:=by
 rw[<-Int.natAbs_mul]
 by_cases ha:a<0<;>by_cases hb:b<0
 ·
  have:=Int.mul_pos_of_neg_of_neg ha hb
  simp[ha,hb,jt];omega
 ·
  have:a*b<=0:=Int.mul_nonpos_of_nonpos_of_nonneg (by omega) (by omega)
  simp[ha,hb,jt];omega
 ·
  have:a*b<=0:=Int.mul_nonpos_of_nonneg_of_nonpos (by omega) (by omega)
  simp[ha,hb,jt];omega
 ·
  have:0<=a*b:=Int.mul_nonneg (by omega) (by omega)
  simp[ha,hb,jt];omega
theorem Ti {B x y m n:Nat}(hB:2<=B)(hx:ln B x<=m)(hy:ln B y<=n):ln B (x*y)<=m+n:=by
 refine(bJ hB).2 ?_;rw[dK];exact Nat.mul_lt_mul'' ((bJ hB).1 hx) ((bJ hB).1 hy)
theorem YF (a b:Int)(A B:Option Addr)(c d:Nat)(w:World)(hA:aJ w A a.natAbs)(hB:aJ w B b.natAbs)(ha:ln ai a.natAbs<=1024)(hb:ln ai b.natAbs<=1024):
  Calls Tryz.prog 125 #[.agg #[.bool (decide (a<0)),.slice A (ln ai a.natAbs) c],.agg #[.bool (decide (b<0)),.slice B (ln ai b.natAbs) d]] w (RI w (a*b)):=by
 have nP:=wO (decide (a<0)) (decide (b<0)) A B (ln ai a.natAbs) (ln ai b.natAbs) c d _ _ w hA hB (fun i=>bu _ i) (fun i=>bu _ i) (by omega) (by omega);rw[rM ha hb] at nP;have la:=eL ha;have lb:=eL hb;have hsum:jt (decide (a<0) !=decide (b<0)) (a.natAbs*b.natAbs)=a*b:=Km a b;have lm:=Ti aE la lb;have Tg:=af hsum;clear hsum
 obtain⟨s,hs⟩:∃s,s=decide (a<0):=⟨_,rfl⟩
 obtain⟨t,ht⟩:∃t,t=decide (b<0):=⟨_,rfl⟩
 rw[<-hs,<-ht] at nP Tg⊢;clear hs ht
 go_enter Tryz.func125,Tryz.ntmps125
 go_wp2_with fail
 refine nP.mono ?_
 rintro e w1 ⟨rfl,ht⟩
 have D1:=af fun(w':World) (hw':Below w.heap.size w w')=>gI A c a.natAbs w' (aJ.below hA hw') (by omega)
 have D2:=af fun(w':World) (hw':Below w.heap.size w w')=>gI B d b.natAbs w' (aJ.below hB hw') (by omega)
 have Cv:fF w s t A B (ln ai a.natAbs) (ln ai b.natAbs) c d w1.drew:=⟨ht.p0,ht.p1,ht.ax.drew⟩;have nW:aF w1.drew (w.heap.size+1+1) false (.slice none 0 0):=ht.r;have HT:=af ht;clear ht;go_wp2_with fail
 go_region_held3 (fun w'=>w'.cell? ⟨w.heap.size,0,none⟩=some (.bool s)/\w'.cell? ⟨w.heap.size,1,none⟩=some (.slice A (ln ai a.natAbs) c)/\w'.cell? ⟨w.heap.size+1,0,none⟩=some (.bool t)/\w'.cell? ⟨w.heap.size+1,1,none⟩=some (.slice B (ln ai b.natAbs) d)/\fF w s t A B (ln ai a.natAbs) (ln ai b.natAbs) c d w')
  (first|with_reducible exact hT4.s|with_reducible exact Cw.s|with_reducible exact YE.s|with_reducible exact FG.s|with_reducible exact Cx.s|with_reducible exact Cv.s)
  (first
   |(go_at_call_of 124 (Value.slice A (ln ai a.natAbs) c);refine(D1.out _ Cv.ax).mono ?_;rintro e w2 ⟨A1,c1,rfl,qM,vu,eD⟩;have Cx:=Cv.below eD)
   |(go_at_call_of 124 (Value.slice B (ln ai b.natAbs) d);refine(D2.out _ Cx.ax).mono ?_;rintro e w3 ⟨A2,c2,rfl,oW,hn2,eS⟩;have FG:=Cx.below eS)
   |(go_at_call 158;refine(Ml A1 A2 c1 c2 a.natAbs b.natAbs _ (aO.below vu eS) hn2 (by omega) (by omega)).mono ?_;rintro e w5 ⟨A3,c3,rfl,hc3,hn3,fC⟩;have YE:=FG.below fC)
   |(go_at_call 157;refine(nA (s !=t) A3 c3 (a.natAbs*b.natAbs) _ hn3 hc3 (by omega)).mono ?_;rintro e w4 uN;obtain⟨s',A',n',c',k,rfl,hv,iz⟩:=uN.vals;have Cw:=YE.below iz;have xI:=nW.below eD nW.lt;have kV:=xI.below eS xI.lt;have yL:=kV.below fC kV.lt;have Fm:=yL.below iz yL.lt;obtain⟨r0,r1⟩:=Fm.cells;have g0:=Fm.frozen 0;have g1:=Fm.frozen 1;have hT4:=Cw.store s' (.slice A' n' c')))
 obtain⟨hW,nX⟩:=bT Fm Cw.ax (show w.heap.size<=w.heap.size+1+1 by omega) s' (.slice A' n' c');have hsz:=YE.ax.size;have nO:=(hv.store yL.lt s' (.slice A' n' c')).lower hsz;rw[Tg.out] at nO;clear hv Cv Cx FG Cw hT4 YE nW xI kV Fm yL r0 r1 g0 g1 uN
 go_wp2
 generalize ((w4.setCell ⟨w.heap.size+1+1,0,none⟩ (.bool s')).setCell ⟨w.heap.size+1+1,1,none⟩ (.slice A' n' c'))=WW at*
 obtain⟨k0,k1⟩:=hW.cells;refine aK (v:= .tuple #[.agg #[.bool s',.slice A' n' c'],.int .i64 k]) (by simp[results,Tryz.results125,go_sem,k0,k1]) rfl ?_;exact nO.ri nX
end Go.Proofs.YtclbiihcbfnjmaaGreat
namespace Go.Proofs.YtclbiihcbfnjmaaGreat
open Go.RowKit

def xF (a b:Int):Int:=if a<b then-1 else if b<a then 1 else 0
theorem Mq (s t:Bool)(A B:Option Addr)(n m c d:Nat)(f h:Nat->Nat)(w:World)
  (hA:Rd w.heap.size .u16 w A n f) (hB:Rd w.heap.size .u16 w B m h) (hf:∀i,f i<65536) (hh:∀i,h i<65536) (hn:n<=1000000) (hm:m<=1000000):
  Calls Tryz.prog 122 #[.slice (some ⟨w.heap.size+1+1,0,none⟩) 2 2]
   (((w.alloc (.cells #[.bool s,.slice A n c] 27)).alloc (.cells #[.bool t,.slice B m d] 27)).alloc (.cells #[.bool s,.slice A n c,.bool t,.slice B m d] 27))
   fun e w'=>e= .returned (.bool (okW s n f&&okW t m h))/\fF w s t A B n m c d w':=by
 have b1:Below w.heap.size w (w.alloc (.cells #[.bool s,.slice A n c] 27)):=(aU _ w).alloc (aq _) _;have b2:=b1.alloc b1.size (.cells #[.bool t,.slice B m d] 27);have b4:=b2.alloc b2.size (.cells #[.bool s,.slice A n c,.bool t,.slice B m d] 27);have q0:=aF.new w s (.slice A n c);have q1:=aF.new (w.alloc (.cells #[.bool s,.slice A n c] 27)) t (.slice B m d);have q3:=eU ((w.alloc (.cells #[.bool s,.slice A n c] 27)).alloc (.cells #[.bool t,.slice B m d] 27)) (.cells #[.bool s,.slice A n c,.bool t,.slice B m d] 27);simp only[World.size_alloc] at q1 q3;refine(nB (w.heap.size+1+1) s t A B n m c d f h _ q3 ((hA.below b4).more b4.size) ((hB.below b4).more b4.size) hf hh hn hm).mono ?_
 rintro e w' ⟨rfl,hb⟩
 refine⟨rfl, ?_, ?_,b4.trans (hb.mono b4.size)⟩
 ·
  refine aF.below ?_ hb (by first|(simp;done)|(simp;omega));exact(ei _ _ _ (by first|(simp;done)|(simp;omega))).trans ((ei _ _ _ (by simp)).trans q0)
 ·
  refine aF.below ?_ hb (by first|(simp;done)|(simp;omega));exact(ei _ _ _ (by simp)).trans q1
theorem YG (a b:Int)(A B:Option Addr)(c d:Nat)(w:World)(hA:aJ w A a.natAbs)(hB:aJ w B b.natAbs)(ha:ln ai a.natAbs<=1024)(hb:ln ai b.natAbs<=1024):
  Calls Tryz.prog 81 #[.agg #[.bool (decide (a<0)),.slice A (ln ai a.natAbs) c],.agg #[.bool (decide (b<0)),.slice B (ln ai b.natAbs) d]] w fun e w'=>e= .returned (.int .i64 (xF a b))/\Below w.heap.size w w':=by
 have nP:=Mq (decide (a<0)) (decide (b<0)) A B (ln ai a.natAbs) (ln ai b.natAbs) c d _ _ w hA hB (fun i=>bu _ i) (fun i=>bu _ i) (by omega) (by omega);rw[rM ha hb] at nP;have la:=eL ha;have lb:=eL hb
 obtain⟨s,hs⟩:∃s,s=decide (a<0):=⟨_,rfl⟩
 obtain⟨t,ht⟩:∃t,t=decide (b<0):=⟨_,rfl⟩
 rw[<-hs,<-ht] at nP⊢;have HS:=af hs;have HT':=af ht;clear hs ht
 go_enter Tryz.func81,Tryz.ntmps81
 go_wp2_with fail
 refine nP.mono ?_
 rintro e w1 ⟨rfl,ht⟩
 obtain⟨p0,p1⟩:=ht.p0.cells;obtain⟨p2,p3⟩:=ht.p1.cells
 by_cases hst:s=t
 ·
  subst hst
  have t0:(s !=s)=false:=by simp
  have D1:=af fun(w':World) (hw':Below w.heap.size w w')=>gI A c a.natAbs w' (aJ.below hA hw') (by omega)
  have D2:=af fun(w':World) (hw':Below w.heap.size w w')=>gI B d b.natAbs w' (aJ.below hB hw') (by omega)
  have Cv:fF w s s A B (ln ai a.natAbs) (ln ai b.natAbs) c d w1.drew:=⟨ht.p0,ht.p1,ht.ax.drew⟩
  have hcz:xF a b=if s then-kQ a.natAbs b.natAbs else kQ a.natAbs b.natAbs:=by
   have h1:=HS.out;have h2:=HT'.out;unfold xF kQ
   cases s
   ·
    have h1:0<=a:=by simpa using h1.symm
    have h2:0<=b:=by simpa using h2.symm
    simp only[Bool.false_eq_true,if_false]
    split<;>split<;>(try split)<;>(try split)<;>omega
   ·
    have h1:a<0:=by simpa using h1.symm
    have h2:b<0:=by simpa using h2.symm
    simp only[if_true]
    split<;>split<;>(try split)<;>(try split)<;>omega
  have HCZ:=af hcz;clear hcz;go_wp2_with fail
  clear p0 p1 p2 p3
  go_region_held3 (fun w'=>w'.cell? ⟨w.heap.size,0,none⟩=some (.bool s)/\w'.cell? ⟨w.heap.size,1,none⟩=some (.slice A (ln ai a.natAbs) c)/\w'.cell? ⟨w.heap.size+1,0,none⟩=some (.bool s)/\w'.cell? ⟨w.heap.size+1,1,none⟩=some (.slice B (ln ai b.natAbs) d)/\fF w s s A B (ln ai a.natAbs) (ln ai b.natAbs) c d w')
   (first|with_reducible exact Cw.s|with_reducible exact FG.s|with_reducible exact Cx.s|with_reducible exact Cv.s)
   (first
    |(go_at_call_of 124 (Value.slice A (ln ai a.natAbs) c);refine(D1.out _ Cv.ax).mono ?_;rintro e w2 ⟨A1,c1,rfl,qM,vu,eD⟩;have Cx:=Cv.below eD)
    |(go_at_call_of 124 (Value.slice B (ln ai b.natAbs) d);refine(D2.out _ Cx.ax).mono ?_;rintro e w3 ⟨A2,c2,rfl,oW,hn2,eS⟩;have FG:=Cx.below eS)
    |(go_at_call 123;refine(iu A1 A2 c1 c2 a.natAbs b.natAbs _ (aO.below vu eS) hn2 (by omega)).mono ?_;rintro e w4 ⟨rfl,q,rfl⟩;have Cw:=FG.below (dG (aU _ _) q)))
  obtain⟨k0,-⟩:=Cw.p0.cells;have hbf:=Cw.ax
  cases s
  ·
   go_wp2
   go_ret
   exact⟨gM (by rw[HCZ.out];rfl),hbf⟩
  ·
   go_wp2
   go_ret
   exact⟨gM (by rw[HCZ.out];simp only[if_true];unfold kQ;split<;>(try split)<;>simp[wrap64]),hbf⟩
 ·
  have hval:xF a b=if s then-1 else 1:=by
   have h1:=HS.out;have h2:=HT'.out;unfold xF
   cases s<;>cases t<;>simp_all<;>omega
  have HV:=af hval;clear hval
  cases s<;>cases t
  ·exact absurd rfl hst
  ·
   go_wp2_with fail
   go_ret
   exact⟨gM (by rw[HV.out];rfl),ht.ax⟩
  ·
   go_wp2_with fail
   go_ret
   exact⟨gM (by rw[HV.out];rfl),ht.ax⟩
  ·exact absurd rfl hst
end Go.Proofs.YtclbiihcbfnjmaaGreat
