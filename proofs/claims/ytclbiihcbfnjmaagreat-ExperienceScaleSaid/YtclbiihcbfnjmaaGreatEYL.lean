/-
  Parts.
-/
import Derived.Test.YtclbiihcbfnjmaaGreatEY
namespace Go.Proofs.YtclbiihcbfnjmaaGreat
open Go.RowKit

noncomputable def Bh.cnt (b:Bh) (x:Ct):Nat:=Classical.epsilon fun N=>N<=80/\kH b.v (b.rt x.E x.Y) N
theorem Bh.EB {b:Bh}{x:Ct}{N:Nat}(h:kH b.v (b.rt x.E x.Y) N)(kM:N<=80):b.cnt x=N:=by
 have h1:∃N,N<=80/\kH b.v (b.rt x.E x.Y) N:=⟨N,kM,h⟩
 exact kH.uniq (Classical.epsilon_spec h1).2 h
noncomputable def wq (b d:Bh) (j:Rat) (g:Gr):Nat->Rat:=p4 (b.val g.x (b.cnt g.x) g.t.toNat) (b.val g.x (b.cnt g.x) (g.t.toNat+1)) (d.val g.x (d.cnt g.x) (g.t.toNat+1)) (mU g.x.T.toNat g.x.p.q g.t.toNat) (jR g.x.l g.x.n g.t.toNat) (jR g.x.k g.x.m g.t.toNat) b.i.q j (b.rt g.x.E g.x.Y g.t.toNat) ((g.a:Int):Rat) ((g.d:Int):Rat)
noncomputable def Yh.it (y:Yh) (g:Nat):Nat->Rat:=wq y.b y.d y.j.q (y.r g)
theorem TA {f:Nat->Rat}{N:Nat}(h:pr f N=0):∀k,N<=k->pr f k=0:=fun k hk=>by
 obtain⟨m,rfl⟩:∃m,k=N+m:=⟨k-N,by omega⟩
 induction m with
 |zero=>exact h
 |succ m ih=>rw[<-Nat.add_assoc];simp only[pr];rw[ih (by omega)];grind
structure Er (b d:Bh)(g:Gr):Prop where
 ok:oz b d g
 n0:b.n<=10
 n1:d.n<=10
section
variable {b d:Bh} {j:FH} {g:Gr} {w:World}
theorem Er.c0 (h:Er b d g):b.cnt g.x<=11/\kH b.v (b.rt g.x.E g.x.Y) (b.cnt g.x):=by
 obtain⟨N,hN,hc⟩:=tW b.v h.ok.1.1.2.1;have hn:=h.n0;rw[Bh.EB hc (by omega)];exact⟨by omega,hc⟩
theorem Er.c1 (h:Er b d g):d.cnt g.x<=11/\kH d.v (d.rt g.x.E g.x.Y) (d.cnt g.x):=by
 obtain⟨N,hN,hc⟩:=tW d.v h.ok.1.2.2.1;have hn:=h.n1;rw[Bh.EB hc (by omega)];exact⟨by omega,hc⟩
theorem Er.t0 (h:Er b d g)(hb:b.rd w):g.t.toNat<b.cnt g.x:=by
 have h1:=(kH.pr (Bh.KD hb h.ok.1.1.1).1).1 h.c0.2
 exact Nat.lt_of_not_le fun h2=>h.ok.2.1.2 (TA h1.1 _ h2)
end
theorem vL {b:Bh}{x:Ct}{N t:Nat}(ho:x.ok b)(hN:kH b.v (b.rt x.E x.Y) N)(hn:N<=11)(h15:b.n<=10)(ht:t<N):b.right x.E (x.Y+(t:Int)):=by
 obtain⟨h1,h2,h3,h4,h5⟩:=ho.2.1;refine⟨h1,h2,h3,by omega, ?_⟩
 by_cases hy:x.E+x.Y<=b.F+(b.n:Int)-1
 ·omega
 ·
  have hf:b.rt x.E x.Y 0=1:=by
   show rt b.F b.S b.n b.r x.E x.Y ((0:Nat):Int)=1;unfold rt;rw[if_pos (by omega)]
  have hd:dd b.v (b.rt x.E x.Y) 1=0:=by
   rw[mZ,hf]
   grind
  have:¬1<N:=fun h=>hN.2 1 h hd
  omega
theorem qB {b:Bh}{x:Ct}{w:World}(hb:b.rd w)(hx:x.rd w)(ho:x.ok b){N:Nat}(hN:kH b.v (b.rt x.E x.Y) N)(h11:N<=11)(t:Nat):Sz (x.p.q.den*(b.v.den^11*sp (b.rt x.E x.Y) N 0)) (aj^5) (b.val x N t):=by
 obtain⟨h1,h2,-⟩:=Ct.pm hx ho;refine(WL (Bh.KD hb ho.1) (fU hb.1 ho.2.1 N) h1 h2 hN (Bh.v_i hb ho.1) h11 t).more (Nat.dvd_refl _) ?_;refine Nat.le_trans (Nat.mul_le_mul_right _ h11) ?_
 decide
theorem mH {z:Int}(h0:0<=z)(h1:z<=1099511627776):Sz 1 (aj^3) ((z:Int):Rat):=Sz.int z (by
 have:aj^3=281474976710656:=by decide
 omega)
theorem yN {l:Nat->Int}{n:Nat}(h:Cm n l)(k:Nat):Sz 1 (aj^3) (jR l n k):=by
 unfold jR
 split
 ·rename_i hk;exact mH (h.2 k hk).1 (h.2 k hk).2
 ·exact mH (by decide) (by decide)
theorem pH {q:Rat}(h1:q.num.natAbs<=aj):Sz q.den aj q:=by
 have h3:0<q.den:=q.den_pos;have h5:aj*1<=aj*q.den:=Nat.mul_le_mul_left _ h3;have h6:((aj*q.den:Nat):Int)=(aj:Int)*(q.den:Int):=Int.natCast_mul _ _;refine⟨Dv.self q, ?_, ?_⟩
 ·
  rw[Rat.le_iff,show(-(aj:Rat))=((-(aj:Int):Int):Rat) by rw[Rat.intCast_neg,Rat.intCast_natCast],Rat.num_intCast,Rat.den_intCast];simp only[Int.neg_mul,Int.natCast_one,Int.mul_one];omega
 ·
  rw[Rat.le_iff,Rat.num_natCast,Rat.den_natCast];omega
theorem G0 {b:Bh}{E Y:Int}{w:World}(hb:b.rd w)(hR:b.right E Y)(k:Nat):Sz (b.rt E Y k).den 1 (b.rt E Y k):=by
 have hq:=fU hb.1 hR (k+1) k (Nat.lt_succ_self _);have h0:(0:Rat)<=b.rt E Y k:=hq.1;have h1:b.rt E Y k<=1:=hq.2.1;exact⟨Dv.self _,by grind,by grind⟩
def yC (b d:Bh)(j:Rat):Nat:=b.v.den^11*d.v.den^11*(b.i.q.den*j.den)
noncomputable def yP (b d:Bh) (g:Gr):Nat:=g.x.p.q.den*sp (b.rt g.x.E g.x.Y) (b.cnt g.x) 0*sp (d.rt g.x.E g.x.Y) (d.cnt g.x) 0*(b.rt g.x.E g.x.Y g.t.toNat).den
section
variable {b d:Bh} {j:FH} {g:Gr} {w:World}
theorem SX.fv (h:SX j)(hr:j.rd w):FV w j.q j.s j.A j.n j.t j.B j.m/\0<=j.q/\j.q.num.natAbs<=aj/\j.q.den<=aj:=by
 obtain⟨h1,h2,h3,h4⟩:=h;obtain⟨hv,-,-,-⟩:=CF hr h1;have e:j.q=wC j.s j.n j.f j.m j.g:=rfl;rw[<-e] at hv;refine⟨hv, ?_, ?_, ?_⟩
 ·
  have:=hv.1.EA;rw[h2] at this;have:=of_decide_eq_false this.symm;exact Rat.num_nonneg.1 (by omega)
 ·
  have:=hv.1.len;have h5:=(bf (B:=aj) (k:=1) (x:=j.q.num.natAbs) aD).1 (by omega);rw[Nat.pow_one] at h5;exact Nat.le_of_lt h5
 ·
  have:=hv.2.len;rw[Int.natAbs_natCast] at this;have h5:=(bf (B:=aj) (k:=1) (x:=j.q.den) aD).1 (by omega);rw[Nat.pow_one] at h5;exact Nat.le_of_lt h5
theorem xj.pow {v:Rat}(h:xj v):0<v.den^11/\v.den^11<=aj^22:=⟨Nat.pow_pos v.den_pos,by
 rw[show aj^22=(aj^2)^11 from(Nat.pow_mul aj 2 11).symm▸rfl]
 exact Nat.pow_le_pow_left h.2.2 11⟩
theorem WM (hb:b.rd w)(hd:d.rd w)(ob:b.ok)(od:d.ok)(hj:SX j)(hr:j.rd w):0<yC b d j.q/\yC b d j.q<=aj^46:=by
 have h1:=(Bh.KD hb ob).pow;have h2:=(Bh.KD hd od).pow;have h3:=(Bh.fv hb ob).2;have h4:=hj.fv hr;refine⟨Nat.mul_pos (Nat.mul_pos h1.1 h2.1) (Nat.mul_pos b.i.q.den_pos j.q.den_pos), ?_⟩
 have e:aj^46=aj^22*aj^22*(aj*aj):=by rw[<-Nat.pow_add,<-Nat.pow_two,<-Nat.pow_add]
 unfold yC;rw[e];exact Nat.mul_le_mul (Nat.mul_le_mul h1.2 h2.2) (Nat.mul_le_mul (Nat.le_of_lt h3.2.2) h4.2.2.2)
theorem WN (h:Er b d g)(hb:b.rd w)(hd:d.rd w)(hx:g.x.rd w):0<yP b d g/\yP b d g<=aj^27:=by
 have h1:=(Ct.Es hx h.ok.1.1).2.2.2;have q0:=fU hb.1 h.ok.1.1.2.1;have q1:=fU hd.1 h.ok.1.2.2.1;have h2:=Oe (q0 (b.cnt g.x)) 0 (Nat.zero_le _);have h3:=Oe (q1 (d.cnt g.x)) 0 (Nat.zero_le _);have h4:=(q0 (g.t.toNat+1) g.t.toNat (Nat.lt_succ_self _)).2.2;have h5:aj^(b.cnt g.x-0)<=aj^11:=Nat.pow_le_pow_right (by decide) (by have:=h.c0.1;omega);have h6:aj^(d.cnt g.x-0)<=aj^11:=Nat.pow_le_pow_right (by decide) (by have:=h.c1.1;omega);refine⟨Nat.mul_pos (Nat.mul_pos (Nat.mul_pos (Rat.den_pos _) (EO _ _ _)) (EO _ _ _)) (Rat.den_pos _), ?_⟩
 have e:aj^27=aj^4*aj^11*aj^11*aj:=by rw[<-Nat.pow_add,<-Nat.pow_add,<-Nat.pow_succ]
 unfold yP;rw[e];exact Nat.mul_le_mul (Nat.mul_le_mul (Nat.mul_le_mul h1 (Nat.le_trans h2 h5)) (Nat.le_trans h3 h6)) (Nat.le_of_lt h4)
theorem aaB (h:Er b d g)(hb:b.rd w)(hd:d.rd w)(hx:g.x.rd w)(hj:SX j)(hr:j.rd w)(k:Nat):Sz (yC b d j.q*yP b d g) (aj^10) (wq b d j.q g k):=
 have hz:=Og (qB hb hx h.ok.1.1 h.c0.2 h.c0.1 g.t.toNat) (qB hb hx h.ok.1.1 h.c0.2 h.c0.1 (g.t.toNat+1)) (qB hd hx h.ok.1.2 h.c1.2 h.c1.1 (g.t.toNat+1))
  (p:=mU g.x.T.toNat g.x.p.q g.t.toNat) ⟨((Ct.pm hx h.ok.1.1).2.2 g.t.toNat).2.2,((Ct.pm hx h.ok.1.1).2.2 g.t.toNat).1,((Ct.pm hx h.ok.1.1).2.2 g.t.toNat).2.1⟩ (yN h.ok.1.1.2.2.2.2.1 g.t.toNat) (yN h.ok.1.1.2.2.2.2.2 g.t.toNat)
  (pH (Nat.le_of_lt (Bh.fv hb h.ok.1.1.1).2.2.1)) (pH (hj.fv hr).2.2.1) (q:=b.rt g.x.E g.x.Y g.t.toNat) (Dq:=(b.rt g.x.E g.x.Y g.t.toNat).den)
  (G0 hb h.ok.1.1.2.1 g.t.toNat)
  (mH h.ok.2.2.1.1 h.ok.2.2.1.2.1) (mH (z:=g.d) h.ok.2.2.1.2.2.1 (by have:=h.ok.2.2.1;omega))
  (by rw[<-Rat.intCast_sub];exact mH (by have:=h.ok.2.2.1;omega) (by have:=h.ok.2.2.1;omega))
 hz.2.2.2.2.2.2.2.2.2.2.2.2.2.2.2.2.2.2.2.2.2 k
theorem Nj (h:Er b d g)(hb:b.rd w)(hd:d.rd w)(hx:g.x.rd w)(hj:SX j)(hr:j.rd w):
  ItL (b.val g.x (b.cnt g.x) g.t.toNat) (b.val g.x (b.cnt g.x) (g.t.toNat+1)) (d.val g.x (d.cnt g.x) (g.t.toNat+1)) (mU g.x.T.toNat g.x.p.q g.t.toNat) (jR g.x.l g.x.n g.t.toNat) (jR g.x.k g.x.m g.t.toNat) b.i.q j.q (b.rt g.x.E g.x.Y g.t.toNat) ((g.a:Int):Rat) ((g.d:Int):Rat):=by
 have hC:=WM hb hd h.ok.1.1.1 h.ok.1.2.1 hj hr;have hP:=WN h hb hd hx;have hD:0<yC b d j.q*yP b d g/\yC b d j.q*yP b d g<=aj^208:=⟨Nat.mul_pos hC.1 hP.1,Nat.le_trans (Nat.mul_le_mul hC.2 hP.2) (by rw[<-Nat.pow_add];exact Nat.pow_le_pow_right (by decide) (by decide))⟩;obtain⟨a1,a2,a3,a4,a5,a6,a7,a8,a9,b1,b2,b3,b4,b5,b6,b7,b8,b9,c1,c2,c3,it⟩:=Og (qB hb hx h.ok.1.1 h.c0.2 h.c0.1 g.t.toNat) (qB hb hx h.ok.1.1 h.c0.2 h.c0.1 (g.t.toNat+1)) (qB hd hx h.ok.1.2 h.c1.2 h.c1.1 (g.t.toNat+1)) (p:=mU g.x.T.toNat g.x.p.q g.t.toNat) ⟨((Ct.pm hx h.ok.1.1).2.2 g.t.toNat).2.2,((Ct.pm hx h.ok.1.1).2.2 g.t.toNat).1,((Ct.pm hx h.ok.1.1).2.2 g.t.toNat).2.1⟩ (yN h.ok.1.1.2.2.2.2.1 g.t.toNat) (yN h.ok.1.1.2.2.2.2.2 g.t.toNat) (pH (Nat.le_of_lt (Bh.fv hb h.ok.1.1.1).2.2.1)) (pH (hj.fv hr).2.2.1) (q:=b.rt g.x.E g.x.Y g.t.toNat) (Dq:=(b.rt g.x.E g.x.Y g.t.toNat).den) (G0 hb h.ok.1.1.2.1 g.t.toNat) (mH h.ok.2.2.1.1 h.ok.2.2.1.2.1) (mH (z:=g.d) h.ok.2.2.1.2.2.1 (by have:=h.ok.2.2.1;omega)) (by rw[<-Rat.intCast_sub];exact mH (by have:=h.ok.2.2.1;omega) (by have:=h.ok.2.2.1;omega))
 have go:∀{M:Nat} {q:Rat},Sz (yC b d j.q*yP b d g) M q->0<M->M<=aj^11->fl q<=256:=fun hs h0 hM=>hs.rp hD.1 hD.2 h0 hM
 exact⟨go a1 (by decide) (by decide),go a2 (by decide) (by decide),go a3 (by decide) (by decide),go a4 (by decide) (by decide),go a5 (by decide) (by decide),go a6 (by decide) (by decide),go a7 (by decide) (by decide),go a8 (by decide) (by decide),go a9 (by decide) (by decide),go b1 (by decide) (by decide),go b2 (by decide) (by decide),go b3 (by decide) (by decide),go b4 (by decide) (by decide),go b5 (by decide) (by decide),go b6 (by decide) (by decide),go b7 (by decide) (by decide),go b8 (by decide) (by decide),go b9 (by decide) (by decide),go c1 (by decide) (by decide),go c2 (by decide) (by decide),go c3 (by decide) (by decide),fun k=>go (it k) (by decide) (by decide)⟩
theorem TB (h:Er b d g)(hb:b.rd w):(b.val g.x (b.cnt g.x) g.t.toNat+mU g.x.T.toNat g.x.p.q g.t.toNat-jR g.x.l g.x.n g.t.toNat)*(1+b.i.q)=b.rt g.x.E g.x.Y g.t.toNat*jR g.x.k g.x.m g.t.toNat+(1-b.rt g.x.E g.x.Y g.t.toNat)*b.val g.x (b.cnt g.x) (g.t.toNat+1):=by
 have h1:=G8 (L:=g.x.L) (K:=g.x.K) h.c0.2 (Bh.v_i hb h.ok.1.1.1) (h.t0 hb);unfold Ct.L Ct.K at h1;unfold Bh.val Ct.L Ct.K;rw[<-h1]
 congr 1
 grind
end
structure YS (y:Yh):Prop where
 ok:Gk y
 n6:y.n<=6
 n0:y.b.n<=10
 n1:y.d.n<=10
section
variable {y:Yh} {w:World}
theorem YS.gr (h:YS y){k:Nat}(hk:k<y.n):Er y.b y.d (y.r k):=⟨h.ok.2.2.2.2 k hk,h.n0,h.n1⟩
theorem YS.rep (h:YS y)(hr:y.rd w):∀g,g<=y.n->yL (rep y.it g):=
 have hC:=WM hr.1 hr.2.1 h.ok.2.1 h.ok.2.2.1 h.ok.2.2.2.1 hr.2.2.1
 TC h.n6 hC.1 hC.2 (P:=fun k=>yP y.b y.d (y.r k)) (fun _ hk=>WN (h.gr hk) hr.1 hr.2.1 (hr.2.2.2.rd hk)) (fun _ hk i=>aaB (h.gr hk) hr.1 hr.2.1 (hr.2.2.2.rd hk) h.ok.2.2.2.1 hr.2.2.1 i)
theorem YS.sum (h:YS y)(hr:y.rd w):fI (Go.Proofs.YtclbiihcbfnjmaaGreat.rep y.it y.n)=Go.Proofs.YtclbiihcbfnjmaaGreat.rep y.it y.n 7+Go.Proofs.YtclbiihcbfnjmaaGreat.rep y.it y.n 8+Go.Proofs.YtclbiihcbfnjmaaGreat.rep y.it y.n 9:=
 G9 fun _ hk=>TD (TB (h.gr hk) hr.1)
end
end Go.Proofs.YtclbiihcbfnjmaaGreat
