/-
  Parts.
-/
import Derived.Test.YtclbiihcbfnjmaaGreatEY
namespace Go.Proofs.YtclbiihcbfnjmaaGreat
open Go.RowKit

noncomputable def Bh.cnt (b:Bh) (x:Ct):Nat:=Classical.epsilon fun N=>N<=80/\lT b.v (b.rt x.E x.Y) N
theorem Bh.Gm {b:Bh}{x:Ct}{N:Nat}(h:lT b.v (b.rt x.E x.Y) N)(lZ:N<=80):b.cnt x=N:=by
 have h1:∃N,N<=80/\lT b.v (b.rt x.E x.Y) N:=⟨N,lZ,h⟩
 exact lT.uniq (Classical.epsilon_spec h1).2 h
noncomputable def Wh (b d:Bh) (j:Rat) (g:Gr):Nat->Rat:=Zx (b.val g.x (b.cnt g.x) g.t.toNat) (b.val g.x (b.cnt g.x) (g.t.toNat+1)) (d.val g.x (d.cnt g.x) (g.t.toNat+1)) (pH g.x.T.toNat g.x.p.q g.t.toNat) (lY g.x.l g.x.n g.t.toNat) (lY g.x.k g.x.m g.t.toNat) b.i.q j (b.rt g.x.E g.x.Y g.t.toNat) ((g.a:Int):Rat) ((g.d:Int):Rat)
noncomputable def Yh.it (y:Yh) (g:Nat):Nat->Rat:=Wh y.b y.d y.j.q (y.r g)
theorem Wp {f:Nat->Rat}{N:Nat}(h:pr f N=0):∀k,N<=k->pr f k=0:=fun k hk=>by
 obtain⟨m,rfl⟩:∃m,k=N+m:=⟨k-N,by omega⟩
 induction m with
 |zero=>exact h
 |succ m ih=>rw[<-Nat.add_assoc];simp only[pr];rw[ih (by omega)];grind
structure KQ (b d:Bh)(g:Gr):Prop where
 ok:pX b d g
 n0:b.n<=10
 n1:d.n<=10
section
variable {b d:Bh} {j:FH} {g:Gr} {w:World}
theorem KQ.c0 (h:KQ b d g):b.cnt g.x<=11/\lT b.v (b.rt g.x.E g.x.Y) (b.cnt g.x):=by
 obtain⟨N,hN,hc⟩:=vI b.v h.ok.1.1.2.1;have hn:=h.n0;rw[Bh.Gm hc (by omega)];exact⟨by omega,hc⟩
theorem KQ.c1 (h:KQ b d g):d.cnt g.x<=11/\lT d.v (d.rt g.x.E g.x.Y) (d.cnt g.x):=by
 obtain⟨N,hN,hc⟩:=vI d.v h.ok.1.2.2.1;have hn:=h.n1;rw[Bh.Gm hc (by omega)];exact⟨by omega,hc⟩
theorem KQ.t0 (h:KQ b d g)(hb:b.rd w):g.t.toNat<b.cnt g.x:=by
 have h1:=(lT.pr (Bh.MK hb h.ok.1.1.1).1).1 h.c0.2
 exact Nat.lt_of_not_le fun h2=>h.ok.2.1.2 (Wp h1.1 _ h2)
end
theorem KT {b:Bh}{x:Ct}{N t:Nat}(ho:x.ok b)(hN:lT b.v (b.rt x.E x.Y) N)(hn:N<=11)(h15:b.n<=10)(ht:t<N):b.right x.E (x.Y+(t:Int)):=by
 obtain⟨h1,h2,h3,h4,h5⟩:=ho.2.1;refine⟨h1,h2,h3,by omega, ?_⟩
 by_cases hy:x.E+x.Y<=b.F+(b.n:Int)-1
 ·omega
 ·
  have hf:b.rt x.E x.Y 0=1:=by
   show rt b.F b.S b.n b.r x.E x.Y ((0:Nat):Int)=1;unfold rt;rw[if_pos (by omega)]
  have hd:dd b.v (b.rt x.E x.Y) 1=0:=by
   rw[oP,hf]
   grind
  have:¬1<N:=fun h=>hN.2 1 h hd
  omega
theorem sG {b:Bh}{x:Ct}{w:World}(hb:b.rd w)(hx:x.rd w)(ho:x.ok b){N:Nat}(hN:lT b.v (b.rt x.E x.Y) N)(h11:N<=11)(t:Nat):Sz (x.p.q.den*(b.v.den^11*sp (b.rt x.E x.Y) N 0)) (ai^5) (b.val x N t):=by
 obtain⟨h1,h2,-⟩:=Ct.pm hx ho;refine(ZW (Bh.MK hb ho.1) (iB hb.1 ho.2.1 N) h1 h2 hN (Bh.v_i hb ho.1) h11 t).more (fB _) ?_;refine ay (dV _ h11) ?_
 decide
theorem ov {z:Int}(h0:0<=z)(h1:z<=1099511627776):Sz 1 (ai^3) ((z:Int):Rat):=Sz.int z (by
 have:ai^3=281474976710656:=by decide
 omega)
theorem AV {l:Nat->Int}{n:Nat}(h:DS n l)(k:Nat):Sz 1 (ai^3) (lY l n k):=by
 unfold lY
 split
 ·rename_i hk;exact ov (h.2 k hk).1 (h.2 k hk).2
 ·exact ov (by decide) (by decide)
theorem qW {q:Rat}(h1:q.num.natAbs<=ai):Sz q.den ai q:=by
 have h3:0<q.den:=q.den_pos;have h5:ai*1<=ai*q.den:=cT _ h3;have h6:((ai*q.den:Nat):Int)=(ai:Int)*(q.den:Int):=cM _ _;refine⟨Dv.self q, ?_, ?_⟩
 ·
  rw[Rat.le_iff,show(-(ai:Rat))=((-(ai:Int):Int):Rat) by rw[Rat.intCast_neg,Rat.intCast_natCast],Rat.num_intCast,Rat.den_intCast];simp only[Int.neg_mul,Int.natCast_one,Int.mul_one];omega
 ·
  rw[Rat.le_iff,Rat.num_natCast,Rat.den_natCast];omega
theorem JH {b:Bh}{E Y:Int}{w:World}(hb:b.rd w)(hR:b.right E Y)(k:Nat):Sz (b.rt E Y k).den 1 (b.rt E Y k):=by
 have hq:=iB hb.1 hR (k+1) k (mL _);have h0:(0:Rat)<=b.rt E Y k:=hq.1;have h1:b.rt E Y k<=1:=hq.2.1;exact⟨Dv.self _,by grind,by grind⟩
def yC (b d:Bh)(j:Rat):Nat:=b.v.den^11*d.v.den^11*(b.i.q.den*j.den)
noncomputable def yP (b d:Bh) (g:Gr):Nat:=g.x.p.q.den*sp (b.rt g.x.E g.x.Y) (b.cnt g.x) 0*sp (d.rt g.x.E g.x.Y) (d.cnt g.x) 0*(b.rt g.x.E g.x.Y g.t.toNat).den
section
variable {b d:Bh} {j:FH} {g:Gr} {w:World}
theorem VS.fv (h:VS j)(hr:j.rd w):FV w j.q j.s j.A j.n j.t j.B j.m/\0<=j.q/\j.q.num.natAbs<=ai/\j.q.den<=ai:=by
 obtain⟨h1,h2,h3,h4⟩:=h;obtain⟨hv,-,-,-⟩:=Ed hr h1;have e:j.q=yz j.s j.n j.f j.m j.g:=rfl;rw[<-e] at hv;refine⟨hv, ?_, ?_, ?_⟩
 ·
  have:=hv.1.AM;rw[h2] at this;have:=qf this.symm;exact mN.1 (by omega)
 ·
  have:=hv.1.len;have h5:=(bJ (B:=ai) (k:=1) (x:=j.q.num.natAbs) aA).1 (by omega);rw[Nat.pow_one] at h5;exact bG h5
 ·
  have:=hv.2.len;rw[bV] at this;have h5:=(bJ (B:=ai) (k:=1) (x:=j.q.den) aA).1 (by omega);rw[Nat.pow_one] at h5;exact bG h5
theorem zh.pow {v:Rat}(h:zh v):0<v.den^11/\v.den^11<=ai^22:=⟨bM v.den_pos,by
 rw[show ai^22=(ai^2)^11 from(Nat.pow_mul ai 2 11).symm▸rfl]
 exact Nat.pow_le_pow_left h.2.2 11⟩
theorem ZX (hb:b.rd w)(hd:d.rd w)(ob:b.ok)(od:d.ok)(hj:VS j)(hr:j.rd w):0<yC b d j.q/\yC b d j.q<=ai^46:=by
 have h1:=(Bh.MK hb ob).pow;have h2:=(Bh.MK hd od).pow;have h3:=(Bh.fv hb ob).2;have h4:=hj.fv hr;refine⟨dP (dP h1.1 h2.1) (dP b.i.q.den_pos j.q.den_pos), ?_⟩
 have e:ai^46=ai^22*ai^22*(ai*ai):=by rw[<-dK,<-Nat.pow_two,<-dK]
 unfold yC;rw[e];exact dU (dU h1.2 h2.2) (dU (bG h3.2.2) h4.2.2.2)
theorem ZY (h:KQ b d g)(hb:b.rd w)(hd:d.rd w)(hx:g.x.rd w):0<yP b d g/\yP b d g<=ai^27:=by
 have h1:=(Ct.Ge hx h.ok.1.1).2.2.2;have q0:=iB hb.1 h.ok.1.1.2.1;have q1:=iB hd.1 h.ok.1.2.2.1;have h2:=Rm (q0 (b.cnt g.x)) 0 (bF _);have h3:=Rm (q1 (d.cnt g.x)) 0 (bF _);have h4:=(q0 (g.t.toNat+1) g.t.toNat (mL _)).2.2;have h5:ai^(b.cnt g.x-0)<=ai^11:=jH (by decide) (by have:=h.c0.1;omega);have h6:ai^(d.cnt g.x-0)<=ai^11:=jH (by decide) (by have:=h.c1.1;omega);refine⟨dP (dP (dP (Rat.den_pos _) (Gy _ _ _)) (Gy _ _ _)) (Rat.den_pos _), ?_⟩
 have e:ai^27=ai^4*ai^11*ai^11*ai:=by rw[<-dK,<-dK,<-cF]
 unfold yP;rw[e];exact dU (dU (dU h1 (ay h2 h5)) (ay h3 h6)) (bG h4)
theorem adA (h:KQ b d g)(hb:b.rd w)(hd:d.rd w)(hx:g.x.rd w)(hj:VS j)(hr:j.rd w)(k:Nat):Sz (yC b d j.q*yP b d g) (ai^10) (Wh b d j.q g k):=
 have hz:=Rn (sG hb hx h.ok.1.1 h.c0.2 h.c0.1 g.t.toNat) (sG hb hx h.ok.1.1 h.c0.2 h.c0.1 (g.t.toNat+1)) (sG hd hx h.ok.1.2 h.c1.2 h.c1.1 (g.t.toNat+1))
  (p:=pH g.x.T.toNat g.x.p.q g.t.toNat) ⟨((Ct.pm hx h.ok.1.1).2.2 g.t.toNat).2.2,((Ct.pm hx h.ok.1.1).2.2 g.t.toNat).1,((Ct.pm hx h.ok.1.1).2.2 g.t.toNat).2.1⟩ (AV h.ok.1.1.2.2.2.2.1 g.t.toNat) (AV h.ok.1.1.2.2.2.2.2 g.t.toNat)
  (qW (bG (Bh.fv hb h.ok.1.1.1).2.2.1)) (qW (hj.fv hr).2.2.1) (q:=b.rt g.x.E g.x.Y g.t.toNat) (Dq:=(b.rt g.x.E g.x.Y g.t.toNat).den)
  (JH hb h.ok.1.1.2.1 g.t.toNat)
  (ov h.ok.2.2.1.1 h.ok.2.2.1.2.1) (ov (z:=g.d) h.ok.2.2.1.2.2.1 (by have:=h.ok.2.2.1;omega))
  (by rw[<-Rat.intCast_sub];exact ov (by have:=h.ok.2.2.1;omega) (by have:=h.ok.2.2.1;omega))
 hz.2.2.2.2.2.2.2.2.2.2.2.2.2.2.2.2.2.2.2.2.2 k
theorem ZI (h:KQ b d g)(hb:b.rd w)(hd:d.rd w)(hx:g.x.rd w)(hj:VS j)(hr:j.rd w):
  ItL (b.val g.x (b.cnt g.x) g.t.toNat) (b.val g.x (b.cnt g.x) (g.t.toNat+1)) (d.val g.x (d.cnt g.x) (g.t.toNat+1)) (pH g.x.T.toNat g.x.p.q g.t.toNat) (lY g.x.l g.x.n g.t.toNat) (lY g.x.k g.x.m g.t.toNat) b.i.q j.q (b.rt g.x.E g.x.Y g.t.toNat) ((g.a:Int):Rat) ((g.d:Int):Rat):=by
 have hC:=ZX hb hd h.ok.1.1.1 h.ok.1.2.1 hj hr;have hP:=ZY h hb hd hx;have hD:0<yC b d j.q*yP b d g/\yC b d j.q*yP b d g<=ai^208:=⟨dP hC.1 hP.1,ay (dU hC.2 hP.2) (by rw[<-dK];exact jH (by decide) (by decide))⟩;obtain⟨a1,a2,a3,a4,a5,a6,a7,a8,a9,b1,b2,b3,b4,b5,b6,b7,b8,b9,c1,c2,c3,it⟩:=Rn (sG hb hx h.ok.1.1 h.c0.2 h.c0.1 g.t.toNat) (sG hb hx h.ok.1.1 h.c0.2 h.c0.1 (g.t.toNat+1)) (sG hd hx h.ok.1.2 h.c1.2 h.c1.1 (g.t.toNat+1)) (p:=pH g.x.T.toNat g.x.p.q g.t.toNat) ⟨((Ct.pm hx h.ok.1.1).2.2 g.t.toNat).2.2,((Ct.pm hx h.ok.1.1).2.2 g.t.toNat).1,((Ct.pm hx h.ok.1.1).2.2 g.t.toNat).2.1⟩ (AV h.ok.1.1.2.2.2.2.1 g.t.toNat) (AV h.ok.1.1.2.2.2.2.2 g.t.toNat) (qW (bG (Bh.fv hb h.ok.1.1.1).2.2.1)) (qW (hj.fv hr).2.2.1) (q:=b.rt g.x.E g.x.Y g.t.toNat) (Dq:=(b.rt g.x.E g.x.Y g.t.toNat).den) (JH hb h.ok.1.1.2.1 g.t.toNat) (ov h.ok.2.2.1.1 h.ok.2.2.1.2.1) (ov (z:=g.d) h.ok.2.2.1.2.2.1 (by have:=h.ok.2.2.1;omega)) (by rw[<-Rat.intCast_sub];exact ov (by have:=h.ok.2.2.1;omega) (by have:=h.ok.2.2.1;omega))
 have go:∀{M:Nat} {q:Rat},Sz (yC b d j.q*yP b d g) M q->0<M->M<=ai^11->fl q<=256:=fun hs h0 hM=>hs.rp hD.1 hD.2 h0 hM
 exact⟨go a1 (by decide) (by decide),go a2 (by decide) (by decide),go a3 (by decide) (by decide),go a4 (by decide) (by decide),go a5 (by decide) (by decide),go a6 (by decide) (by decide),go a7 (by decide) (by decide),go a8 (by decide) (by decide),go a9 (by decide) (by decide),go b1 (by decide) (by decide),go b2 (by decide) (by decide),go b3 (by decide) (by decide),go b4 (by decide) (by decide),go b5 (by decide) (by decide),go b6 (by decide) (by decide),go b7 (by decide) (by decide),go b8 (by decide) (by decide),go b9 (by decide) (by decide),go c1 (by decide) (by decide),go c2 (by decide) (by decide),go c3 (by decide) (by decide),fun k=>go (it k) (by decide) (by decide)⟩
end
structure YS (y:Yh):Prop where
 ok:Ld y
 n6:y.n<=6
 n0:y.b.n<=10
 n1:y.d.n<=10
section
variable {y:Yh} {w:World}
theorem YS.gr (h:YS y){k:Nat}(hk:k<y.n):KQ y.b y.d (y.r k):=⟨h.ok.2.2.2.2 k hk,h.n0,h.n1⟩
theorem YS.rep (h:YS y)(hr:y.rd w):∀g,g<=y.n->RpS (rep y.it g):=
 have hC:=ZX hr.1 hr.2.1 h.ok.2.1 h.ok.2.2.1 h.ok.2.2.2.1 hr.2.2.1
 Wq h.n6 hC.1 hC.2 (P:=fun k=>yP y.b y.d (y.r k)) (fun _ hk=>ZY (h.gr hk) hr.1 hr.2.1 (hr.2.2.2.rd hk)) (fun _ hk i=>adA (h.gr hk) hr.1 hr.2.1 (hr.2.2.2.rd hk) h.ok.2.2.2.1 hr.2.2.1 i)
end
end Go.Proofs.YtclbiihcbfnjmaaGreat
