/-
  Parts.
-/
import Derived.Test.YtclbiihcbfnjmaaGreatK17
set_option maxRecDepth 100000
namespace Go.Proofs.YtclbiihcbfnjmaaGreat
section
open Go.ChangeShapes Go.WideShapes Go.ChangeAt Go.RowKit Go.Deep

theorem Fq : Tryz.prog.cellsOf 31=7:=by kernel_rfl
theorem Pt : Tryz.prog.cellsOf 3=1:=by kernel_rfl
theorem pS {α:Type}{l:List α}(h:l.length=3):∃a b c,l=[a,b,c]:=by
 match l,h with
 |[a,b,c],_=>exact⟨a,b,c,rfl⟩
theorem zo {α:Type}{l:List α}(h:l.length=7):∃a b c d e f g,l=[a,b,c,d,e,f,g]:=by
 match l,h with
 |[a,b,c,d,e,f,g],_=>exact⟨a,b,c,d,e,f,g,rfl⟩
section
variable {H:Type} {enc:TypeId×Value->H} {W:World}
theorem rS {fuel:Nat}{cs:List Value}{x:DataW H×List MemPlace}(h:DataW.trod enc Tryz.prog W 0 (fun _=>true) true fuel 24 cs=some x):
  ∃F S A n c r,cs=[.int .i64 F,.int .i64 S,.slice A n c]/\dA W A n r:=by
 obtain⟨xs,k,-,-,hl,hx,hi⟩:=DataW.trod_struct Tryz.underlying24 h;obtain⟨c0,c1,c2,rfl⟩:=pS (hl.trans Fm);obtain⟨x0,x1,x2,rfl⟩:=pS hx;have h0:DataW.trod enc Tryz.prog W 0 (fun _=>true) true k 3 (([c0,c1,c2].drop 0).take (Tryz.prog.cellsOf 3))=some x0:=hi 0 _ rfl;have h1:DataW.trod enc Tryz.prog W 0 (fun _=>true) true k 3 (([c0,c1,c2].drop 1).take (Tryz.prog.cellsOf 3))=some x1:=hi 1 _ rfl;have h2:DataW.trod enc Tryz.prog W 0 (fun _=>true) true k 22 (([c0,c1,c2].drop 2).take (Tryz.prog.cellsOf 22))=some x2:=hi 2 _ rfl;rw[Pt] at h0 h1;rw[show Tryz.prog.cellsOf 22=1 by kernel_rfl] at h2;simp only[List.drop_zero,List.take_succ_cons,List.take_zero,List.drop_succ_cons] at h0 h1 h2;obtain⟨F,e0,-,hF⟩:=DataW.trod_int Tryz.underlying3 h0;obtain⟨S,e1,-,hS⟩:=DataW.trod_int Tryz.underlying3 h1;obtain⟨A,n,c,r,e2,hr⟩:=JM h2
 injection e0 with e0
 injection e1 with e1
 injection e2 with e2
 exact⟨F,S,A,n,c,r,by rw[e0,e1,e2],hr⟩
theorem Fs {b0:Nat}{v:Value}{d:DataW H}{p:List MemPlace}(hv:Value.okWide Tryz.prog W .any b0 31 v)(h:DataW.Trod enc Tryz.prog W 0 (fun _=>true) true 31 v d p):
  ∃F S A n c r s Ai ni ci fi t Bi mi di gi,v= .agg #[.int .i64 F,.int .i64 S,.slice A n c,.bool s,.slice Ai ni ci,.bool t,.slice Bi mi di]/\dA W A n r/\oT W Ai ni fi Bi mi gi:=by
 obtain⟨cs,rfl,-⟩:=okWide_struct Tryz.underlying31 hv;obtain⟨fuel,hf⟩:=h;have hf2:DataW.trod enc Tryz.prog W 0 (fun _=>true) true fuel 31 cs.toList=some (d,p):=hf;obtain⟨xs,k,-,-,hl,hx,hi⟩:=DataW.trod_struct Tryz.underlying31 hf2;obtain⟨c0,c1,c2,c3,c4,c5,c6,hcs⟩:=zo (hl.trans Fq);obtain⟨x0,x1,rfl⟩:=iz hx;rw[hcs] at hi;have h0:DataW.trod enc Tryz.prog W 0 (fun _=>true) true k 24 (([c0,c1,c2,c3,c4,c5,c6].drop 0).take (Tryz.prog.cellsOf 24))=some x0:=hi 0 _ rfl;have h1:DataW.trod enc Tryz.prog W 0 (fun _=>true) true k 29 (([c0,c1,c2,c3,c4,c5,c6].drop 3).take (Tryz.prog.cellsOf 29))=some x1:=hi 1 _ rfl;rw[Fm] at h0;rw[uF] at h1;simp only[List.drop_zero,List.take_succ_cons,List.take_zero,List.drop_succ_cons] at h0 h1;obtain⟨F,S,A,n,c,r,e0,hT⟩:=rS h0;obtain⟨⟨s,Ai,ni,ci,fi,t,Bi,mi,di,gi⟩,e1,hq⟩:=eL h1;simp only[List.cons.injEq,and_true] at e0 e1;obtain⟨rfl,rfl,rfl⟩:=e0;obtain⟨rfl,rfl,rfl,rfl⟩:=e1;refine⟨F,S,A,n,c,r,s,Ai,ni,ci,fi,t,Bi,mi,di,gi, ?_,hT,hq⟩;rw[show cs=#[.int .i64 F,.int .i64 S,.slice A n c,.bool s,.slice Ai ni ci,.bool t,.slice Bi mi di] from Array.toList_inj.1 hcs]
end
end
section

def dd (v:Rat)(f:Nat->Rat):Nat->Rat
 |0=>1
 |k+1=>v*dd v f k-v*dd v f k*f k
def cc (v:Rat)(f:Nat->Rat)(k:Nat):Rat:=v*dd v f k*f k
def tl (g:Nat->Rat):Nat->Nat->Rat
 |0,_=>0
 |m+1,k=>tl g m (k+1)+g k
def sf (g:Nat->Rat)(N k:Nat):Rat:=tl g (N-k) k
theorem fF (g:Nat->Rat){N k:Nat}(h:N<=k):sf g N k=0:=by
 unfold sf;rw[Nat.sub_eq_zero_of_le h];rfl
theorem bE (g:Nat->Rat){N k:Nat}(h:k<N):sf g N k=sf g N (k+1)+g k:=by
 unfold sf
 obtain⟨m,hm⟩:∃m,N-k=m+1:=⟨N-k-1,by omega⟩
 rw[hm,show N-(k+1)=m by omega];rfl
theorem oJ {P:Nat->Prop}{N:Nat}(hN:P N)(hs:∀k,k<N->P (k+1)->P k):∀k,k<=N->P k:=by
 have:∀m k,k+m=N->P k:=fun m=>by
  induction m with
  |zero=>
   intro k hk
   obtain rfl:k=N:=by omega
   exact hN
  |succ m ih=>intro k hk;exact hs k (by omega) (ih (k+1) (by omega))
 exact fun k hk=>this (N-k) k (by omega)
theorem Nw {g h:Nat->Rat}{N:Nat}(e:∀j,j<N->g j=h j):∀k,k<=N->sf g N k=sf h N k:=
 oJ (by rw[fF _ (Nat.le_refl _),fF _ (Nat.le_refl _)]) fun k hk ih=>by rw[bE g hk,bE h hk,ih,e k hk]
theorem Db {g:Nat->Rat}{N:Nat}{B:Rat}(h:∀j,j<N->0<=g j/\g j<=B)(_:0<=B):∀k,k<=N->0<=sf g N k/\sf g N k<=(((N-k:Nat):Rat))*B:=
 oJ (by rw[fF _ (Nat.le_refl _),Nat.sub_self];exact⟨by grind,by simp⟩) fun k hk ih=>by
  obtain⟨a,b⟩:=h k hk;rw[bE g hk]
  obtain⟨m,hm⟩:∃m,N-k=m+1:=⟨N-k-1,by omega⟩
  rw[show N-(k+1)=m by omega] at ih;rw[hm]
  have e:((m+1:Nat):Rat)=(m:Rat)+1:=by push_cast;rfl
  rw[e];exact⟨by grind,by grind⟩
theorem Pu {g:Nat->Rat}{N E:Nat}(h:∀j,j<N->Dv (g j) E):∀k,k<=N->Dv (sf g N k) E:=
 oJ (by rw[fF _ (Nat.le_refl _)];exact⟨0,by simp⟩) fun k hk ih=>by rw[bE g hk];exact ih.add (h k hk)
def xj (v:Rat):Prop:=0<v/\v<=1/\v.den<=aj^2
def dE (v:Rat)(f:Nat->Rat):Nat->Nat
 |0=>1
 |k+1=>v.den*dE v f k*(f k).den
theorem mZ (v:Rat)(f:Nat->Rat)(k:Nat):dd v f (k+1)=v*dd v f k*(1-f k):=by simp only[dd];grind
theorem wP (v:Rat)(f:Nat->Rat):∀k,Dv (dd v f k) (dE v f k)
 |0=>⟨1,by simp[dd,dE]⟩
 |k+1=>by rw[mZ];exact((Dv.self v).mul (wP v f k)).mul (((Dv.int 1).more (Nat.one_dvd _)).sub (Dv.self (f k)))
theorem Ig (v:Rat)(f:Nat->Rat)(k:Nat):Dv (cc v f k) (dE v f (k+1)):=((Dv.self v).mul (wP v f k)).mul (Dv.self (f k))
theorem lf (v:Rat)(f:Nat->Rat){j:Nat}:∀{k:Nat},j<=k->dE v f j∣dE v f k
 |0,h=>by
  obtain rfl:j=0:=by omega
  exact Nat.dvd_refl _
 |k+1,h=>by
  by_cases e:j=k+1
  ·subst e;exact Nat.dvd_refl _
  ·exact Nat.dvd_trans (lf v f (show j<=k by omega)) (Nat.dvd_trans (Nat.dvd_mul_left _ _) (Nat.dvd_mul_right _ _))
theorem oK (v:Rat)(f:Nat->Rat):∀k,0<dE v f k
 |0=>by simp[dE]
 |k+1=>Nat.mul_pos (Nat.mul_pos v.den_pos (oK v f k)) (f k).den_pos
theorem uJ {v:Rat}{f:Nat->Rat}{n:Nat}(hv:xj v)(h:sN f n):∀k,k<=n->dE v f k<=aj^(3*k)
 |0,_=>by simp[dE]
 |k+1,hk=>by
  have h1:=uJ hv h k (by omega);have h2:=Nat.le_of_lt (h k (by omega)).2.2
  have e:aj^(3*(k+1))=aj^2*aj^(3*k)*aj:=by
   rw[<-Nat.pow_add,<-Nat.pow_succ]
   congr 1
   omega
  rw[e];exact Nat.mul_le_mul (Nat.mul_le_mul hv.2.2 h1) h2
theorem pT {v:Rat}{f:Nat->Rat}{n:Nat}(hv:xj v)(h:sN f n):∀k,k<=n->0<=dd v f k/\dd v f k<=1
 |0,_=>by simp only[dd];exact⟨by decide,by decide⟩
 |k+1,hk=>by
  obtain⟨h1,h2⟩:=pT hv h k (by omega);obtain⟨h3,h4,_⟩:=h k (by omega);obtain⟨v1,v2,_⟩:=hv;rw[mZ]
  have a0:0<=1-f k:=by grind
  have v0:0<=v:=by grind
  have b0:=Rat.mul_nonneg v0 h1;have c0:=Rat.mul_nonneg b0 a0;have d0:=Rat.mul_nonneg b0 h3;have e0:=Rat.mul_nonneg (show 0<=1-v by grind) h1;exact⟨c0,by grind⟩
theorem wQ {v:Rat}{f:Nat->Rat}{n k:Nat}(hv:xj v)(h:sN f n)(hk:k<n):0<=cc v f k/\cc v f k<=1:=by
 obtain⟨h1,h2⟩:=pT hv h k (by omega);obtain⟨h5,h6⟩:=pT hv h (k+1) (by omega);obtain⟨h3,h4,_⟩:=h k hk;obtain⟨v1,v2,_⟩:=hv
 have v0:0<=v:=by grind
 have b0:=Rat.mul_nonneg v0 h1;have d0:=Rat.mul_nonneg b0 h3;have e0:=Rat.mul_nonneg (show 0<=1-v by grind) h1;simp only[dd] at h5;unfold cc;exact⟨d0,by grind⟩
def Ql (M j:Nat)(q:Rat):Prop:=-(M:Rat)<=q/\q<=(M:Rat)/\∃D,0<D/\Dv q D/\D<=aj^j
theorem Ql.fl {M j:Nat}{q:Rat}(h:Ql M j q)(h0:0<M)(hM:M<aj):fl q<=j+1:=by
 obtain⟨h1,h2,D,hD,hd,hk⟩:=h;refine pO hD hd h1 h2 h0 ((bf aD).2 ?_);rw[Nat.pow_succ,Nat.mul_comm];have hp:0<aj^j:=Nat.pow_pos (by decide);exact Nat.lt_of_le_of_lt (Nat.mul_le_mul_right _ hk) (Nat.mul_lt_mul_of_pos_left hM hp)
theorem Ql.l {M j:Nat}{q:Rat}(h:Ql M j q)(h0:0<M)(hM:M<aj)(hj:j<=255):Go.Proofs.YtclbiihcbfnjmaaGreat.fl q<=256:=Nat.le_trans (h.fl h0 hM) (by omega)
theorem jk {a b:Rat}{M K:Rat}(a1:-M<=a)(a2:a<=M)(b1:-K<=b)(b2:b<=K):-(M*K)<=a*b/\a*b<=M*K:=by
 have h1:=Rat.mul_nonneg (show 0<=M-a by grind) (show 0<=K-b by grind);have h2:=Rat.mul_nonneg (show 0<=M-a by grind) (show 0<=K+b by grind);have h3:=Rat.mul_nonneg (show 0<=M+a by grind) (show 0<=K-b by grind);have h4:=Rat.mul_nonneg (show 0<=M+a by grind) (show 0<=K+b by grind);exact⟨by grind,by grind⟩
theorem Ql.mul {M K i j:Nat}{p q:Rat}(h:Ql M i p)(k:Ql K j q):Ql (M*K) (i+j) (p*q):=by
 obtain⟨h1,h2,D,hD,hd,hk⟩:=h;obtain⟨k1,k2,E,kE,kd,kk⟩:=k;obtain⟨r1,r2⟩:=jk h1 h2 k1 k2;have e:((M*K:Nat):Rat)=(M:Rat)*(K:Rat):=Rat.natCast_mul _ _;unfold Ql;rw[e];refine⟨r1,r2,D*E,Nat.mul_pos hD kE,hd.mul kd, ?_⟩;rw[Nat.pow_add];exact Nat.mul_le_mul hk kk
theorem Ql.int (z:Int){M:Nat}(h:z.natAbs<=M):Ql M 0 (z:Rat):=by
 have e:((M:Int):Rat)=(M:Rat):=rfl;refine⟨?_, ?_,1,by decide,Dv.int z,by simp⟩
 ·
  rw[<-e,<-Rat.intCast_neg];exact Rat.intCast_le_intCast.2 (by omega)
 ·
  rw[<-e];exact Rat.intCast_le_intCast.2 (by omega)
theorem Ql.of {q:Rat}{E M j:Nat}(h0:0<=q)(h1:q<=(M:Rat))(hE:0<E)(hd:Dv q E)(hj:E<=aj^j):Ql M j q:=by
 have e:(0:Rat)<=(M:Rat):=Rat.natCast_nonneg;exact⟨by grind,h1,E,hE,hd,hj⟩
theorem xj.ql {v:Rat}(h:xj v):Ql 1 2 v:=by
 obtain⟨h1,h2,h3⟩:=h;exact Ql.of (by grind) (by simpa using h2) v.den_pos (Dv.self v) h3
section
variable {v:Rat} {f:Nat->Rat} {N:Nat} (hv:xj v) (hf:sN f N)
include hv hf
theorem FO {k:Nat}(hk:k<=N):Ql 1 (3*N) (dd v f k):=
 Ql.of (pT hv hf k hk).1 (by simpa using(pT hv hf k hk).2) (oK v f N) ((wP v f k).more (lf v f hk)) (uJ hv hf N (Nat.le_refl _))
theorem KE {k:Nat}(hk:k<N):Ql 1 (3*N) (cc v f k):=
 Ql.of (wQ hv hf hk).1 (by simpa using(wQ hv hf hk).2) (oK v f N) ((Ig v f k).more (lf v f hk)) (uJ hv hf N (Nat.le_refl _))
theorem Ih {g:Nat->Rat}{M:Nat}(h:∀j,j<N->0<=g j/\g j<=(M:Rat)/\Dv (g j) (dE v f N)){k:Nat}(hk:k<=N):Ql (N*M) (3*N) (sf g N k):=by
 obtain⟨h1,h2⟩:=Db (fun j hj=>⟨(h j hj).1,(h j hj).2.1⟩) Rat.natCast_nonneg k hk;refine Ql.of h1 (Rat.le_trans h2 ?_) (oK v f N) (Pu (fun j hj=>(h j hj).2.2) k hk) (uJ hv hf N (Nat.le_refl _));rw[<-Rat.natCast_mul]
 exact_mod_cast Nat.mul_le_mul_right _ (Nat.sub_le _ _)
theorem Xi :∀j,j<N->0<=dd v f j/\dd v f j<=((1:Nat):Rat)/\Dv (dd v f j) (dE v f N):=fun j hj=>
 ⟨(pT hv hf j (by omega)).1,by simpa using(pT hv hf j (by omega)).2,(wP v f j).more (lf v f (by omega))⟩
theorem Xj :∀j,j<N->0<=cc v f j/\cc v f j<=((1:Nat):Rat)/\Dv (cc v f j) (dE v f N):=fun j hj=>
 ⟨(wQ hv hf hj).1,by simpa using(wQ hv hf hj).2,(Ig v f j).more (lf v f (by omega))⟩
omit hv hf in
theorem Xk {g:Nat->Rat}{M:Nat}(h:∀j,j<N->0<=g j/\g j<=(M:Rat)/\Dv (g j) (dE v f N)):∀j,j<N->0<=sf g N j/\sf g N j<=((N*M:Nat):Rat)/\Dv (sf g N j) (dE v f N):=fun j hj=>by
 obtain⟨h1,h2⟩:=Db (fun j hj=>⟨(h j hj).1,(h j hj).2.1⟩) Rat.natCast_nonneg j (by omega);refine⟨h1,Rat.le_trans h2 ?_,Pu (fun j hj=>(h j hj).2.2) j (by omega)⟩;rw[<-Rat.natCast_mul]
 exact_mod_cast Nat.mul_le_mul_right _ (Nat.sub_le _ _)
theorem VW {k:Nat}(hk:k<=N):Ql (N*1) (3*N) (sf (dd v f) N k):=Ih hv hf (Xi hv hf) hk
theorem VX {k:Nat}(hk:k<=N):Ql (N*1) (3*N) (sf (cc v f) N k):=Ih hv hf (Xj hv hf) hk
theorem adX {k:Nat}(hk:k<=N):Ql (N*(N*1)) (3*N) (sf (sf (dd v f) N) N k):=Ih hv hf (Xk (Xi hv hf)) hk
theorem adY {k:Nat}(hk:k<=N):Ql (N*(N*1)) (3*N) (sf (sf (cc v f) N) N k):=Ih hv hf (Xk (Xj hv hf)) hk
end
def kH (v:Rat)(f:Nat->Rat)(N:Nat):Prop:=dd v f N=0/\∀k,k<N->dd v f k≠0
theorem kH.uniq {v:Rat}{f:Nat->Rat}{N K:Nat}(h:kH v f N)(k:kH v f K):N=K:=by
 rcases Nat.lt_trichotomy N K with g|g|g
 ·exact absurd h.1 (k.2 N g)
 ·exact g
 ·exact absurd k.1 (h.2 K g)
def ps (g:Nat->Rat)(a b:Int):Nat->Rat
 |0=>0
 |k+1=>if a<=(k:Int)/\(k:Int)<b then ps g a b k+g k else ps g a b k
theorem Xl (v:Rat)(f:Nat->Rat):∀k,dd v f k=v^k*pr f k
 |0=>by simp[dd,pr]
 |k+1=>by rw[mZ,Xl v f k,Rat.pow_succ];simp only[pr];grind
def zJ (i:Rat):Prop:=0<=i/\i.num.natAbs<aj/\i.den<aj
theorem zJ.le {i:Rat}(h:zJ i):i<=((65535:Nat):Rat):=by
 obtain⟨h0,h1,h2⟩:=h;rw[Rat.le_iff,Rat.num_natCast,Rat.den_natCast];have h3:0<i.den:=i.den_pos
 have h4:i.num<=65535:=by
  have:aj=65536:=rfl;omega
 have h5:((65535:Nat):Int)*(i.den:Int)≥65535*1:=Int.mul_le_mul_of_nonneg_left (by omega) (by decide);simp only[Int.natCast_one,Int.mul_one];omega
theorem zJ.one {i:Rat}(h:zJ i):fl (1+i)<=2:=by
 have h1:=h.le;obtain⟨h0,_,h2⟩:=h
 have e:((65536:Nat):Rat)=((65535:Nat):Rat)+1:=by norm_cast
 refine pO (M:=65536) i.den_pos (((Dv.int 1).more (Nat.one_dvd _)).add (Dv.self i)) (by rw[e];grind) (by rw[e];grind) (by decide) ((bf aD).2 ?_);show 65536*i.den<aj^2;rw[Nat.pow_two];exact Nat.mul_lt_mul_of_pos_left h2 (by decide)
theorem zJ.fl {i:Rat}(h:zJ i):Go.Proofs.YtclbiihcbfnjmaaGreat.fl i<=1:=bV.2 ⟨(bf aD).2 (by rw[Nat.pow_one];exact h.2.1),(bf aD).2 (by rw[Nat.pow_one];exact h.2.2)⟩
theorem zJ.v {i:Rat}(h:zJ i):1/(1+i)*(1+i)=1:=Rat.div_mul_cancel (by have:=h.1;grind)
theorem zJ.KD {i:Rat}(h:zJ i):xj (1/(1+i)):=by
 have hv:=h.v;obtain⟨h0,h1,h2⟩:=h
 generalize 1/(1+i)=v at*
 have hp:0<v:=by
  refine Rat.not_le.1 fun g=> ?_
  have:=Rat.mul_nonneg (show 0<=-v by grind) (show 0<=1+i by grind)
  grind
 have hle:v<=1:=by
  have:=Rat.mul_nonneg (show 0<=v by grind) h0
  grind
 refine⟨hp,hle, ?_⟩
 have hi:i*(i.den:Rat)=(i.num:Rat):=by
  have hq:(i.den:Rat)≠0:=by
   intro h;exact i.den_nz (by exact_mod_cast h)
  have h1:=Rat.num_divInt_den i;rw[Rat.divInt_eq_div] at h1;have h2:(((i.den:Nat):Int):Rat)=((i.den:Nat):Rat):=rfl;rw[h2] at h1
  conv=>lhs;lhs;rw[<-h1]
  grind
 have hn:(0:Int)<=i.num:=Rat.num_nonneg.2 h0
 have hD:Dv v (i.den+i.num.natAbs):=⟨(i.den:Int),by
  have e1:((i.den+i.num.natAbs:Nat):Rat)=(i.den:Rat)+(i.num:Rat):=by
   rw[Rat.natCast_add]
   congr 1
   rw[<-Rat.intCast_natCast,Int.natAbs_of_nonneg hn]
  have e2:((i.den:Int):Rat)=(i.den:Rat):=rfl;rw[e1,e2,<-hi]
  have:v*((i.den:Rat)+i*(i.den:Rat))=v*(1+i)*(i.den:Rat):=by grind
  rw[this,hv]
  grind⟩
 have h5:=Nat.le_of_dvd (by have:=i.den_pos;omega) (Dv.iff.2 hD);have:aj^2=4294967296:=rfl;have:aj=65536:=rfl;omega
end
section

theorem UY (F S:Int)(n:Nat)(r:Nat->RH)(E Y:Int)(m:Nat):fr F S n r E (Y+(m:Int))=fun i=>fr F S n r E Y (m+i):=by
 funext i
 exact Pd F S n r E Y m i
theorem Dc {v:Rat}{f g:Nat->Rat}:∀{n:Nat},(∀i,i<n->f i=g i)->dd v f n=dd v g n
 |0,_=>rfl
 |n+1,h=>by
  simp only[dd];rw[Dc (n:=n) fun i hi=>h i (by omega),h n (by omega)]
theorem Pv (v:Rat)(f:Nat->Rat)(m:Nat):∀k,dd v f (m+k)=dd v f m*dd v (fun i=>f (m+i)) k
 |0=>by simp only[dd,Nat.add_zero];grind
 |k+1=>by
  rw[<-Nat.add_assoc];simp only[dd];rw[Pv v f m k]
  grind
section
variable {v:Rat} {f:Nat->Rat} {N K m:Nat} (e:N=m+K)
include e
end
def rs (g:Nat->Rat)(a:Int)(k:Nat):Rat:=(((k:Int)-a+1:Int):Rat)*g k
theorem pow_pos {v:Rat}(h:0<v):∀k:Nat,0<v^k
 |0=>by rw[Rat.pow_zero];decide
 |k+1=>by rw[Rat.pow_succ];exact Rat.mul_pos (pow_pos h k) h
theorem kH.pr {v:Rat}{f:Nat->Rat}{N:Nat}(hv:0<v):kH v f N↔(Go.Proofs.YtclbiihcbfnjmaaGreat.pr f N=0/\∀k,k<N->Go.Proofs.YtclbiihcbfnjmaaGreat.pr f k≠0):=by
 have hz:∀k,dd v f k=0↔Go.Proofs.YtclbiihcbfnjmaaGreat.pr f k=0:=fun k=>by
  rw[Xl];have:=pow_pos hv k
  constructor
  ·
   intro e
   rcases Rat.mul_eq_zero.1 e with e|e
   ·
    rw[e] at this;exact absurd this (by decide)
   ·exact e
  ·
   intro e;rw[e]
   grind
 unfold kH
 constructor
 ·exact fun⟨a,b⟩=>⟨(hz N).1 a,fun k hk e=>b k hk ((hz k).2 e)⟩
 ·exact fun⟨a,b⟩=>⟨(hz N).2 a,fun k hk e=>b k hk ((hz k).1 e)⟩
theorem aa4 {v:Rat}{f:Nat->Rat}{M:Nat}(h:dd v f M=0):∃N,N<=M/\kH v f N:=by
 induction M using Nat.strongRecOn with
 |_ M ih=>
  by_cases c:∃k,k<M/\dd v f k=0
  ·
   obtain⟨k,hk,e⟩:=c;obtain⟨N,hN,hc⟩:=ih k hk e;exact⟨N,by omega,hc⟩
  ·exact⟨M,Nat.le_refl _,h,fun k hk e=>c ⟨k,hk,e⟩⟩
theorem tW {F S E Y:Int}{n:Nat}{r:Nat->RH}(v:Rat)(hR:cB F S n r E Y):∃N,N<=n+1/\kH v (fr F S n r E Y) N:=by
 obtain⟨M,_,h1,_,h2⟩:=wN hR
 have hM:M<=n:=by
  rcases Nat.eq_zero_or_pos M with e|e
  ·omega
  ·
   have:=h1 (M-1) (by omega);obtain⟨_,r1,r2,r3,r4⟩:=hR;omega
 have h0:dd v (fr F S n r E Y) (M+1)=0:=by
  rw[mZ];have:fr F S n r E Y M=1:=h2;rw[this]
  grind
 obtain⟨N,hN,hc⟩:=aa4 h0;exact⟨N,by omega,hc⟩
theorem kH.pos {v:Rat}{f:Nat->Rat}{N:Nat}(h:kH v f N):0<N:=by
 rcases Nat.eq_zero_or_pos N with e|e
 ·
  subst e;have:=h.1;simp only[dd] at this;exact absurd this (by decide)
 ·exact e
end
section

theorem ag2 (g:Nat->Rat){N:Nat}:∀k,k<=N->sf g (N+1) k=sf g N k+g N:=
 oJ (by rw[bE g (Nat.lt_succ_self N),fF g (Nat.le_refl (N+1)),fF g (Nat.le_refl N)]) (fun k hk ih=>by rw[bE g (show k<N+1 by omega),ih,bE g hk];grind)
def yr (v:Rat)(f L K:Nat->Rat)(n:Nat):Rat:=L n*dd v f n+K n*cc v f n
def va (v:Rat)(f:Nat->Rat)(N:Nat)(L K:Nat->Rat)(t:Nat):Rat:=sf (yr v f L K) N t/dd v f t
def Pm (B q:Nat)(L:Nat->Rat):Prop:=∀n,-(B:Rat)<=L n/\L n<=(B:Rat)/\Dv (L n) q
theorem jl {M k j D:Nat}{q:Rat}(hD:0<D)(hd:Dv q D)(h1:-(M:Rat)<=q)(h2:q<=(M:Rat))(h0:0<M)(hM:M<=aj^k)(hj:D<=aj^j):fl q<=k+j+1:=by
 refine pO hD hd h1 h2 h0 ((bf aD).2 ?_);rw[Nat.pow_succ,Nat.pow_add];have hp:0<aj^k*aj^j:=Nat.mul_pos (Nat.pow_pos (by decide)) (Nat.pow_pos (by decide));have:=Nat.mul_le_mul hM hj;have h3:aj^k*aj^j*1<aj^k*aj^j*aj:=Nat.mul_lt_mul_of_pos_left (by decide) hp;omega
theorem Ii {a b A B:Rat}(h1:-A<=a)(h2:a<=A)(h3:-B<=b)(h4:b<=B):-(A+B)<=a+b/\a+b<=A+B:=by constructor<;>grind
theorem aa5 {g:Nat->Rat}{N:Nat}{B:Rat}(h:∀j,j<N->-B<=g j/\g j<=B):∀k,k<=N->-((N-k:Nat)*B)<=sf g N k/\sf g N k<=(N-k:Nat)*B:=
 oJ (by rw[fF g (Nat.le_refl N),Nat.sub_self];constructor<;>grind) (fun k hk ih=>by
  rw[bE g hk,show((N-k:Nat):Rat)=((N-(k+1):Nat):Rat)+1 by rw[show N-k=N-(k+1)+1 by omega];norm_cast];have:=h k hk
  constructor<;>grind)
section
variable {v:Rat} {f L K:Nat->Rat} {N B A q:Nat} (hv:xj v) (hf:sN f N) (hL:Pm B q L) (hK:Pm A 1 K)
include hv hf hL hK
theorem zu {j:Nat}(hj:j<N):-(((B+A:Nat)):Rat)<=yr v f L K j/\yr v f L K j<=((B+A:Nat):Rat)/\Dv (yr v f L K j) (q*dE v f N):=by
 obtain⟨l1,l2,l3⟩:=hL j;obtain⟨k1,k2,k3⟩:=hK j;obtain⟨d1,d2⟩:=pT hv hf j (Nat.le_of_lt hj);obtain⟨c1,c2⟩:=wQ hv hf hj;have e:=jk l1 l2 (K:=1) (by grind) d2;have g:=jk k1 k2 (K:=1) (by grind) c2;have s:=Ii e.1 e.2 g.1 g.2
 have eB:((B+A:Nat):Rat)=(B:Rat)*1+(A:Rat)*1:=by rw[Rat.natCast_add];grind
 refine⟨by rw[eB];exact s.1,by rw[eB];exact s.2, ?_⟩;have m1:=(l3.mul (wP v f j)).more (Nat.mul_dvd_mul_left q (lf v f (Nat.le_of_lt hj)));have m2:=(k3.mul (Ig v f j)).more (show 1*dE v f (j+1)∣q*dE v f N from by rw[Nat.one_mul];exact Nat.dvd_trans (lf v f hj) (Nat.dvd_mul_left _ _));exact m1.add m2
theorem aa6 {k:Nat}(hk:k<=N):-((N*(B+A):Nat):Rat)<=sf (yr v f L K) N k/\sf (yr v f L K) N k<=((N*(B+A):Nat):Rat)/\Dv (sf (yr v f L K) N k) (q*dE v f N):=by
 obtain⟨h1,h2⟩:=aa5 (g:=yr v f L K) (B:=((B+A:Nat):Rat)) (fun j hj=>⟨(zu hv hf hL hK hj).1,(zu hv hf hL hK hj).2.1⟩) k hk
 have e:(((N-k:Nat):Rat))*((B+A:Nat):Rat)<=((N*(B+A):Nat):Rat):=by
  rw[<-Rat.natCast_mul]
  exact_mod_cast Nat.mul_le_mul_right _ (Nat.sub_le N k)
 exact⟨by grind,by grind,Pu (fun j hj=>(zu hv hf hL hK hj).2.2) k hk⟩
end
theorem Pw {v:Rat}{f L K:Nat->Rat}{N t:Nat}(h:dd v f t≠0):va v f N L K t*dd v f t=sf (yr v f L K) N t:=Rat.div_mul_cancel h
theorem sP {v:Rat}{f L K:Nat->Rat}{N t:Nat}(h:N<=t):va v f N L K t=0:=by
 unfold va;rw[fF _ h,Rat.div_def,Rat.zero_mul]
theorem G8 {v i:Rat}{f L K:Nat->Rat}{N t:Nat}(hN:kH v f N)(hi:v*(1+i)=1)(ht:t<N):(va v f N L K t-L t)*(1+i)=f t*K t+(1-f t)*va v f N L K (t+1):=by
 have hd:=hN.2 t ht;have h0:=Pw (L:=L) (K:=K) (N:=N) hd;rw[bE _ ht] at h0;have e1:yr v f L K t=L t*dd v f t+K t*(v*dd v f t*f t):=rfl;have e2:dd v f (t+1)=v*dd v f t*(1-f t):=mZ v f t
 have h1:sf (yr v f L K) N (t+1)=va v f N L K (t+1)*(v*dd v f t*(1-f t)):=by
  rcases Nat.lt_or_ge (t+1) N with h|h
  ·
   have:=Pw (L:=L) (K:=K) (N:=N) (hN.2 (t+1) h);rw[<-this,e2]
  ·rw[fF _ h,sP h];grind
 rw[h1,e1] at h0
 generalize va v f N L K t=x at*
 generalize va v f N L K (t+1)=y at*
 generalize dd v f t=d at*
 have h2:(x-L t)*d=(y*(1-f t)+K t*f t)*v*d:=by grind
 have h3:x-L t=(y*(1-f t)+K t*f t)*v:=by
  have:(x-L t-(y*(1-f t)+K t*f t)*v)*d=0:=by grind
  rcases Rat.mul_eq_zero.1 this with h|h
  ·grind
  ·exact absurd h hd
 rw[h3]
 have:(y*(1-f t)+K t*f t)*v*(1+i)=(y*(1-f t)+K t*f t)*(v*(1+i)):=by grind
 rw[this,hi];grind
def mU (m:Nat)(p:Rat)(n:Nat):Rat:=if n<m then p else 0
end
section

section
variable {v:Rat} {f L K:Nat->Rat} {N B A q:Nat} (hv:xj v) (hf:sN f N) (hL:Pm B q L) (hK:Pm A 1 K) (yy:0<q) (hq:q<=aj^4) (JT:0<B) (hB:N*(B+A)<=aj^6) (Kq:0<N)
include hv hf hL hK yy hq JT hB Kq
theorem ag3 {k:Nat}(hk:k<=N):fl (sf (yr v f L K) N k)<=3*N+11:=by
 obtain⟨h1,h2,h3⟩:=aa6 hv hf hL hK hk;have hE:=uJ hv hf N (Nat.le_refl N);refine Nat.le_trans (jl (k:=6) (j:=4+3*N) (Nat.mul_pos yy (oK v f N)) h3 h1 h2 (Nat.mul_pos Kq (by omega)) hB ?_) (by omega);rw[Nat.pow_add];exact Nat.mul_le_mul hq hE
theorem ag4 {k:Nat}(hk:k<N):fl (yr v f L K k)<=3*N+11:=by
 obtain⟨h1,h2,h3⟩:=zu hv hf hL hK hk;have hE:=uJ hv hf N (Nat.le_refl N);have DV:B+A<=aj^6:=Nat.le_trans (Nat.le_mul_of_pos_left _ Kq) hB;refine Nat.le_trans (jl (k:=6) (j:=4+3*N) (Nat.mul_pos yy (oK v f N)) h3 h1 h2 (by omega) DV ?_) (by omega);rw[Nat.pow_add];exact Nat.mul_le_mul hq hE
end
theorem sY {v:Rat}{f L:Nat->Rat}{N B q:Nat}(hv:xj v)(hf:sN f N)(hL:Pm B q L)(yy:0<q)(hq:q<=aj^4)(JT:0<B)(hB:B<=aj^6){k:Nat}(hk:k<N):
  fl (L k)<=11/\fl (L k*dd v f k)<=3*N+11/\fl (L k*cc v f k)<=3*N+11:=by
 obtain⟨l1,l2,l3⟩:=hL k;obtain⟨d1,d2⟩:=pT hv hf k (Nat.le_of_lt hk);obtain⟨c1,c2⟩:=wQ hv hf hk;have e:=jk l1 l2 (K:=1) (by grind) d2;have g:=jk l1 l2 (K:=1) (by grind) c2;rw[Rat.mul_one] at e g;have hE:=uJ hv hf N (Nat.le_refl N)
 have OI:q*dE v f N<=aj^(4+3*N):=by rw[Nat.pow_add];exact Nat.mul_le_mul hq hE
 have hp:=Nat.mul_pos yy (oK v f N);refine⟨Nat.le_trans (jl (k:=6) (j:=4) yy l3 l1 l2 JT hB hq) (by omega),Nat.le_trans (jl hp ((l3.mul (wP v f k)).more (Nat.mul_dvd_mul_left q (lf v f (Nat.le_of_lt hk)))) e.1 e.2 JT hB OI) (by omega),Nat.le_trans (jl hp ((l3.mul (Ig v f k)).more (Nat.mul_dvd_mul_left q (lf v f hk))) g.1 g.2 JT hB OI) (by omega)⟩
def jR (l:Nat->Int)(n k:Nat):Rat:=if k<n then(l k:Rat) else 0
theorem Ft {l:Nat->Int}{n M:Nat}(h:∀k,k<n->0<=l k/\l k<=(M:Int)):Pm M 1 (jR l n):=fun k=>by
 have h0:(0:Rat)<=(M:Rat):=by exact_mod_cast Nat.zero_le M
 unfold jR
 split
 ·
  rename_i hk;obtain⟨h1,h2⟩:=h k hk
  have e1:(0:Rat)<=(l k:Rat):=by exact_mod_cast h1
  have e2:(l k:Rat)<=(M:Rat):=by exact_mod_cast h2
  exact⟨by grind,e2,Dv.int _⟩
 ·exact⟨by grind,h0,Dv.int 0⟩
theorem aa7 {m M q:Nat}{p:Rat}(h0:0<=p)(h1:p<=(M:Rat))(hd:Dv p q):Pm M q (mU m p):=fun k=>by
 have hM:(0:Rat)<=(M:Rat):=by exact_mod_cast Nat.zero_le M
 unfold mU
 split
 ·exact⟨by grind,h1,hd⟩
 ·exact⟨by grind,hM,(Dv.int 0).more (Nat.one_dvd _)⟩
theorem aa8 {B M q:Nat}{L P:Nat->Rat}(hL:Pm B 1 L)(hP:Pm M q P):Pm (B+M) q (fun k=>L k-P k):=fun k=>by
 obtain⟨a1,a2,a3⟩:=hL k;obtain⟨b1,b2,b3⟩:=hP k;have e:((B+M:Nat):Rat)=(B:Rat)+(M:Rat):=Rat.natCast_add ..;rw[e];exact⟨by grind,by grind,(a3.more (Nat.one_dvd _)).sub b3⟩
end
section

def p4 (v a u p l d i j q n m:Rat):Nat->Rat
 |0=>n*v
 |1=>n*p
 |2=>n*l
 |3=>n*(v+p-l)*j
 |4=>m*d
 |5=>(n-m)*u
 |6=>n*((v+p-l)*(1+i)-v)
 |7=>n*(v+p-l)*(j-i)
 |8=>(n*q-m)*(d-a)
 |_=>(n-m)*a-(n-m)*u
def fI (x:Nat->Rat):Rat:=x 0+x 1-x 2+x 3-x 4-x 5
section
variable {v a u p l d i j q n m:Rat} (h:(v+p-l)*(1+i)=q*d+(1-q)*a)
include h
theorem TD :fI (p4 v a u p l d i j q n m)=p4 v a u p l d i j q n m 7+p4 v a u p l d i j q n m 8+p4 v a u p l d i j q n m 9:=by
 have e:n*((v+p-l)*(1+i))=n*(q*d+(1-q)*a):=by rw[h]
 unfold fI p4
 grind
omit h in
theorem NM :p4 v a a p l d i i q n m 7=0/\p4 v a a p l d i i q n m 9=0:=by
 unfold p4
 constructor<;>grind
omit h in
theorem aat (hq:q*n=m):p4 v a u p l d i j q n m 8=0:=by
 unfold p4
 grind
omit h in
theorem Tr :p4 v a u p l d i i q n m 6=p4 v a u p l d i i q n m 1+p4 v a u p l d i i q n m 3-p4 v a u p l d i i q n m 2:=by
 unfold p4
 grind
omit h in
theorem Tn (k:Nat):p4 v a u p l d i j q (2*n) (2*m) k=p4 v a u p l d i j q n m k+p4 v a u p l d i j q n m k:=by
 rcases k with _|_|_|_|_|_|_|_|_|k<;>simp only[p4]<;>grind
end
end
section

def spt (f:Nat->Rat):Nat->Nat->Nat
 |0,_=>1
 |m+1,k=>spt f m (k+1)*(f k).den
def sp (f:Nat->Rat)(N k:Nat):Nat:=spt f (N-k) k
theorem Px (f:Nat->Rat){N k:Nat}(h:N<=k):sp f N k=1:=by
 unfold sp;rw[Nat.sub_eq_zero_of_le h];rfl
theorem zv (f:Nat->Rat){N k:Nat}(h:k<N):sp f N k=sp f N (k+1)*(f k).den:=by
 unfold sp
 obtain⟨m,hm⟩:∃m,N-k=m+1:=⟨N-k-1,by omega⟩
 rw[hm,show N-(k+1)=m by omega];rfl
theorem EO (f:Nat->Rat)(N k:Nat):0<sp f N k:=by
 unfold sp;generalize N-k=m
 induction m generalizing k with
 |zero=>simp[spt]
 |succ m ih=>exact Nat.mul_pos (ih (k+1)) (f k).den_pos
theorem Py (f:Nat->Rat)(N:Nat):∀k,sp f N k∣sp f N 0
 |0=>Nat.dvd_refl _
 |k+1=>by
  rcases Nat.lt_or_ge k N with h|h
  ·exact Nat.dvd_trans ⟨(f k).den,zv f h⟩ (Py f N k)
  ·rw[Px f (by omega)];exact Nat.one_dvd _
theorem Oe {f:Nat->Rat}{N:Nat}(h:sN f N):∀k,k<=N->sp f N k<=aj^(N-k):=
 oJ (by rw[Px f (Nat.le_refl _),Nat.sub_self];simp) fun k hk ih=>by
  rw[zv f hk,show N-k=(N-(k+1))+1 by omega,Nat.pow_succ];exact Nat.mul_le_mul ih (Nat.le_of_lt (h k hk).2.2)
def Sz (D M:Nat)(q:Rat):Prop:=Dv q D/\-(M:Rat)<=q/\q<=(M:Rat)
section
variable {D E M K:Nat} {a b:Rat}
theorem Sz.more (h:Sz D M a)(hd:D∣E)(hm:M<=K):Sz E K a:=by
 have:(M:Rat)<=(K:Rat):=by exact_mod_cast hm
 exact⟨h.1.more hd,by have:=h.2.1;grind,by have:=h.2.2;grind⟩
theorem Sz.add (h:Sz D M a)(k:Sz D K b):Sz D (M+K) (a+b):=by
 have e:((M+K:Nat):Rat)=(M:Rat)+(K:Rat):=Rat.natCast_add ..;have s:=Ii h.2.1 h.2.2 k.2.1 k.2.2;exact⟨h.1.add k.1,by rw[e];exact s.1,by rw[e];exact s.2⟩
theorem Sz.neg (h:Sz D M a):Sz D M (-a):=⟨h.1.neg,by have:=h.2.2;grind,by have:=h.2.1;grind⟩
theorem Sz.sub (h:Sz D M a)(k:Sz D K b):Sz D (M+K) (a-b):=by
 have:=h.add k.neg
 rwa [show a+-b=a-b by grind] at this
theorem Sz.mul (h:Sz D M a)(k:Sz E K b):Sz (D*E) (M*K) (a*b):=by
 have e:((M*K:Nat):Rat)=(M:Rat)*(K:Rat):=Rat.natCast_mul ..;have s:=jk h.2.1 h.2.2 k.2.1 k.2.2;exact⟨h.1.mul k.1,by rw[e];exact s.1,by rw[e];exact s.2⟩
theorem Sz.int (z:Int){M:Nat}(h:z.natAbs<=M):Sz 1 M (z:Rat):=by
 obtain⟨h1,h2,-⟩:=Ql.int z h;exact⟨Dv.int z,h1,h2⟩
theorem Sz.fl {k j:Nat}(h:Sz D M a)(hD:0<D)(h0:0<M)(hM:M<=aj^k)(hj:D<=aj^j):fl a<=k+j+1:=jl hD h.1 h.2.1 h.2.2 h0 hM hj
end
section
variable {v i:Rat} {f L K:Nat->Rat} {N B A q:Nat} (hv:xj v) (hf:sN f N) (hL:Pm B q L) (hK:Pm A 1 K) (hN:kH v f N) (hi:v*(1+i)=1)
include hv hf hL hK hN hi
theorem aa9 :∀t,t<=N->Sz (q*(v.den^(N-t)*sp f N t)) ((N-t)*(B+A)) (va v f N L K t):=
 oJ (by
  rw[sP (Nat.le_refl N),Nat.sub_self,Nat.zero_mul]
  exact⟨⟨0,by simp⟩,by simp,by simp⟩) fun t ht ih=>by
  obtain⟨l1,l2,l3⟩:=hL t;obtain⟨k1,k2,k3⟩:=hK t;obtain⟨f1,f2,f3⟩:=hf t ht;obtain⟨v1,v2,v3⟩:=hv;obtain⟨y1,y2,y3⟩:=ih;have h0:=G8 (L:=L) (K:=K) hN hi ht
  generalize va v f N L K (t+1)=y at*
  have e:va v f N L K t=L t+v*(f t*K t+(1-f t)*y):=by
   rw[<-h0]
   have:v*((va v f N L K t-L t)*(1+i))=(va v f N L K t-L t)*(v*(1+i)):=by grind
   rw[this,hi];grind
  rw[e]
  have eN:N-t=(N-(t+1))+1:=by omega
  rw[eN,Nat.pow_succ,zv f ht]
  generalize N-(t+1)=m at*
  have hd:(q*(v.den^m*v.den*(sp f N (t+1)*(f t).den)))=v.den*((f t).den*(q*(v.den^m*sp f N (t+1)))):=by
   simp only[Nat.mul_assoc,Nat.mul_comm,Nat.mul_left_comm]
  refine⟨?_, ?_⟩
  ·
   rw[hd];refine(l3.more ?_).add ((Dv.self v).mul ((((Dv.self (f t)).mul k3).more ?_).add ((((Dv.int 1).more (Nat.one_dvd _)).sub (Dv.self (f t))).mul y1)))
   ·exact Nat.dvd_trans (Nat.dvd_mul_right q (v.den^m*sp f N (t+1))) (Nat.dvd_trans (Nat.dvd_mul_left _ _) (Nat.dvd_mul_left _ _))
   ·rw[Nat.mul_one];exact Nat.dvd_mul_right _ _
  ·
   have hm0:(0:Rat)<=((m*(B+A):Nat):Rat):=by exact_mod_cast Nat.zero_le _
   have zR:(0:Rat)<=(A:Rat):=by exact_mod_cast Nat.zero_le _
   have e2:(((m+1)*(B+A):Nat):Rat)=((m*(B+A):Nat):Rat)+(B:Rat)+(A:Rat):=by rw[Nat.succ_mul,Rat.natCast_add,Rat.natCast_add];grind
   rw[e2]
   generalize ((m*(B+A):Nat):Rat)=R at*
   have p1:=jk (M:=1) (K:=A) (a:=f t) (b:=K t) (by grind) f2 k1 k2
   have p2:-R<=(1-f t)*y/\(1-f t)*y<=R:=by
    have:=jk (M:=1) (K:=R) (a:=1-f t) (b:=y) (by grind) (by grind) y2 y3;rw[Rat.one_mul] at this;exact this
   have p3:=jk (M:=1) (K:=A+R) (a:=v) (b:=f t*K t+(1-f t)*y) (by grind) v2 (by grind) (by grind);rw[Rat.one_mul] at p3
   constructor<;>grind
theorem WL {M:Nat}(hM:N<=M)(t:Nat):Sz (q*(v.den^M*sp f N 0)) (N*(B+A)) (va v f N L K t):=by
 rcases Nat.lt_or_ge t N with h|h
 ·refine(aa9 hv hf hL hK hN hi t (Nat.le_of_lt h)).more (Nat.mul_dvd_mul_left q (Nat.mul_dvd_mul (Nat.pow_dvd_pow _ (by omega)) (Py f N t))) (Nat.mul_le_mul_right _ (Nat.sub_le _ _))
 ·
  rw[sP h]
  have:(0:Rat)<=((N*(B+A):Nat):Rat):=by exact_mod_cast Nat.zero_le _
  exact⟨⟨0,by simp⟩,by grind,this⟩
end
structure ItL (v a u p l d i j q n m:Rat):Prop where
 l1:fl v<=256
 l2:fl a<=256
 l3:fl u<=256
 l4:fl p<=256
 l5:fl l<=256
 l6:fl d<=256
 l7:fl i<=256
 l8:fl j<=256
 l9:fl q<=256
 b1:fl (v+p)<=256
 b2:fl (v+p-l)<=256
 b3:fl (n*(v+p-l))<=256
 b4:fl (1+i)<=256
 b5:fl ((v+p-l)*(1+i))<=256
 b6:fl ((v+p-l)*(1+i)-v)<=256
 b7:fl (j-i)<=256
 b8:fl (n*q)<=256
 b9:fl (n*q-m)<=256
 c1:fl (d-a)<=256
 c2:fl ((n-m)*a)<=256
 c3:fl ((n-m)*u)<=256
 it:∀k,fl (p4 v a u p l d i j q n m k)<=256
theorem Og {v a u p l d i j q n m:Rat}{Vo Vn Di Dj Q So Sn Dq:Nat}(hv:Sz (Q*(Vo*So)) (aj^5) v)(ha:Sz (Q*(Vo*So)) (aj^5) a)(hu:Sz (Q*(Vn*Sn)) (aj^5) u)
  (hp:Sz Q (aj^4) p) (hl:Sz 1 (aj^3) l) (hd:Sz 1 (aj^3) d) (hi:Sz Di aj i) (hj:Sz Dj aj j) (hq:Sz Dq 1 q) (hn:Sz 1 (aj^3) n) (hm:Sz 1 (aj^3) m) (hnm:Sz 1 (aj^3) (n-m)):
  let D:=(Vo*Vn*(Di*Dj))*(Q*So*Sn*Dq)
  Sz D (aj^5) v/\Sz D (aj^5) a/\Sz D (aj^5) u/\Sz D (aj^4) p/\Sz D (aj^3) l/\Sz D (aj^3) d/\Sz D aj i/\Sz D aj j/\Sz D 1 q/\
  Sz D (2*aj^5) (v+p)/\Sz D (3*aj^5) (v+p-l)/\Sz D (3*aj^8) (n*(v+p-l))/\Sz D (2*aj) (1+i)/\Sz D (6*aj^6) ((v+p-l)*(1+i))/\Sz D (7*aj^6) ((v+p-l)*(1+i)-v)/\Sz D (2*aj) (j-i)/\
  Sz D (aj^3) (n*q)/\Sz D (2*aj^3) (n*q-m)/\Sz D (2*aj^5) (d-a)/\Sz D (aj^8) ((n-m)*a)/\Sz D (aj^8) ((n-m)*u)/\∀k,Sz D (aj^10) (p4 v a u p l d i j q n m k):=by
 intro D;have B1:aj=65536:=rfl;have dv:Q*(Vo*So)∣D:=⟨Vn*(Di*Dj)*(Sn*Dq),by simp only[D,Nat.mul_assoc,Nat.mul_comm,Nat.mul_left_comm]⟩;have dn:Q*(Vn*Sn)∣D:=⟨Vo*(Di*Dj)*(So*Dq),by simp only[D,Nat.mul_assoc,Nat.mul_comm,Nat.mul_left_comm]⟩;have dvi:Q*(Vo*So)*Di∣D:=⟨Vn*Dj*(Sn*Dq),by simp only[D,Nat.mul_assoc,Nat.mul_comm,Nat.mul_left_comm]⟩;have dvj:Q*(Vo*So)*Dj∣D:=⟨Vn*Di*(Sn*Dq),by simp only[D,Nat.mul_assoc,Nat.mul_comm,Nat.mul_left_comm]⟩;have anP:Q*(Vo*So)*(Di*Dj)∣D:=⟨Vn*(Sn*Dq),by simp only[D,Nat.mul_assoc,Nat.mul_comm,Nat.mul_left_comm]⟩;have dij:Di*Dj∣D:=Nat.dvd_trans (Nat.dvd_mul_left _ _) (Nat.dvd_mul_right _ _);have dvq:Dq*(Q*(Vo*So))∣D:=⟨Vn*(Di*Dj)*Sn,by simp only[D,Nat.mul_assoc,Nat.mul_comm,Nat.mul_left_comm]⟩;have dq:Dq∣D:=Nat.dvd_trans (Nat.dvd_mul_right _ _) dvq;have dQ:Q∣D:=Nat.dvd_trans (Nat.dvd_mul_right _ _) dv;have di:Di∣D:=Nat.dvd_trans (Nat.dvd_mul_right _ _) dij;have dj:Dj∣D:=Nat.dvd_trans (Nat.dvd_mul_left _ _) dij;have one:Sz 1 1 (1:Rat):=Sz.int 1 (by decide);have q1:Q∣Q*(Vo*So):=Nat.dvd_mul_right _ _
 have w1:∀{E:Nat},1∣E:=Nat.one_dvd _
 -- what has the aiU UZ
 have s1:Sz (Q*(Vo*So)) (2*aj^5) (v+p):=(hv.add (hp.more q1 (Nat.le_refl _))).more (Nat.dvd_refl _) (by rw[B1];decide);have s2:Sz (Q*(Vo*So)) (3*aj^5) (v+p-l):=(s1.sub (hl.more w1 (Nat.le_refl _))).more (Nat.dvd_refl _) (by rw[B1];decide);have s3:Sz (Q*(Vo*So)) (3*aj^8) (n*(v+p-l)):=(hn.mul s2).more (by rw[Nat.one_mul];exact Nat.dvd_refl _) (by rw[B1];decide);have s4:Sz Di (2*aj) (1+i):=((one.more w1 (Nat.le_refl _)).add hi).more (Nat.dvd_refl _) (by rw[B1];decide);have s5:Sz (Q*(Vo*So)*Di) (6*aj^6) ((v+p-l)*(1+i)):=(s2.mul s4).more (Nat.dvd_refl _) (by rw[B1];decide);have s6:Sz (Q*(Vo*So)*Di) (7*aj^6) ((v+p-l)*(1+i)-v):=(s5.sub (hv.more (Nat.dvd_mul_right _ _) (Nat.le_refl _))).more (Nat.dvd_refl _) (by rw[B1];decide);have s7:Sz (Di*Dj) (2*aj) (j-i):=((hj.more (Nat.dvd_mul_left _ _) (Nat.le_refl _)).sub (hi.more (Nat.dvd_mul_right _ _) (Nat.le_refl _))).more (Nat.dvd_refl _) (by rw[B1];decide);have s8:Sz Dq (aj^3) (n*q):=(hn.mul hq).more (by rw[Nat.one_mul];exact Nat.dvd_refl _) (by rw[B1];decide);have s9:Sz Dq (2*aj^3) (n*q-m):=(s8.sub (hm.more w1 (Nat.le_refl _))).more (Nat.dvd_refl _) (by rw[B1];decide);have t1:Sz (Q*(Vo*So)) (2*aj^5) (d-a):=((hd.more w1 (Nat.le_refl _)).sub ha).more (Nat.dvd_refl _) (by rw[B1];decide);have t2:Sz (Q*(Vo*So)) (aj^8) ((n-m)*a):=(hnm.mul ha).more (by rw[Nat.one_mul];exact Nat.dvd_refl _) (by rw[B1];decide);have t3:Sz (Q*(Vn*Sn)) (aj^8) ((n-m)*u):=(hnm.mul hu).more (by rw[Nat.one_mul];exact Nat.dvd_refl _) (by rw[B1];decide)
 refine⟨hv.more dv (Nat.le_refl _),ha.more dv (Nat.le_refl _),hu.more dn (Nat.le_refl _),hp.more dQ (Nat.le_refl _),hl.more w1 (Nat.le_refl _),hd.more w1 (Nat.le_refl _),hi.more di (Nat.le_refl _),hj.more dj (Nat.le_refl _),hq.more dq (Nat.le_refl _),
  s1.more dv (Nat.le_refl _),s2.more dv (Nat.le_refl _),s3.more dv (Nat.le_refl _),s4.more di (Nat.le_refl _),s5.more dvi (Nat.le_refl _),s6.more dvi (Nat.le_refl _),s7.more dij (Nat.le_refl _),s8.more dq (Nat.le_refl _),s9.more dq (Nat.le_refl _),t1.more dv (Nat.le_refl _),t2.more dv (Nat.le_refl _),t3.more dn (Nat.le_refl _),fun k=> ?_⟩
 rcases k with _|_|_|_|_|_|_|_|_|k<;>simp only[p4]
 ·exact(hn.mul hv).more (by rw[Nat.one_mul];exact dv) (by rw[B1];decide)
 ·exact(hn.mul hp).more (by rw[Nat.one_mul];exact dQ) (by rw[B1];decide)
 ·exact(hn.mul hl).more (by rw[Nat.one_mul];exact w1) (by rw[B1];decide)
 ·exact(s3.mul hj).more dvj (by rw[B1];decide)
 ·exact(hm.mul hd).more (by rw[Nat.one_mul];exact w1) (by rw[B1];decide)
 ·exact t3.more dn (by rw[B1];decide)
 ·exact(hn.mul s6).more (by rw[Nat.one_mul];exact dvi) (by rw[B1];decide)
 ·exact(s3.mul s7).more anP (by rw[B1];decide)
 ·exact(s9.mul t1).more dvq (by rw[B1];decide)
 ·exact((t2.more dv (Nat.le_refl _)).sub (t3.more dn (Nat.le_refl _))).more (Nat.dvd_refl _) (by rw[B1];decide)
end
section

theorem sN.less {f:Nat->Rat}{N M:Nat}(h:sN f N)(hM:M<=N):sN f M:=fun i hi=>h i (by omega)
structure abb (v:Rat)(f L K:Nat->Rat)(N:Nat):Prop where
 d:∀k,k<N->fl (dd v f k)<=256
 c:∀k,k<N->fl (cc v f k)<=256
 l:∀k,k<N->fl (L k)<=256
 k:∀k,k<N->fl (K k)<=256
 ld:∀k,k<N->fl (L k*dd v f k)<=256
 kc:∀k,k<N->fl (K k*cc v f k)<=256
 y:∀k,k<N->fl (yr v f L K k)<=256
 s:∀t j,j<=N->fl (sf (yr v f L K) j t)<=256
 a:∀t,fl (va v f N L K t)<=256
theorem ag5 {v i:Rat}{f L K:Nat->Rat}{N B A q:Nat}(hv:xj v)(hf:sN f N)(hL:Pm B q L)(hK:Pm A 1 K)(hN:kH v f N)(hi:v*(1+i)=1)(kM:N<=80)
  (yy:0<q) (hq:q<=aj^4) (JT:0<B) (zR:0<A) (hB:B<=aj^5) (hA:A<=aj^5):abb v f L K N:=by
 have hsum:∀j,j<=80->j*(B+A)<=aj^6:=fun j hj=>by
  have h1:j*(B+A)<=80*(aj^5+aj^5):=Nat.mul_le_mul hj (Nat.add_le_add hB hA);exact Nat.le_trans h1 (by decide)
 have Kq:0<N:=hN.pos
 have b6:aj^5<=aj^6:=by decide
 have f0:fl (0:Rat)<=256:=by decide
 refine⟨fun k hk=>(FO hv hf (Nat.le_of_lt hk)).l (by decide) (by decide) (by omega),fun k hk=>(KE hv hf hk).l (by decide) (by decide) (by omega),fun k hk=> ?_,fun k hk=> ?_,fun k hk=> ?_,fun k hk=> ?_,fun k hk=> ?_,fun t j hj=> ?_,fun t=> ?_⟩
 ·exact Nat.le_trans (sY hv hf hL yy hq JT (Nat.le_trans hB b6) hk).1 (by decide)
 ·exact Nat.le_trans (sY hv hf hK (by decide) (by decide) zR (Nat.le_trans hA b6) hk).1 (by decide)
 ·exact Nat.le_trans (sY hv hf hL yy hq JT (Nat.le_trans hB b6) hk).2.1 (by omega)
 ·exact Nat.le_trans (sY hv hf hK (by decide) (by decide) zR (Nat.le_trans hA b6) hk).2.2 (by omega)
 ·exact Nat.le_trans (ag4 hv hf hL hK yy hq JT (hsum N kM) Kq hk) (by omega)
 ·
  rcases Nat.lt_or_ge t j with h|h
  ·exact Nat.le_trans (ag3 hv (hf.less hj) hL hK yy hq JT (hsum j (by omega)) (by omega) (Nat.le_of_lt h)) (by omega)
  ·rw[fF _ h];exact f0
 ·
  have h:=WL hv hf hL hK hN hi (Nat.le_refl N) t;have hp:0<q*(v.den^N*sp f N 0):=Nat.mul_pos yy (Nat.mul_pos (Nat.pow_pos v.den_pos) (EO f N 0))
  have h1:v.den^N<=aj^(2*N):=by
   rw[Nat.pow_mul];exact Nat.pow_le_pow_left hv.2.2 N
  have h2:=Oe hf 0 (Nat.zero_le N);rw[Nat.sub_zero] at h2
  have h3:q*(v.den^N*sp f N 0)<=aj^(4+(2*N+N)):=by
   rw[Nat.pow_add,Nat.pow_add];exact Nat.mul_le_mul hq (Nat.mul_le_mul h1 h2)
  exact Nat.le_trans (h.fl hp (Nat.mul_pos Kq (by omega)) (hsum N kM) h3) (by omega)
end
end Go.Proofs.YtclbiihcbfnjmaaGreat
