/-
  Parts.
-/
import Derived.Test.YtclbiihcbfnjmaaGreatK17
set_option maxRecDepth 100000
namespace Go.Proofs.YtclbiihcbfnjmaaGreat
section
open Go.ChangeShapes Go.WideShapes Go.ChangeAt Go.RowKit Go.Deep

theorem Hh : Tryz.prog.cellsOf 31=7:=by kernel_rfl
theorem Su : Tryz.prog.cellsOf 3=1:=by kernel_rfl
theorem rH {α:Type}{l:List α}(h:l.length=3):∃a b c,l=[a,b,c]:=by
 match l,h with
 |[a,b,c],_=>exact⟨a,b,c,rfl⟩
theorem BV {α:Type}{l:List α}(h:l.length=7):∃a b c d e f g,l=[a,b,c,d,e,f,g]:=by
 match l,h with
 |[a,b,c,d,e,f,g],_=>exact⟨a,b,c,d,e,f,g,rfl⟩
section
variable {H:Type} {enc:TypeId×Value->H} {W:World}
theorem ua {fuel:Nat}{cs:List Value}{x:DataW H×List MemPlace}(h:DataW.trod enc Tryz.prog W 0 (fun _=>true) true fuel 24 cs=some x):
  ∃F S A n c r,cs=[.int .i64 F,.int .i64 S,.slice A n c]/\eZ W A n r:=by
 obtain⟨xs,k,-,-,hl,hx,hi⟩:=nk Tryz.underlying24 h;obtain⟨c0,c1,c2,rfl⟩:=rH (hl.trans GZ);obtain⟨x0,x1,x2,rfl⟩:=rH hx;have h0:DataW.trod enc Tryz.prog W 0 (fun _=>true) true k 3 (([c0,c1,c2].drop 0).take (Tryz.prog.cellsOf 3))=some x0:=hi 0 _ rfl;have h1:DataW.trod enc Tryz.prog W 0 (fun _=>true) true k 3 (([c0,c1,c2].drop 1).take (Tryz.prog.cellsOf 3))=some x1:=hi 1 _ rfl;have h2:DataW.trod enc Tryz.prog W 0 (fun _=>true) true k 22 (([c0,c1,c2].drop 2).take (Tryz.prog.cellsOf 22))=some x2:=hi 2 _ rfl;rw[Su] at h0 h1;rw[show Tryz.prog.cellsOf 22=1 by kernel_rfl] at h2;simp only[List.drop_zero,List.take_succ_cons,List.take_zero,List.drop_succ_cons] at h0 h1 h2;obtain⟨F,e0,-,hF⟩:=kL Tryz.underlying3 h0;obtain⟨S,e1,-,hS⟩:=kL Tryz.underlying3 h1;obtain⟨A,n,c,r,e2,hr⟩:=LO h2
 injection e0 with e0
 injection e1 with e1
 injection e2 with e2
 exact⟨F,S,A,n,c,r,by rw[e0,e1,e2],hr⟩
theorem Hi {b0:Nat}{v:Value}{d:DataW H}{p:List MemPlace}(hv:Value.okWide Tryz.prog W .any b0 31 v)(h:DataW.Trod enc Tryz.prog W 0 (fun _=>true) true 31 v d p):
  ∃F S A n c r s Ai ni ci fi t Bi mi di gi,v= .agg #[.int .i64 F,.int .i64 S,.slice A n c,.bool s,.slice Ai ni ci,.bool t,.slice Bi mi di]/\eZ W A n r/\kA W Ai ni fi Bi mi gi:=by
 obtain⟨cs,rfl,-⟩:=okWide_struct Tryz.underlying31 hv;obtain⟨fuel,hf⟩:=h;have hf2:DataW.trod enc Tryz.prog W 0 (fun _=>true) true fuel 31 cs.toList=some (d,p):=hf;obtain⟨xs,k,-,-,hl,hx,hi⟩:=nk Tryz.underlying31 hf2;obtain⟨c0,c1,c2,c3,c4,c5,c6,hcs⟩:=BV (hl.trans Hh);obtain⟨x0,x1,rfl⟩:=jq hx;rw[hcs] at hi;have h0:DataW.trod enc Tryz.prog W 0 (fun _=>true) true k 24 (([c0,c1,c2,c3,c4,c5,c6].drop 0).take (Tryz.prog.cellsOf 24))=some x0:=hi 0 _ rfl;have h1:DataW.trod enc Tryz.prog W 0 (fun _=>true) true k 29 (([c0,c1,c2,c3,c4,c5,c6].drop 3).take (Tryz.prog.cellsOf 29))=some x1:=hi 1 _ rfl;rw[GZ] at h0;rw[wC] at h1;simp only[List.drop_zero,List.take_succ_cons,List.take_zero,List.drop_succ_cons] at h0 h1;obtain⟨F,S,A,n,c,r,e0,hT⟩:=ua h0;obtain⟨⟨s,Ai,ni,ci,fi,t,Bi,mi,di,gi⟩,e1,hq⟩:=fO h1;simp only[List.cons.injEq,and_true] at e0 e1;obtain⟨rfl,rfl,rfl⟩:=e0;obtain⟨rfl,rfl,rfl,rfl⟩:=e1;refine⟨F,S,A,n,c,r,s,Ai,ni,ci,fi,t,Bi,mi,di,gi, ?_,hT,hq⟩;rw[show cs=#[.int .i64 F,.int .i64 S,.slice A n c,.bool s,.slice Ai ni ci,.bool t,.slice Bi mi di] from Array.toList_inj.1 hcs]
end
end
section

def dd (v:Rat)(f:Nat->Rat):Nat->Rat
 |0=>1
 |k+1=>v*dd v f k-v*dd v f k*f k
def cc (v:Rat)(f:Nat->Rat)(k:Nat):Rat:=v*dd v f k*f k
def tl (g:Nat->Rat):Nat->Nat->Rat
 |0,_=>0
 |m+1,k=>tl g m (k+1)+g k
def sf (g:Nat->Rat)(N k:Nat):Rat:=tl g (N-k) k
theorem gP (g:Nat->Rat){N k:Nat}(h:N<=k):sf g N k=0:=by
 unfold sf;rw[Nat.sub_eq_zero_of_le h];rfl
theorem bZ (g:Nat->Rat){N k:Nat}(h:k<N):sf g N k=sf g N (k+1)+g k:=by
 unfold sf
 obtain⟨m,hm⟩:∃m,N-k=m+1:=⟨N-k-1,by omega⟩
 rw[hm,show N-(k+1)=m by omega];rfl
theorem qz {P:Nat->Prop}{N:Nat}(hN:P N)(hs:∀k,k<N->P (k+1)->P k):∀k,k<=N->P k:=by
 have:∀m k,k+m=N->P k:=fun m=>by
  induction m with
  |zero=>
   intro k hk
   obtain rfl:k=N:=by omega
   exact hN
  |succ m ih=>intro k hk;exact hs k (by omega) (ih (k+1) (by omega))
 exact fun k hk=>this (N-k) k (by omega)
theorem Qa {g h:Nat->Rat}{N:Nat}(e:∀j,j<N->g j=h j):∀k,k<=N->sf g N k=sf h N k:=
 qz (by rw[gP _ (aq _),gP _ (aq _)]) fun k hk ih=>by rw[bZ g hk,bZ h hk,ih,e k hk]
theorem EF {g:Nat->Rat}{N:Nat}{B:Rat}(h:∀j,j<N->0<=g j/\g j<=B)(_:0<=B):∀k,k<=N->0<=sf g N k/\sf g N k<=(((N-k:Nat):Rat))*B:=
 qz (by rw[gP _ (aq _),Nat.sub_self];exact⟨by grind,by simp⟩) fun k hk ih=>by
  obtain⟨a,b⟩:=h k hk;rw[bZ g hk]
  obtain⟨m,hm⟩:∃m,N-k=m+1:=⟨N-k-1,by omega⟩
  rw[show N-(k+1)=m by omega] at ih;rw[hm]
  have e:((m+1:Nat):Rat)=(m:Rat)+1:=by push_cast;rfl
  rw[e];exact⟨by grind,by grind⟩
theorem Sv {g:Nat->Rat}{N E:Nat}(h:∀j,j<N->Dv (g j) E):∀k,k<=N->Dv (sf g N k) E:=
 qz (by rw[gP _ (aq _)];exact⟨0,by simp⟩) fun k hk ih=>by rw[bZ g hk];exact ih.add (h k hk)
def zh (v:Rat):Prop:=0<v/\v<=1/\v.den<=ai^2
def dE (v:Rat)(f:Nat->Rat):Nat->Nat
 |0=>1
 |k+1=>v.den*dE v f k*(f k).den
theorem oP (v:Rat)(f:Nat->Rat)(k:Nat):dd v f (k+1)=v*dd v f k*(1-f k):=by simp only[dd];grind
theorem yO (v:Rat)(f:Nat->Rat):∀k,Dv (dd v f k) (dE v f k)
 |0=>⟨1,by simp[dd,dE]⟩
 |k+1=>by rw[oP];exact((Dv.self v).mul (yO v f k)).mul (((Dv.int 1).more (Nat.one_dvd _)).sub (Dv.self (f k)))
theorem JZ (v:Rat)(f:Nat->Rat)(k:Nat):Dv (cc v f k) (dE v f (k+1)):=((Dv.self v).mul (yO v f k)).mul (Dv.self (f k))
theorem nt (v:Rat)(f:Nat->Rat){j:Nat}:∀{k:Nat},j<=k->dE v f j∣dE v f k
 |0,h=>by
  obtain rfl:j=0:=by omega
  exact fB _
 |k+1,h=>by
  by_cases e:j=k+1
  ·subst e;exact fB _
  ·exact ji (nt v f (show j<=k by omega)) (ji (ow _ _) (kg _ _))
theorem qA (v:Rat)(f:Nat->Rat):∀k,0<dE v f k
 |0=>by simp[dE]
 |k+1=>dP (dP v.den_pos (qA v f k)) (f k).den_pos
theorem wG {v:Rat}{f:Nat->Rat}{n:Nat}(hv:zh v)(h:uE f n):∀k,k<=n->dE v f k<=ai^(3*k)
 |0,_=>by simp[dE]
 |k+1,hk=>by
  have h1:=wG hv h k (by omega);have h2:=bG (h k (by omega)).2.2
  have e:ai^(3*(k+1))=ai^2*ai^(3*k)*ai:=by
   rw[<-dK,<-cF]
   congr 1
   omega
  rw[e];exact dU (dU hv.2.2 h1) h2
theorem rI {v:Rat}{f:Nat->Rat}{n:Nat}(hv:zh v)(h:uE f n):∀k,k<=n->0<=dd v f k/\dd v f k<=1
 |0,_=>by simp only[dd];exact⟨by decide,by decide⟩
 |k+1,hk=>by
  obtain⟨h1,h2⟩:=rI hv h k (by omega);obtain⟨h3,h4,_⟩:=h k (by omega);obtain⟨v1,v2,_⟩:=hv;rw[oP]
  have a0:0<=1-f k:=by grind
  have v0:0<=v:=by grind
  have b0:=gW v0 h1;have c0:=gW b0 a0;have d0:=gW b0 h3;have e0:=gW (show 0<=1-v by grind) h1;exact⟨c0,by grind⟩
theorem yQ {v:Rat}{f:Nat->Rat}{n k:Nat}(hv:zh v)(h:uE f n)(hk:k<n):0<=cc v f k/\cc v f k<=1:=by
 obtain⟨h1,h2⟩:=rI hv h k (by omega);obtain⟨h5,h6⟩:=rI hv h (k+1) (by omega);obtain⟨h3,h4,_⟩:=h k hk;obtain⟨v1,v2,_⟩:=hv
 have v0:0<=v:=by grind
 have b0:=gW v0 h1;have d0:=gW b0 h3;have e0:=gW (show 0<=1-v by grind) h1;simp only[dd] at h5;unfold cc;exact⟨d0,by grind⟩
def Ql (M j:Nat)(q:Rat):Prop:=-(M:Rat)<=q/\q<=(M:Rat)/\∃D,0<D/\Dv q D/\D<=ai^j
theorem Ql.fl {M j:Nat}{q:Rat}(h:Ql M j q)(h0:0<M)(hM:M<ai):fl q<=j+1:=by
 obtain⟨h1,h2,D,hD,hd,hk⟩:=h;refine rB hD hd h1 h2 h0 ((bJ aA).2 ?_);rw[cF,bC];have hp:0<ai^j:=bM (by decide);exact eH (dV _ hk) (vR hM hp)
theorem Ql.l {M j:Nat}{q:Rat}(h:Ql M j q)(h0:0<M)(hM:M<ai)(hj:j<=255):Go.Proofs.YtclbiihcbfnjmaaGreat.fl q<=256:=ay (h.fl h0 hM) (by omega)
theorem jQ {a b:Rat}{M K:Rat}(a1:-M<=a)(a2:a<=M)(b1:-K<=b)(b2:b<=K):-(M*K)<=a*b/\a*b<=M*K:=by
 have h1:=gW (show 0<=M-a by grind) (show 0<=K-b by grind);have h2:=gW (show 0<=M-a by grind) (show 0<=K+b by grind);have h3:=gW (show 0<=M+a by grind) (show 0<=K-b by grind);have h4:=gW (show 0<=M+a by grind) (show 0<=K+b by grind);exact⟨by grind,by grind⟩
theorem Ql.mul {M K i j:Nat}{p q:Rat}(h:Ql M i p)(k:Ql K j q):Ql (M*K) (i+j) (p*q):=by
 obtain⟨h1,h2,D,hD,hd,hk⟩:=h;obtain⟨k1,k2,E,kE,kd,kk⟩:=k;obtain⟨r1,r2⟩:=jQ h1 h2 k1 k2;have e:((M*K:Nat):Rat)=(M:Rat)*(K:Rat):=mW _ _;unfold Ql;rw[e];refine⟨r1,r2,D*E,dP hD kE,hd.mul kd, ?_⟩;rw[dK];exact dU hk kk
theorem Ql.int (z:Int){M:Nat}(h:z.natAbs<=M):Ql M 0 (z:Rat):=by
 have e:((M:Int):Rat)=(M:Rat):=rfl;refine⟨?_, ?_,1,by decide,Dv.int z,by simp⟩
 ·
  rw[<-e,<-Rat.intCast_neg];exact Rat.intCast_le_intCast.2 (by omega)
 ·
  rw[<-e];exact Rat.intCast_le_intCast.2 (by omega)
theorem Ql.of {q:Rat}{E M j:Nat}(h0:0<=q)(h1:q<=(M:Rat))(hE:0<E)(hd:Dv q E)(hj:E<=ai^j):Ql M j q:=by
 have e:(0:Rat)<=(M:Rat):=Rat.natCast_nonneg;exact⟨by grind,h1,E,hE,hd,hj⟩
theorem zh.ql {v:Rat}(h:zh v):Ql 1 2 v:=by
 obtain⟨h1,h2,h3⟩:=h;exact Ql.of (by grind) (by simpa using h2) v.den_pos (Dv.self v) h3
section
variable {v:Rat} {f:Nat->Rat} {N:Nat} (hv:zh v) (hf:uE f N)
include hv hf
theorem Iu {k:Nat}(hk:k<=N):Ql 1 (3*N) (dd v f k):=
 Ql.of (rI hv hf k hk).1 (by simpa using(rI hv hf k hk).2) (qA v f N) ((yO v f k).more (nt v f hk)) (wG hv hf N (aq _))
theorem ML {k:Nat}(hk:k<N):Ql 1 (3*N) (cc v f k):=
 Ql.of (yQ hv hf hk).1 (by simpa using(yQ hv hf hk).2) (qA v f N) ((JZ v f k).more (nt v f hk)) (wG hv hf N (aq _))
theorem Ka {g:Nat->Rat}{M:Nat}(h:∀j,j<N->0<=g j/\g j<=(M:Rat)/\Dv (g j) (dE v f N)){k:Nat}(hk:k<=N):Ql (N*M) (3*N) (sf g N k):=by
 obtain⟨h1,h2⟩:=EF (fun j hj=>⟨(h j hj).1,(h j hj).2.1⟩) Rat.natCast_nonneg k hk;refine Ql.of h1 (Rat.le_trans h2 ?_) (qA v f N) (Sv (fun j hj=>(h j hj).2.2) k hk) (wG hv hf N (aq _));rw[<-mW]
 exact_mod_cast dV _ (Nat.sub_le _ _)
theorem aao :∀j,j<N->0<=dd v f j/\dd v f j<=((1:Nat):Rat)/\Dv (dd v f j) (dE v f N):=fun j hj=>
 ⟨(rI hv hf j (by omega)).1,by simpa using(rI hv hf j (by omega)).2,(yO v f j).more (nt v f (by omega))⟩
theorem aap :∀j,j<N->0<=cc v f j/\cc v f j<=((1:Nat):Rat)/\Dv (cc v f j) (dE v f N):=fun j hj=>
 ⟨(yQ hv hf hj).1,by simpa using(yQ hv hf hj).2,(JZ v f j).more (nt v f (by omega))⟩
omit hv hf in
theorem aaq {g:Nat->Rat}{M:Nat}(h:∀j,j<N->0<=g j/\g j<=(M:Rat)/\Dv (g j) (dE v f N)):∀j,j<N->0<=sf g N j/\sf g N j<=((N*M:Nat):Rat)/\Dv (sf g N j) (dE v f N):=fun j hj=>by
 obtain⟨h1,h2⟩:=EF (fun j hj=>⟨(h j hj).1,(h j hj).2.1⟩) Rat.natCast_nonneg j (by omega);refine⟨h1,Rat.le_trans h2 ?_,Sv (fun j hj=>(h j hj).2.2) j (by omega)⟩;rw[<-mW]
 exact_mod_cast dV _ (Nat.sub_le _ _)
theorem Ze {k:Nat}(hk:k<=N):Ql (N*1) (3*N) (sf (dd v f) N k):=Ka hv hf (aao hv hf) hk
theorem Zf {k:Nat}(hk:k<=N):Ql (N*1) (3*N) (sf (cc v f) N k):=Ka hv hf (aap hv hf) hk
theorem agG {k:Nat}(hk:k<=N):Ql (N*(N*1)) (3*N) (sf (sf (dd v f) N) N k):=Ka hv hf (aaq (aao hv hf)) hk
theorem agH {k:Nat}(hk:k<=N):Ql (N*(N*1)) (3*N) (sf (sf (cc v f) N) N k):=Ka hv hf (aaq (aap hv hf)) hk
end
def lT (v:Rat)(f:Nat->Rat)(N:Nat):Prop:=dd v f N=0/\∀k,k<N->dd v f k≠0
theorem lT.uniq {v:Rat}{f:Nat->Rat}{N K:Nat}(h:lT v f N)(k:lT v f K):N=K:=by
 rcases Nat.lt_trichotomy N K with g|g|g
 ·exact absurd h.1 (k.2 N g)
 ·exact g
 ·exact absurd k.1 (h.2 K g)
def ps (g:Nat->Rat)(a b:Int):Nat->Rat
 |0=>0
 |k+1=>if a<=(k:Int)/\(k:Int)<b then ps g a b k+g k else ps g a b k
theorem aar (v:Rat)(f:Nat->Rat):∀k,dd v f k=v^k*pr f k
 |0=>by simp[dd,pr]
 |k+1=>by rw[oP,aar v f k,Rat.pow_succ];simp only[pr];grind
def Cn (i:Rat):Prop:=0<=i/\i.num.natAbs<ai/\i.den<ai
theorem Cn.le {i:Rat}(h:Cn i):i<=((65535:Nat):Rat):=by
 obtain⟨h0,h1,h2⟩:=h;rw[Rat.le_iff,Rat.num_natCast,Rat.den_natCast];have h3:0<i.den:=i.den_pos
 have h4:i.num<=65535:=by
  have:ai=65536:=rfl;omega
 have h5:((65535:Nat):Int)*(i.den:Int)≥65535*1:=Int.mul_le_mul_of_nonneg_left (by omega) (by decide);simp only[Int.natCast_one,Int.mul_one];omega
theorem Cn.one {i:Rat}(h:Cn i):fl (1+i)<=2:=by
 have h1:=h.le;obtain⟨h0,_,h2⟩:=h
 have e:((65536:Nat):Rat)=((65535:Nat):Rat)+1:=by norm_cast
 refine rB (M:=65536) i.den_pos (((Dv.int 1).more (Nat.one_dvd _)).add (Dv.self i)) (by rw[e];grind) (by rw[e];grind) (by decide) ((bJ aA).2 ?_);show 65536*i.den<ai^2;rw[Nat.pow_two];exact vR h2 (by decide)
theorem Cn.fl {i:Rat}(h:Cn i):Go.Proofs.YtclbiihcbfnjmaaGreat.fl i<=1:=dA.2 ⟨(bJ aA).2 (by rw[Nat.pow_one];exact h.2.1),(bJ aA).2 (by rw[Nat.pow_one];exact h.2.2)⟩
theorem Cn.v {i:Rat}(h:Cn i):1/(1+i)*(1+i)=1:=Rat.div_mul_cancel (by have:=h.1;grind)
theorem Cn.MK {i:Rat}(h:Cn i):zh (1/(1+i)):=by
 have hv:=h.v;obtain⟨h0,h1,h2⟩:=h
 generalize 1/(1+i)=v at*
 have hp:0<v:=by
  refine Rat.not_le.1 fun g=> ?_
  have:=gW (show 0<=-v by grind) (show 0<=1+i by grind)
  grind
 have hle:v<=1:=by
  have:=gW (show 0<=v by grind) h0
  grind
 refine⟨hp,hle, ?_⟩
 have hi:i*(i.den:Rat)=(i.num:Rat):=by
  have hq:(i.den:Rat)≠0:=by
   intro h;exact i.den_nz (by exact_mod_cast h)
  have h1:=Rat.num_divInt_den i;rw[Rat.divInt_eq_div] at h1;have h2:(((i.den:Nat):Int):Rat)=((i.den:Nat):Rat):=rfl;rw[h2] at h1
  conv=>lhs;lhs;rw[<-h1]
  grind
 have hn:(0:Int)<=i.num:=mN.2 h0
 have hD:Dv v (i.den+i.num.natAbs):=⟨(i.den:Int),by
  have e1:((i.den+i.num.natAbs:Nat):Rat)=(i.den:Rat)+(i.num:Rat):=by
   rw[Rat.natCast_add]
   congr 1
   rw[<-Rat.intCast_natCast,Int.natAbs_of_nonneg hn]
  have e2:((i.den:Int):Rat)=(i.den:Rat):=rfl;rw[e1,e2,<-hi]
  have:v*((i.den:Rat)+i*(i.den:Rat))=v*(1+i)*(i.den:Rat):=by grind
  rw[this,hv]
  grind⟩
 have h5:=Nat.le_of_dvd (by have:=i.den_pos;omega) (Dv.iff.2 hD);have:ai^2=4294967296:=rfl;have:ai=65536:=rfl;omega
end
section

theorem Yb (F S:Int)(n:Nat)(r:Nat->RH)(E Y:Int)(m:Nat):fr F S n r E (Y+(m:Int))=fun i=>fr F S n r E Y (m+i):=by
 funext i
 exact Sj F S n r E Y m i
theorem EG {v:Rat}{f g:Nat->Rat}:∀{n:Nat},(∀i,i<n->f i=g i)->dd v f n=dd v g n
 |0,_=>rfl
 |n+1,h=>by
  simp only[dd];rw[EG (n:=n) fun i hi=>h i (by omega),h n (by omega)]
section
variable {v:Rat} {f:Nat->Rat} {N K m:Nat} (e:N=m+K)
include e
end
def rs (g:Nat->Rat)(a:Int)(k:Nat):Rat:=(((k:Int)-a+1:Int):Rat)*g k
theorem pow_pos {v:Rat}(h:0<v):∀k:Nat,0<v^k
 |0=>by rw[Rat.pow_zero];decide
 |k+1=>by rw[Rat.pow_succ];exact Rat.mul_pos (pow_pos h k) h
theorem lT.pr {v:Rat}{f:Nat->Rat}{N:Nat}(hv:0<v):lT v f N↔(Go.Proofs.YtclbiihcbfnjmaaGreat.pr f N=0/\∀k,k<N->Go.Proofs.YtclbiihcbfnjmaaGreat.pr f k≠0):=by
 have hz:∀k,dd v f k=0↔Go.Proofs.YtclbiihcbfnjmaaGreat.pr f k=0:=fun k=>by
  rw[aar];have:=pow_pos hv k
  constructor
  ·
   intro e
   rcases Rat.mul_eq_zero.1 e with e|e
   ·
    rw[e] at this;exact absurd this (by decide)
   ·exact e
  ·
   intro e;rw[e]
   grind
 unfold lT
 constructor
 ·exact fun⟨a,b⟩=>⟨(hz N).1 a,fun k hk e=>b k hk ((hz k).2 e)⟩
 ·exact fun⟨a,b⟩=>⟨(hz N).2 a,fun k hk e=>b k hk ((hz k).1 e)⟩
theorem adZ {v:Rat}{f:Nat->Rat}{M:Nat}(h:dd v f M=0):∃N,N<=M/\lT v f N:=by
 induction M using Nat.strongRecOn with
 |_ M ih=>
  by_cases c:∃k,k<M/\dd v f k=0
  ·
   obtain⟨k,hk,e⟩:=c;obtain⟨N,hN,hc⟩:=ih k hk e;exact⟨N,by omega,hc⟩
  ·exact⟨M,aq _,h,fun k hk e=>c ⟨k,hk,e⟩⟩
theorem vI {F S E Y:Int}{n:Nat}{r:Nat->RH}(v:Rat)(hR:dH F S n r E Y):∃N,N<=n+1/\lT v (fr F S n r E Y) N:=by
 obtain⟨M,_,h1,_,h2⟩:=yM hR
 have hM:M<=n:=by
  rcases dF M with e|e
  ·omega
  ·
   have:=h1 (M-1) (by omega);obtain⟨_,r1,r2,r3,r4⟩:=hR;omega
 have h0:dd v (fr F S n r E Y) (M+1)=0:=by
  rw[oP];have:fr F S n r E Y M=1:=h2;rw[this]
  grind
 obtain⟨N,hN,hc⟩:=adZ h0;exact⟨N,by omega,hc⟩
theorem lT.pos {v:Rat}{f:Nat->Rat}{N:Nat}(h:lT v f N):0<N:=by
 rcases dF N with e|e
 ·
  subst e;have:=h.1;simp only[dd] at this;exact absurd this (by decide)
 ·exact e
end
section

theorem ajh (g:Nat->Rat){N:Nat}:∀k,k<=N->sf g (N+1) k=sf g N k+g N:=
 qz (by rw[bZ g (mL N),gP g (aq (N+1)),gP g (aq N)]) (fun k hk ih=>by rw[bZ g (show k<N+1 by omega),ih,bZ g hk];grind)
def yr (v:Rat)(f L K:Nat->Rat)(n:Nat):Rat:=L n*dd v f n+K n*cc v f n
def va (v:Rat)(f:Nat->Rat)(N:Nat)(L K:Nat->Rat)(t:Nat):Rat:=sf (yr v f L K) N t/dd v f t
def Pm (B q:Nat)(L:Nat->Rat):Prop:=∀n,-(B:Rat)<=L n/\L n<=(B:Rat)/\Dv (L n) q
theorem jR {M k j D:Nat}{q:Rat}(hD:0<D)(hd:Dv q D)(h1:-(M:Rat)<=q)(h2:q<=(M:Rat))(h0:0<M)(hM:M<=ai^k)(hj:D<=ai^j):fl q<=k+j+1:=by
 refine rB hD hd h1 h2 h0 ((bJ aA).2 ?_);rw[cF,dK];have hp:0<ai^k*ai^j:=dP (bM (by decide)) (bM (by decide));have:=dU hM hj;have h3:ai^k*ai^j*1<ai^k*ai^j*ai:=vR (by decide) hp;omega
theorem Kb {a b A B:Rat}(h1:-A<=a)(h2:a<=A)(h3:-B<=b)(h4:b<=B):-(A+B)<=a+b/\a+b<=A+B:=by constructor<;>grind
theorem ad0 {g:Nat->Rat}{N:Nat}{B:Rat}(h:∀j,j<N->-B<=g j/\g j<=B):∀k,k<=N->-((N-k:Nat)*B)<=sf g N k/\sf g N k<=(N-k:Nat)*B:=
 qz (by rw[gP g (aq N),Nat.sub_self];constructor<;>grind) (fun k hk ih=>by
  rw[bZ g hk,show((N-k:Nat):Rat)=((N-(k+1):Nat):Rat)+1 by rw[show N-k=N-(k+1)+1 by omega];norm_cast];have:=h k hk
  constructor<;>grind)
section
variable {v:Rat} {f L K:Nat->Rat} {N B A q:Nat} (hv:zh v) (hf:uE f N) (hL:Pm B q L) (hK:Pm A 1 K)
include hv hf hL hK
theorem BW {j:Nat}(hj:j<N):-(((B+A:Nat)):Rat)<=yr v f L K j/\yr v f L K j<=((B+A:Nat):Rat)/\Dv (yr v f L K j) (q*dE v f N):=by
 obtain⟨l1,l2,l3⟩:=hL j;obtain⟨k1,k2,k3⟩:=hK j;obtain⟨d1,d2⟩:=rI hv hf j (bG hj);obtain⟨c1,c2⟩:=yQ hv hf hj;have e:=jQ l1 l2 (K:=1) (by grind) d2;have g:=jQ k1 k2 (K:=1) (by grind) c2;have s:=Kb e.1 e.2 g.1 g.2
 have eB:((B+A:Nat):Rat)=(B:Rat)*1+(A:Rat)*1:=by rw[Rat.natCast_add];grind
 refine⟨by rw[eB];exact s.1,by rw[eB];exact s.2, ?_⟩;have m1:=(l3.mul (yO v f j)).more (Nat.mul_dvd_mul_left q (nt v f (bG hj)));have m2:=(k3.mul (JZ v f j)).more (show 1*dE v f (j+1)∣q*dE v f N from by rw[fI];exact ji (nt v f hj) (ow _ _));exact m1.add m2
theorem ad1 {k:Nat}(hk:k<=N):-((N*(B+A):Nat):Rat)<=sf (yr v f L K) N k/\sf (yr v f L K) N k<=((N*(B+A):Nat):Rat)/\Dv (sf (yr v f L K) N k) (q*dE v f N):=by
 obtain⟨h1,h2⟩:=ad0 (g:=yr v f L K) (B:=((B+A:Nat):Rat)) (fun j hj=>⟨(BW hv hf hL hK hj).1,(BW hv hf hL hK hj).2.1⟩) k hk
 have e:(((N-k:Nat):Rat))*((B+A:Nat):Rat)<=((N*(B+A):Nat):Rat):=by
  rw[<-mW]
  exact_mod_cast dV _ (Nat.sub_le N k)
 exact⟨by grind,by grind,Sv (fun j hj=>(BW hv hf hL hK hj).2.2) k hk⟩
end
theorem Sw {v:Rat}{f L K:Nat->Rat}{N t:Nat}(h:dd v f t≠0):va v f N L K t*dd v f t=sf (yr v f L K) N t:=Rat.div_mul_cancel h
theorem uK {v:Rat}{f L K:Nat->Rat}{N t:Nat}(h:N<=t):va v f N L K t=0:=by
 unfold va;rw[gP _ h,Rat.div_def,Rat.zero_mul]
theorem Yc {v i:Rat}{f L K:Nat->Rat}{N t:Nat}(hN:lT v f N)(hi:v*(1+i)=1)(ht:t<N):(va v f N L K t-L t)*(1+i)=f t*K t+(1-f t)*va v f N L K (t+1):=by
 have hd:=hN.2 t ht;have h0:=Sw (L:=L) (K:=K) (N:=N) hd;rw[bZ _ ht] at h0;have e1:yr v f L K t=L t*dd v f t+K t*(v*dd v f t*f t):=rfl;have e2:dd v f (t+1)=v*dd v f t*(1-f t):=oP v f t
 have h1:sf (yr v f L K) N (t+1)=va v f N L K (t+1)*(v*dd v f t*(1-f t)):=by
  rcases cX (t+1) N with h|h
  ·
   have:=Sw (L:=L) (K:=K) (N:=N) (hN.2 (t+1) h);rw[<-this,e2]
  ·rw[gP _ h,uK h];grind
 rw[h1,e1] at h0
 generalize va v f N L K t=x at*
 generalize va v f N L K (t+1)=y at*
 generalize dd v f t=d at*
 have h2:(x-L t)*d=(y*(1-f t)+K t*f t)*v*d:=by grind
 have h3:x-L t=(y*(1-f t)+K t*f t)*v:=by
  have:(x-L t-(y*(1-f t)+K t*f t)*v)*d=0:=by grind
  rcases Rat.mul_eq_zero.1 this with h|h
  ·grind
  ·exact absurd h hd
 rw[h3]
 have:(y*(1-f t)+K t*f t)*v*(1+i)=(y*(1-f t)+K t*f t)*(v*(1+i)):=by grind
 rw[this,hi];grind
def pH (m:Nat)(p:Rat)(n:Nat):Rat:=if n<m then p else 0
end
section

section
variable {v:Rat} {f L K:Nat->Rat} {N B A q:Nat} (hv:zh v) (hf:uE f N) (hL:Pm B q L) (hK:Pm A 1 K) (xq:0<q) (hq:q<=ai^4) (LX:0<B) (hB:N*(B+A)<=ai^6) (MC:0<N)
include hv hf hL hK xq hq LX hB MC
theorem aji {k:Nat}(hk:k<=N):fl (sf (yr v f L K) N k)<=3*N+11:=by
 obtain⟨h1,h2,h3⟩:=ad1 hv hf hL hK hk;have hE:=wG hv hf N (aq N);refine ay (jR (k:=6) (j:=4+3*N) (dP xq (qA v f N)) h3 h1 h2 (dP MC (by omega)) hB ?_) (by omega);rw[dK];exact dU hq hE
theorem ajj {k:Nat}(hk:k<N):fl (yr v f L K k)<=3*N+11:=by
 obtain⟨h1,h2,h3⟩:=BW hv hf hL hK hk;have hE:=wG hv hf N (aq N);have FA:B+A<=ai^6:=ay (kj _ MC) hB;refine ay (jR (k:=6) (j:=4+3*N) (dP xq (qA v f N)) h3 h1 h2 (by omega) FA ?_) (by omega);rw[dK];exact dU hq hE
end
theorem uV {v:Rat}{f L:Nat->Rat}{N B q:Nat}(hv:zh v)(hf:uE f N)(hL:Pm B q L)(xq:0<q)(hq:q<=ai^4)(LX:0<B)(hB:B<=ai^6){k:Nat}(hk:k<N):
  fl (L k)<=11/\fl (L k*dd v f k)<=3*N+11/\fl (L k*cc v f k)<=3*N+11:=by
 obtain⟨l1,l2,l3⟩:=hL k;obtain⟨d1,d2⟩:=rI hv hf k (bG hk);obtain⟨c1,c2⟩:=yQ hv hf hk;have e:=jQ l1 l2 (K:=1) (by grind) d2;have g:=jQ l1 l2 (K:=1) (by grind) c2;rw[Rat.mul_one] at e g;have hE:=wG hv hf N (aq N)
 have RM:q*dE v f N<=ai^(4+3*N):=by rw[dK];exact dU hq hE
 have hp:=dP xq (qA v f N);refine⟨ay (jR (k:=6) (j:=4) xq l3 l1 l2 LX hB hq) (by omega),ay (jR hp ((l3.mul (yO v f k)).more (Nat.mul_dvd_mul_left q (nt v f (bG hk)))) e.1 e.2 LX hB RM) (by omega),ay (jR hp ((l3.mul (JZ v f k)).more (Nat.mul_dvd_mul_left q (nt v f hk))) g.1 g.2 LX hB RM) (by omega)⟩
def lY (l:Nat->Int)(n k:Nat):Rat:=if k<n then(l k:Rat) else 0
theorem Hj {l:Nat->Int}{n M:Nat}(h:∀k,k<n->0<=l k/\l k<=(M:Int)):Pm M 1 (lY l n):=fun k=>by
 have h0:(0:Rat)<=(M:Rat):=by exact_mod_cast bF M
 unfold lY
 split
 ·
  rename_i hk;obtain⟨h1,h2⟩:=h k hk
  have e1:(0:Rat)<=(l k:Rat):=by exact_mod_cast h1
  have e2:(l k:Rat)<=(M:Rat):=by exact_mod_cast h2
  exact⟨by grind,e2,Dv.int _⟩
 ·exact⟨by grind,h0,Dv.int 0⟩
theorem ad2 {m M q:Nat}{p:Rat}(h0:0<=p)(h1:p<=(M:Rat))(hd:Dv p q):Pm M q (pH m p):=fun k=>by
 have hM:(0:Rat)<=(M:Rat):=by exact_mod_cast bF M
 unfold pH
 split
 ·exact⟨by grind,h1,hd⟩
 ·exact⟨by grind,hM,(Dv.int 0).more (Nat.one_dvd _)⟩
theorem ad3 {B M q:Nat}{L P:Nat->Rat}(hL:Pm B 1 L)(hP:Pm M q P):Pm (B+M) q (fun k=>L k-P k):=fun k=>by
 obtain⟨a1,a2,a3⟩:=hL k;obtain⟨b1,b2,b3⟩:=hP k;have e:((B+M:Nat):Rat)=(B:Rat)+(M:Rat):=Rat.natCast_add ..;rw[e];exact⟨by grind,by grind,(a3.more (Nat.one_dvd _)).sub b3⟩
end
section

def Zx (v a u p l d i j q n m:Rat):Nat->Rat
 |0=>n*v
 |1=>n*p
 |2=>n*l
 |3=>n*(v+p-l)*j
 |4=>m*d
 |5=>(n-m)*u
 |6=>n*((v+p-l)*(1+i)-v)
 |7=>n*(v+p-l)*(j-i)
 |8=>(n*q-m)*(d-a)
 |_=>(n-m)*a-(n-m)*u
def KL (x:Nat->Rat):Rat:=x 0+x 1-x 2+x 3-x 4-x 5
section
variable {v a u p l d i j q n m:Rat} (h:(v+p-l)*(1+i)=q*d+(1-q)*a)
include h
end
end
section

def spt (f:Nat->Rat):Nat->Nat->Nat
 |0,_=>1
 |m+1,k=>spt f m (k+1)*(f k).den
def sp (f:Nat->Rat)(N k:Nat):Nat:=spt f (N-k) k
theorem Sy (f:Nat->Rat){N k:Nat}(h:N<=k):sp f N k=1:=by
 unfold sp;rw[Nat.sub_eq_zero_of_le h];rfl
theorem BX (f:Nat->Rat){N k:Nat}(h:k<N):sp f N k=sp f N (k+1)*(f k).den:=by
 unfold sp
 obtain⟨m,hm⟩:∃m,N-k=m+1:=⟨N-k-1,by omega⟩
 rw[hm,show N-(k+1)=m by omega];rfl
theorem Gy (f:Nat->Rat)(N k:Nat):0<sp f N k:=by
 unfold sp;generalize N-k=m
 induction m generalizing k with
 |zero=>simp[spt]
 |succ m ih=>exact dP (ih (k+1)) (f k).den_pos
theorem SA (f:Nat->Rat)(N:Nat):∀k,sp f N k∣sp f N 0
 |0=>fB _
 |k+1=>by
  rcases cX k N with h|h
  ·exact ji ⟨(f k).den,BX f h⟩ (SA f N k)
  ·rw[Sy f (by omega)];exact Nat.one_dvd _
theorem Rm {f:Nat->Rat}{N:Nat}(h:uE f N):∀k,k<=N->sp f N k<=ai^(N-k):=
 qz (by rw[Sy f (aq _),Nat.sub_self];simp) fun k hk ih=>by
  rw[BX f hk,show N-k=(N-(k+1))+1 by omega,cF];exact dU ih (bG (h k hk).2.2)
def Sz (D M:Nat)(q:Rat):Prop:=Dv q D/\-(M:Rat)<=q/\q<=(M:Rat)
section
variable {D E M K:Nat} {a b:Rat}
theorem Sz.more (h:Sz D M a)(hd:D∣E)(hm:M<=K):Sz E K a:=by
 have:(M:Rat)<=(K:Rat):=by exact_mod_cast hm
 exact⟨h.1.more hd,by have:=h.2.1;grind,by have:=h.2.2;grind⟩
theorem Sz.add (h:Sz D M a)(k:Sz D K b):Sz D (M+K) (a+b):=by
 have e:((M+K:Nat):Rat)=(M:Rat)+(K:Rat):=Rat.natCast_add ..;have s:=Kb h.2.1 h.2.2 k.2.1 k.2.2;exact⟨h.1.add k.1,by rw[e];exact s.1,by rw[e];exact s.2⟩
theorem Sz.neg (h:Sz D M a):Sz D M (-a):=⟨h.1.neg,by have:=h.2.2;grind,by have:=h.2.1;grind⟩
theorem Sz.sub (h:Sz D M a)(k:Sz D K b):Sz D (M+K) (a-b):=by
 have:=h.add k.neg
 rwa [show a+-b=a-b by grind] at this
theorem Sz.mul (h:Sz D M a)(k:Sz E K b):Sz (D*E) (M*K) (a*b):=by
 have e:((M*K:Nat):Rat)=(M:Rat)*(K:Rat):=mW ..;have s:=jQ h.2.1 h.2.2 k.2.1 k.2.2;exact⟨h.1.mul k.1,by rw[e];exact s.1,by rw[e];exact s.2⟩
theorem Sz.int (z:Int){M:Nat}(h:z.natAbs<=M):Sz 1 M (z:Rat):=by
 obtain⟨h1,h2,-⟩:=Ql.int z h;exact⟨Dv.int z,h1,h2⟩
theorem Sz.fl {k j:Nat}(h:Sz D M a)(hD:0<D)(h0:0<M)(hM:M<=ai^k)(hj:D<=ai^j):fl a<=k+j+1:=jR hD h.1 h.2.1 h.2.2 h0 hM hj
end
section
variable {v i:Rat} {f L K:Nat->Rat} {N B A q:Nat} (hv:zh v) (hf:uE f N) (hL:Pm B q L) (hK:Pm A 1 K) (hN:lT v f N) (hi:v*(1+i)=1)
include hv hf hL hK hN hi
theorem ad4 :∀t,t<=N->Sz (q*(v.den^(N-t)*sp f N t)) ((N-t)*(B+A)) (va v f N L K t):=
 qz (by
  rw[uK (aq N),Nat.sub_self,Nat.zero_mul]
  exact⟨⟨0,by simp⟩,by simp,by simp⟩) fun t ht ih=>by
  obtain⟨l1,l2,l3⟩:=hL t;obtain⟨k1,k2,k3⟩:=hK t;obtain⟨f1,f2,f3⟩:=hf t ht;obtain⟨v1,v2,v3⟩:=hv;obtain⟨y1,y2,y3⟩:=ih;have h0:=Yc (L:=L) (K:=K) hN hi ht
  generalize va v f N L K (t+1)=y at*
  have e:va v f N L K t=L t+v*(f t*K t+(1-f t)*y):=by
   rw[<-h0]
   have:v*((va v f N L K t-L t)*(1+i))=(va v f N L K t-L t)*(v*(1+i)):=by grind
   rw[this,hi];grind
  rw[e]
  have eN:N-t=(N-(t+1))+1:=by omega
  rw[eN,cF,BX f ht]
  generalize N-(t+1)=m at*
  have hd:(q*(v.den^m*v.den*(sp f N (t+1)*(f t).den)))=v.den*((f t).den*(q*(v.den^m*sp f N (t+1)))):=by
   simp only[Nat.mul_assoc,Nat.mul_comm,Nat.mul_left_comm]
  refine⟨?_, ?_⟩
  ·
   rw[hd];refine(l3.more ?_).add ((Dv.self v).mul ((((Dv.self (f t)).mul k3).more ?_).add ((((Dv.int 1).more (Nat.one_dvd _)).sub (Dv.self (f t))).mul y1)))
   ·exact ji (kg q (v.den^m*sp f N (t+1))) (ji (ow _ _) (ow _ _))
   ·rw[fJ];exact kg _ _
  ·
   have hm0:(0:Rat)<=((m*(B+A):Nat):Rat):=by exact_mod_cast bF _
   have hA0:(0:Rat)<=(A:Rat):=by exact_mod_cast bF _
   have e2:(((m+1)*(B+A):Nat):Rat)=((m*(B+A):Nat):Rat)+(B:Rat)+(A:Rat):=by rw[gj,Rat.natCast_add,Rat.natCast_add];grind
   rw[e2]
   generalize ((m*(B+A):Nat):Rat)=R at*
   have p1:=jQ (M:=1) (K:=A) (a:=f t) (b:=K t) (by grind) f2 k1 k2
   have p2:-R<=(1-f t)*y/\(1-f t)*y<=R:=by
    have:=jQ (M:=1) (K:=R) (a:=1-f t) (b:=y) (by grind) (by grind) y2 y3;rw[Rat.one_mul] at this;exact this
   have p3:=jQ (M:=1) (K:=A+R) (a:=v) (b:=f t*K t+(1-f t)*y) (by grind) v2 (by grind) (by grind);rw[Rat.one_mul] at p3
   constructor<;>grind
theorem ZW {M:Nat}(hM:N<=M)(t:Nat):Sz (q*(v.den^M*sp f N 0)) (N*(B+A)) (va v f N L K t):=by
 rcases cX t N with h|h
 ·refine(ad4 hv hf hL hK hN hi t (bG h)).more (Nat.mul_dvd_mul_left q (Nat.mul_dvd_mul (Nat.pow_dvd_pow _ (by omega)) (SA f N t))) (dV _ (Nat.sub_le _ _))
 ·
  rw[uK h]
  have:(0:Rat)<=((N*(B+A):Nat):Rat):=by exact_mod_cast bF _
  exact⟨⟨0,by simp⟩,by grind,this⟩
end
structure ItL (v a u p l d i j q n m:Rat):Prop where
 l1:fl v<=256
 l2:fl a<=256
 l3:fl u<=256
 l4:fl p<=256
 l5:fl l<=256
 l6:fl d<=256
 l7:fl i<=256
 l8:fl j<=256
 l9:fl q<=256
 b1:fl (v+p)<=256
 b2:fl (v+p-l)<=256
 b3:fl (n*(v+p-l))<=256
 b4:fl (1+i)<=256
 b5:fl ((v+p-l)*(1+i))<=256
 b6:fl ((v+p-l)*(1+i)-v)<=256
 b7:fl (j-i)<=256
 b8:fl (n*q)<=256
 b9:fl (n*q-m)<=256
 c1:fl (d-a)<=256
 c2:fl ((n-m)*a)<=256
 c3:fl ((n-m)*u)<=256
 it:∀k,fl (Zx v a u p l d i j q n m k)<=256
theorem Rn {v a u p l d i j q n m:Rat}{Vo Vn Di Dj Q So Sn Dq:Nat}(hv:Sz (Q*(Vo*So)) (ai^5) v)(ha:Sz (Q*(Vo*So)) (ai^5) a)(hu:Sz (Q*(Vn*Sn)) (ai^5) u)
  (hp:Sz Q (ai^4) p) (hl:Sz 1 (ai^3) l) (hd:Sz 1 (ai^3) d) (hi:Sz Di ai i) (hj:Sz Dj ai j) (hq:Sz Dq 1 q) (hn:Sz 1 (ai^3) n) (hm:Sz 1 (ai^3) m) (hnm:Sz 1 (ai^3) (n-m)):
  let D:=(Vo*Vn*(Di*Dj))*(Q*So*Sn*Dq)
  Sz D (ai^5) v/\Sz D (ai^5) a/\Sz D (ai^5) u/\Sz D (ai^4) p/\Sz D (ai^3) l/\Sz D (ai^3) d/\Sz D ai i/\Sz D ai j/\Sz D 1 q/\
  Sz D (2*ai^5) (v+p)/\Sz D (3*ai^5) (v+p-l)/\Sz D (3*ai^8) (n*(v+p-l))/\Sz D (2*ai) (1+i)/\Sz D (6*ai^6) ((v+p-l)*(1+i))/\Sz D (7*ai^6) ((v+p-l)*(1+i)-v)/\Sz D (2*ai) (j-i)/\
  Sz D (ai^3) (n*q)/\Sz D (2*ai^3) (n*q-m)/\Sz D (2*ai^5) (d-a)/\Sz D (ai^8) ((n-m)*a)/\Sz D (ai^8) ((n-m)*u)/\∀k,Sz D (ai^10) (Zx v a u p l d i j q n m k):=by
 intro D;have B1:ai=65536:=rfl;have dv:Q*(Vo*So)∣D:=⟨Vn*(Di*Dj)*(Sn*Dq),by simp only[D,Nat.mul_assoc,Nat.mul_comm,Nat.mul_left_comm]⟩;have dn:Q*(Vn*Sn)∣D:=⟨Vo*(Di*Dj)*(So*Dq),by simp only[D,Nat.mul_assoc,Nat.mul_comm,Nat.mul_left_comm]⟩;have dvi:Q*(Vo*So)*Di∣D:=⟨Vn*Dj*(Sn*Dq),by simp only[D,Nat.mul_assoc,Nat.mul_comm,Nat.mul_left_comm]⟩;have dvj:Q*(Vo*So)*Dj∣D:=⟨Vn*Di*(Sn*Dq),by simp only[D,Nat.mul_assoc,Nat.mul_comm,Nat.mul_left_comm]⟩;have apL:Q*(Vo*So)*(Di*Dj)∣D:=⟨Vn*(Sn*Dq),by simp only[D,Nat.mul_assoc,Nat.mul_comm,Nat.mul_left_comm]⟩;have dij:Di*Dj∣D:=ji (ow _ _) (kg _ _);have dvq:Dq*(Q*(Vo*So))∣D:=⟨Vn*(Di*Dj)*Sn,by simp only[D,Nat.mul_assoc,Nat.mul_comm,Nat.mul_left_comm]⟩;have dq:Dq∣D:=ji (kg _ _) dvq;have dQ:Q∣D:=ji (kg _ _) dv;have di:Di∣D:=ji (kg _ _) dij;have dj:Dj∣D:=ji (ow _ _) dij;have one:Sz 1 1 (1:Rat):=Sz.int 1 (by decide);have q1:Q∣Q*(Vo*So):=kg _ _
 have w1:∀{E:Nat},1∣E:=Nat.one_dvd _
 -- what has the ak9 Yd
 have s1:Sz (Q*(Vo*So)) (2*ai^5) (v+p):=(hv.add (hp.more q1 (aq _))).more (fB _) (by rw[B1];decide);have s2:Sz (Q*(Vo*So)) (3*ai^5) (v+p-l):=(s1.sub (hl.more w1 (aq _))).more (fB _) (by rw[B1];decide);have s3:Sz (Q*(Vo*So)) (3*ai^8) (n*(v+p-l)):=(hn.mul s2).more (by rw[fI];exact fB _) (by rw[B1];decide);have s4:Sz Di (2*ai) (1+i):=((one.more w1 (aq _)).add hi).more (fB _) (by rw[B1];decide);have s5:Sz (Q*(Vo*So)*Di) (6*ai^6) ((v+p-l)*(1+i)):=(s2.mul s4).more (fB _) (by rw[B1];decide);have s6:Sz (Q*(Vo*So)*Di) (7*ai^6) ((v+p-l)*(1+i)-v):=(s5.sub (hv.more (kg _ _) (aq _))).more (fB _) (by rw[B1];decide);have s7:Sz (Di*Dj) (2*ai) (j-i):=((hj.more (ow _ _) (aq _)).sub (hi.more (kg _ _) (aq _))).more (fB _) (by rw[B1];decide);have s8:Sz Dq (ai^3) (n*q):=(hn.mul hq).more (by rw[fI];exact fB _) (by rw[B1];decide);have s9:Sz Dq (2*ai^3) (n*q-m):=(s8.sub (hm.more w1 (aq _))).more (fB _) (by rw[B1];decide);have t1:Sz (Q*(Vo*So)) (2*ai^5) (d-a):=((hd.more w1 (aq _)).sub ha).more (fB _) (by rw[B1];decide);have t2:Sz (Q*(Vo*So)) (ai^8) ((n-m)*a):=(hnm.mul ha).more (by rw[fI];exact fB _) (by rw[B1];decide);have t3:Sz (Q*(Vn*Sn)) (ai^8) ((n-m)*u):=(hnm.mul hu).more (by rw[fI];exact fB _) (by rw[B1];decide)
 refine⟨hv.more dv (aq _),ha.more dv (aq _),hu.more dn (aq _),hp.more dQ (aq _),hl.more w1 (aq _),hd.more w1 (aq _),hi.more di (aq _),hj.more dj (aq _),hq.more dq (aq _),
  s1.more dv (aq _),s2.more dv (aq _),s3.more dv (aq _),s4.more di (aq _),s5.more dvi (aq _),s6.more dvi (aq _),s7.more dij (aq _),s8.more dq (aq _),s9.more dq (aq _),t1.more dv (aq _),t2.more dv (aq _),t3.more dn (aq _),fun k=> ?_⟩
 rcases k with _|_|_|_|_|_|_|_|_|k<;>simp only[Zx]
 ·exact(hn.mul hv).more (by rw[fI];exact dv) (by rw[B1];decide)
 ·exact(hn.mul hp).more (by rw[fI];exact dQ) (by rw[B1];decide)
 ·exact(hn.mul hl).more (by rw[fI];exact w1) (by rw[B1];decide)
 ·exact(s3.mul hj).more dvj (by rw[B1];decide)
 ·exact(hm.mul hd).more (by rw[fI];exact w1) (by rw[B1];decide)
 ·exact t3.more dn (by rw[B1];decide)
 ·exact(hn.mul s6).more (by rw[fI];exact dvi) (by rw[B1];decide)
 ·exact(s3.mul s7).more apL (by rw[B1];decide)
 ·exact(s9.mul t1).more dvq (by rw[B1];decide)
 ·exact((t2.more dv (aq _)).sub (t3.more dn (aq _))).more (fB _) (by rw[B1];decide)
end
section

def fz (g:Nat->Rat):Nat->Nat->Nat
 |0,k=>k
 |m+1,k=>if g k=0 then k else fz g m (k+1)
theorem uE.less {f:Nat->Rat}{N M:Nat}(h:uE f N)(hM:M<=N):uE f M:=fun i hi=>h i (by omega)
structure ad5 (v:Rat)(f L K:Nat->Rat)(N:Nat):Prop where
 d:∀k,k<N->fl (dd v f k)<=256
 c:∀k,k<N->fl (cc v f k)<=256
 l:∀k,k<N->fl (L k)<=256
 k:∀k,k<N->fl (K k)<=256
 ld:∀k,k<N->fl (L k*dd v f k)<=256
 kc:∀k,k<N->fl (K k*cc v f k)<=256
 y:∀k,k<N->fl (yr v f L K k)<=256
 s:∀t j,j<=N->fl (sf (yr v f L K) j t)<=256
 a:∀t,fl (va v f N L K t)<=256
theorem ajk {v i:Rat}{f L K:Nat->Rat}{N B A q:Nat}(hv:zh v)(hf:uE f N)(hL:Pm B q L)(hK:Pm A 1 K)(hN:lT v f N)(hi:v*(1+i)=1)(lZ:N<=80)
  (xq:0<q) (hq:q<=ai^4) (LX:0<B) (hA0:0<A) (hB:B<=ai^5) (hA:A<=ai^5):ad5 v f L K N:=by
 have hsum:∀j,j<=80->j*(B+A)<=ai^6:=fun j hj=>by
  have h1:j*(B+A)<=80*(ai^5+ai^5):=dU hj (Nat.add_le_add hB hA);exact ay h1 (by decide)
 have MC:0<N:=hN.pos
 have b6:ai^5<=ai^6:=by decide
 have f0:fl (0:Rat)<=256:=by decide
 refine⟨fun k hk=>(Iu hv hf (bG hk)).l (by decide) (by decide) (by omega),fun k hk=>(ML hv hf hk).l (by decide) (by decide) (by omega),fun k hk=> ?_,fun k hk=> ?_,fun k hk=> ?_,fun k hk=> ?_,fun k hk=> ?_,fun t j hj=> ?_,fun t=> ?_⟩
 ·exact ay (uV hv hf hL xq hq LX (ay hB b6) hk).1 (by decide)
 ·exact ay (uV hv hf hK (by decide) (by decide) hA0 (ay hA b6) hk).1 (by decide)
 ·exact ay (uV hv hf hL xq hq LX (ay hB b6) hk).2.1 (by omega)
 ·exact ay (uV hv hf hK (by decide) (by decide) hA0 (ay hA b6) hk).2.2 (by omega)
 ·exact ay (ajj hv hf hL hK xq hq LX (hsum N lZ) MC hk) (by omega)
 ·
  rcases cX t j with h|h
  ·exact ay (aji hv (hf.less hj) hL hK xq hq LX (hsum j (by omega)) (by omega) (bG h)) (by omega)
  ·rw[gP _ h];exact f0
 ·
  have h:=ZW hv hf hL hK hN hi (aq N) t;have hp:0<q*(v.den^N*sp f N 0):=dP xq (dP (bM v.den_pos) (Gy f N 0))
  have h1:v.den^N<=ai^(2*N):=by
   rw[Nat.pow_mul];exact Nat.pow_le_pow_left hv.2.2 N
  have h2:=Rm hf 0 (bF N);rw[Nat.sub_zero] at h2
  have h3:q*(v.den^N*sp f N 0)<=ai^(4+(2*N+N)):=by
   rw[dK,dK];exact dU hq (dU h1 h2)
  exact ay (h.fl hp (dP MC (by omega)) (hsum N lZ) h3) (by omega)
end
end Go.Proofs.YtclbiihcbfnjmaaGreat
