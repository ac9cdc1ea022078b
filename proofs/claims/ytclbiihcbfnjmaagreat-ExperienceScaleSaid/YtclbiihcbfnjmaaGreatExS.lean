/-
  Parts.
-/
import Derived.Test.YtclbiihcbfnjmaaGreatK18
namespace Go.Proofs.YtclbiihcbfnjmaaGreat

def gs (x:Nat->Rat):Nat->Rat
 |0=>0
 |g+1=>gs x g+x g
def gp (P:Nat->Nat):Nat->Nat
 |0=>1
 |g+1=>gp P g*P g
theorem Oh {P:Nat->Nat}:∀{g:Nat},(∀j,j<g->0<P j)->0<gp P g
 |0,_=>by simp[gp]
 |g+1,h=>Nat.mul_pos (Oh fun j hj=>h j (by omega)) (h g (by omega))
theorem Oi (P:Nat->Nat):∀{g j:Nat},j<g->P j∣gp P g
 |0,_,h=>absurd h (by omega)
 |g+1,j,h=>by
  rcases Nat.lt_or_ge j g with h1|h1
  ·exact Nat.dvd_trans (Oi P h1) (Nat.dvd_mul_right _ _)
  ·
   obtain rfl:j=g:=by omega
   exact Nat.dvd_mul_left _ _
theorem WQ {P:Nat->Nat}{k:Nat}:∀{g:Nat},(∀j,j<g->P j<=aj^k)->gp P g<=aj^(g*k)
 |0,_=>by simp[gp]
 |g+1,h=>by
  rw[Nat.succ_mul,Nat.pow_add];exact Nat.mul_le_mul (WQ fun j hj=>h j (by omega)) (h g (by omega))
theorem WS {x:Nat->Rat}{P:Nat->Nat}{C M G:Nat}(h:∀j,j<G->Sz (C*P j) M (x j)):∀g,g<=G->Sz (C*gp P G) (g*M) (gs x g)
 |0,_=>by rw[Nat.zero_mul];exact⟨⟨0,by simp[gs]⟩,by simp[gs],by simp[gs]⟩
 |g+1,hg=>by
  rw[Nat.succ_mul];exact(WS h g (by omega)).add ((h g (by omega)).more (Nat.mul_dvd_mul_left C (Oi P (by omega))) (Nat.le_refl _))
theorem CG {x y:Nat->Rat}:∀{g:Nat},(∀j,j<g->x j=y j)->gs x g=gs y g
 |0,_=>rfl
 |g+1,h=>by simp only[gs];rw[CG fun j hj=>h j (by omega),h g (by omega)]
theorem He (x:Nat->Rat)(a:Nat):∀b,gs x (a+b)=gs x a+gs (fun j=>x (a+j)) b
 |0=>by simp only[gs,Nat.add_zero];grind
 |b+1=>by rw[<-Nat.add_assoc];simp only[gs];rw[He x a b];grind
theorem Hf {x:Nat->Rat}:∀{g:Nat},(∀j,j<g->x j=0)->gs x g=0
 |0,_=>rfl
 |g+1,h=>by simp only[gs];rw[Hf fun j hj=>h j (by omega),h g (by omega)];grind
theorem Oj (x:Nat->Rat):∀g,gs (fun j=>x j+x j) g=gs x g+gs x g
 |0=>by simp only[gs];grind
 |g+1=>by simp only[gs];rw[Oj x g];grind
def rep (it:Nat->Nat->Rat)(G k:Nat):Rat:=gs (fun g=>it g k) G
theorem CH (it:Nat->Nat->Rat)(G k:Nat):rep it (G+1) k=rep it G k+it G k:=rfl
theorem G9 {it:Nat->Nat->Rat}:∀{G:Nat},(∀g,g<G->fI (it g)=it g 7+it g 8+it g 9)->fI (rep it G)=rep it G 7+rep it G 8+rep it G 9
 |0,_=>by unfold fI rep;simp only[gs];grind
 |G+1,h=>by
  have h1:=G9 (G:=G) fun g hg=>h g (by omega)
  have h2:=h G (by omega);unfold fI at h1 h2⊢;simp only[CH]
  grind
theorem GU {it:Nat->Nat->Rat}:∀{G:Nat},(∀g,g<G->it g 6=it g 1+it g 3-it g 2)->rep it G 6=rep it G 1+rep it G 3-rep it G 2
 |0,_=>by unfold rep;simp only[gs];grind
 |G+1,h=>by
  have h1:=GU (G:=G) fun g hg=>h g (by omega)
  have h2:=h G (by omega);simp only[CH]
  grind
theorem NY (it:Nat->Nat->Rat)(a b k:Nat):rep it (a+b) k=rep it a k+rep (fun j=>it (a+j)) b k:=He _ a b
theorem uc {it:Nat->Nat->Rat}{G k:Nat}(h:∀g,g<G->it g k=0):rep it G k=0:=Hf h
theorem Tp {it it2:Nat->Nat->Rat}{G k:Nat}(h:∀g,g<G->it2 g k=it g k+it g k):rep it2 G k=rep it G k+rep it G k:=by
 unfold rep;rw[CG h,Oj]
theorem Cq (x y z:Nat->Rat)(h:∀k,k<6->z k=x k+y k):fI z=fI x+fI y:=by
 unfold fI;rw[h 0 (by omega),h 1 (by omega),h 2 (by omega),h 3 (by omega),h 4 (by omega),h 5 (by omega)]
 grind
def yL (x:Nat->Rat):Prop:=∃D,0<D/\D<=aj^208/\∀k,Sz D (6*aj^10) (x k)
theorem Sz.rp {D M:Nat}{q:Rat}(h:Sz D M q)(hD:0<D)(hj:D<=aj^208)(h0:0<M)(hM:M<=aj^11):Go.Proofs.YtclbiihcbfnjmaaGreat.fl q<=256:=Nat.le_trans (h.fl hD h0 hM hj) (by decide)
theorem TC {it:Nat->Nat->Rat}{G C:Nat}{P:Nat->Nat}(hG:G<=6)(hC:0<C)(hC2:C<=aj^46)(hP:∀j,j<G->0<P j/\P j<=aj^27)(h:∀j,j<G->∀k,Sz (C*P j) (aj^10) (it j k)):∀g,g<=G->yL (rep it g):=fun g hg=>by
 refine⟨C*gp P G,Nat.mul_pos hC (Oh fun j hj=>(hP j hj).1), ?_,fun k=> ?_⟩
 ·
  have h1:=WQ (g:=G) fun j hj=>(hP j hj).2
  have h2:aj^(G*27)<=aj^(6*27):=Nat.pow_le_pow_right (by decide) (Nat.mul_le_mul_right _ hG)
  have e:aj^208=aj^46*aj^(6*27):=by rw[<-Nat.pow_add]
  rw[e];exact Nat.mul_le_mul hC2 (Nat.le_trans h1 h2)
 ·exact(WS (x:=fun j=>it j k) (fun j hj=>h j hj k) g hg).more (Nat.dvd_refl _) (Nat.mul_le_mul_right _ (by omega))
theorem yL.l {x:Nat->Rat}(h:yL x)(k:Nat):fl (x k)<=256:=by
 obtain⟨D,h0,h1,h2⟩:=h;exact(h2 k).rp h0 h1 (by decide) (by decide)
theorem yL.fI {x:Nat->Rat}(h:yL x):fl (x 0+x 1)<=256/\fl (x 0+x 1-x 2)<=256/\fl (x 0+x 1-x 2+x 3)<=256/\fl (x 0+x 1-x 2+x 3-x 4)<=256/\fl (x 0+x 1-x 2+x 3-x 4-x 5)<=256:=by
 obtain⟨D,h0,h1,h2⟩:=h;have a1:=(h2 0).add (h2 1);have a2:=a1.sub (h2 2);have a3:=a2.add (h2 3);have a4:=a3.sub (h2 4);have a5:=a4.sub (h2 5);exact⟨a1.rp h0 h1 (by decide) (by decide),a2.rp h0 h1 (by decide) (by decide),a3.rp h0 h1 (by decide) (by decide),a4.rp h0 h1 (by decide) (by decide),a5.rp h0 h1 (by decide) (by decide)⟩
theorem yL.src {x:Nat->Rat}(h:yL x):fl (x 7+x 8)<=256/\fl (x 7+x 8+x 9)<=256:=by
 obtain⟨D,h0,h1,h2⟩:=h;have a1:=(h2 7).add (h2 8);have a2:=a1.add (h2 9);exact⟨a1.rp h0 h1 (by decide) (by decide),a2.rp h0 h1 (by decide) (by decide)⟩
theorem yL.amz {x:Nat->Rat}(h:yL x):fl (x 0+x 1+x 3)<=256/\fl (x 2+x 4)<=256/\fl (x 0+x 1+x 3-(x 2+x 4))<=256/\fl (x 0+x 1+x 3-(x 2+x 4)-x 5)<=256:=by
 obtain⟨D,h0,h1,h2⟩:=h;have a1:=((h2 0).add (h2 1)).add (h2 3);have a2:=(h2 2).add (h2 4);have a3:=a1.sub a2;have a4:=a3.sub (h2 5);exact⟨a1.rp h0 h1 (by decide) (by decide),a2.rp h0 h1 (by decide) (by decide),a3.rp h0 h1 (by decide) (by decide),a4.rp h0 h1 (by decide) (by decide)⟩
theorem yL.exp {x:Nat->Rat}(h:yL x):fl (x 1+x 3)<=256/\fl (x 1+x 3-x 2)<=256:=by
 obtain⟨D,h0,h1,h2⟩:=h;have a1:=(h2 1).add (h2 3);have a2:=a1.sub (h2 2);exact⟨a1.rp h0 h1 (by decide) (by decide),a2.rp h0 h1 (by decide) (by decide)⟩
end Go.Proofs.YtclbiihcbfnjmaaGreat
