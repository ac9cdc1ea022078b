/-
  Parts.
-/
import Derived.Test.YtclbiihcbfnjmaaGreatK18
namespace Go.Proofs.YtclbiihcbfnjmaaGreat

def gs (x:Nat->Rat):Nat->Rat
 |0=>0
 |g+1=>gs x g+x g
def gp (P:Nat->Nat):Nat->Nat
 |0=>1
 |g+1=>gp P g*P g
theorem gp_pos {P:Nat->Nat}:∀{g:Nat},(∀j,j<g->0<P j)->0<gp P g
 |0,_=>by simp[gp]
 |g+1,h=>Nat.mul_pos (gp_pos fun j hj=>h j (by omega)) (h g (by omega))
theorem gp_dvd (P:Nat->Nat):∀{g j:Nat},j<g->P j∣gp P g
 |0,_,h=>absurd h (by omega)
 |g+1,j,h=>by
  rcases Nat.lt_or_ge j g with h1|h1
  ·exact Nat.dvd_trans (gp_dvd P h1) (Nat.dvd_mul_right _ _)
  ·
   obtain rfl:j=g:=by omega
   exact Nat.dvd_mul_left _ _
theorem gp_le {P:Nat->Nat}{k:Nat}:∀{g:Nat},(∀j,j<g->P j<=b16^k)->gp P g<=b16^(g*k)
 |0,_=>by simp[gp]
 |g+1,h=>by
  rw[Nat.succ_mul,Nat.pow_add];exact Nat.mul_le_mul (gp_le fun j hj=>h j (by omega)) (h g (by omega))
theorem gs_sz {x:Nat->Rat}{P:Nat->Nat}{C M G:Nat}(h:∀j,j<G->Sz (C*P j) M (x j)):∀g,g<=G->Sz (C*gp P G) (g*M) (gs x g)
 |0,_=>by rw[Nat.zero_mul];exact⟨⟨0,by simp[gs]⟩,by simp[gs],by simp[gs]⟩
 |g+1,hg=>by
  rw[Nat.succ_mul];exact(gs_sz h g (by omega)).add ((h g (by omega)).more (Nat.mul_dvd_mul_left C (gp_dvd P (by omega))) (Nat.le_refl _))
def rep (it:Nat->Nat->Rat)(G k:Nat):Rat:=gs (fun g=>it g k) G
theorem rep_succ (it:Nat->Nat->Rat)(G k:Nat):rep it (G+1) k=rep it G k+it G k:=rfl
theorem rep_spl {it:Nat->Nat->Rat}:∀{G:Nat},(∀g,g<G->spl (it g)=it g 7+it g 8+it g 9)->spl (rep it G)=rep it G 7+rep it G 8+rep it G 9
 |0,_=>by unfold spl rep;simp only[gs];grind
 |G+1,h=>by
  have h1:=rep_spl (G:=G) fun g hg=>h g (by omega)
  have h2:=h G (by omega);unfold spl at h1 h2⊢;simp only[rep_succ]
  grind
def RpS (x:Nat->Rat):Prop:=∃D,0<D/\D<=b16^208/\∀k,Sz D (6*b16^10) (x k)
theorem Sz.rp {D M:Nat}{q:Rat}(h:Sz D M q)(hD:0<D)(hj:D<=b16^208)(h0:0<M)(hM:M<=b16^11):Go.Proofs.YtclbiihcbfnjmaaGreat.fl q<=256:=Nat.le_trans (h.fl hD h0 hM hj) (by decide)
theorem rep_rps {it:Nat->Nat->Rat}{G C:Nat}{P:Nat->Nat}(hG:G<=6)(hC:0<C)(hC2:C<=b16^46)(hP:∀j,j<G->0<P j/\P j<=b16^27)(h:∀j,j<G->∀k,Sz (C*P j) (b16^10) (it j k)):∀g,g<=G->RpS (rep it g):=fun g hg=>by
 refine⟨C*gp P G,Nat.mul_pos hC (gp_pos fun j hj=>(hP j hj).1), ?_,fun k=> ?_⟩
 ·
  have h1:=gp_le (g:=G) fun j hj=>(hP j hj).2
  have h2:b16^(G*27)<=b16^(6*27):=Nat.pow_le_pow_right (by decide) (Nat.mul_le_mul_right _ hG)
  have e:b16^208=b16^46*b16^(6*27):=by rw[<-Nat.pow_add]
  rw[e];exact Nat.mul_le_mul hC2 (Nat.le_trans h1 h2)
 ·exact(gs_sz (x:=fun j=>it j k) (fun j hj=>h j hj k) g hg).more (Nat.dvd_refl _) (Nat.mul_le_mul_right _ (by omega))
theorem RpS.l {x:Nat->Rat}(h:RpS x)(k:Nat):fl (x k)<=256:=by
 obtain⟨D,h0,h1,h2⟩:=h;exact(h2 k).rp h0 h1 (by decide) (by decide)
theorem RpS.spl {x:Nat->Rat}(h:RpS x):fl (x 0+x 1)<=256/\fl (x 0+x 1-x 2)<=256/\fl (x 0+x 1-x 2+x 3)<=256/\fl (x 0+x 1-x 2+x 3-x 4)<=256/\fl (x 0+x 1-x 2+x 3-x 4-x 5)<=256:=by
 obtain⟨D,h0,h1,h2⟩:=h;have a1:=(h2 0).add (h2 1);have a2:=a1.sub (h2 2);have a3:=a2.add (h2 3);have a4:=a3.sub (h2 4);have a5:=a4.sub (h2 5);exact⟨a1.rp h0 h1 (by decide) (by decide),a2.rp h0 h1 (by decide) (by decide),a3.rp h0 h1 (by decide) (by decide),a4.rp h0 h1 (by decide) (by decide),a5.rp h0 h1 (by decide) (by decide)⟩
theorem RpS.src {x:Nat->Rat}(h:RpS x):fl (x 7+x 8)<=256/\fl (x 7+x 8+x 9)<=256:=by
 obtain⟨D,h0,h1,h2⟩:=h;have a1:=(h2 7).add (h2 8);have a2:=a1.add (h2 9);exact⟨a1.rp h0 h1 (by decide) (by decide),a2.rp h0 h1 (by decide) (by decide)⟩
theorem RpS.fund {x:Nat->Rat}(h:RpS x):fl (x 0+x 1+x 3)<=256/\fl (x 2+x 4)<=256/\fl (x 0+x 1+x 3-(x 2+x 4))<=256/\fl (x 0+x 1+x 3-(x 2+x 4)-x 5)<=256:=by
 obtain⟨D,h0,h1,h2⟩:=h;have a1:=((h2 0).add (h2 1)).add (h2 3);have a2:=(h2 2).add (h2 4);have a3:=a1.sub a2;have a4:=a3.sub (h2 5);exact⟨a1.rp h0 h1 (by decide) (by decide),a2.rp h0 h1 (by decide) (by decide),a3.rp h0 h1 (by decide) (by decide),a4.rp h0 h1 (by decide) (by decide)⟩
end Go.Proofs.YtclbiihcbfnjmaaGreat
