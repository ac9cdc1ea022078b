/-
  Parts.
-/
import Derived.Test.YtclbiihcbfnjmaaGreatK18
namespace Go.Proofs.YtclbiihcbfnjmaaGreat

def gs (x:Nat->Rat):Nat->Rat
 |0=>0
 |g+1=>gs x g+x g
def gp (P:Nat->Nat):Nat->Nat
 |0=>1
 |g+1=>gp P g*P g
theorem Ro {P:Nat->Nat}:∀{g:Nat},(∀j,j<g->0<P j)->0<gp P g
 |0,_=>by simp[gp]
 |g+1,h=>dP (Ro fun j hj=>h j (by omega)) (h g (by omega))
theorem Rp (P:Nat->Nat):∀{g j:Nat},j<g->P j∣gp P g
 |0,_,h=>absurd h (by omega)
 |g+1,j,h=>by
  rcases cX j g with h1|h1
  ·exact ji (Rp P h1) (kg _ _)
  ·
   obtain rfl:j=g:=by omega
   exact ow _ _
theorem ZZ {P:Nat->Nat}{k:Nat}:∀{g:Nat},(∀j,j<g->P j<=ai^k)->gp P g<=ai^(g*k)
 |0,_=>by simp[gp]
 |g+1,h=>by
  rw[gj,dK];exact dU (ZZ fun j hj=>h j (by omega)) (h g (by omega))
theorem aac {x:Nat->Rat}{P:Nat->Nat}{C M G:Nat}(h:∀j,j<G->Sz (C*P j) M (x j)):∀g,g<=G->Sz (C*gp P G) (g*M) (gs x g)
 |0,_=>by rw[Nat.zero_mul];exact⟨⟨0,by simp[gs]⟩,by simp[gs],by simp[gs]⟩
 |g+1,hg=>by
  rw[gj];exact(aac h g (by omega)).add ((h g (by omega)).more (Nat.mul_dvd_mul_left C (Rp P (by omega))) (aq _))
def rep (it:Nat->Nat->Rat)(G k:Nat):Rat:=gs (fun g=>it g k) G
def RpS (x:Nat->Rat):Prop:=∃D,0<D/\D<=ai^208/\∀k,Sz D (6*ai^10) (x k)
theorem Sz.rp {D M:Nat}{q:Rat}(h:Sz D M q)(hD:0<D)(hj:D<=ai^208)(h0:0<M)(hM:M<=ai^11):Go.Proofs.YtclbiihcbfnjmaaGreat.fl q<=256:=ay (h.fl hD h0 hM hj) (by decide)
theorem Wq {it:Nat->Nat->Rat}{G C:Nat}{P:Nat->Nat}(hG:G<=6)(hC:0<C)(hC2:C<=ai^46)(hP:∀j,j<G->0<P j/\P j<=ai^27)(h:∀j,j<G->∀k,Sz (C*P j) (ai^10) (it j k)):∀g,g<=G->RpS (rep it g):=fun g hg=>by
 refine⟨C*gp P G,dP hC (Ro fun j hj=>(hP j hj).1), ?_,fun k=> ?_⟩
 ·
  have h1:=ZZ (g:=G) fun j hj=>(hP j hj).2
  have h2:ai^(G*27)<=ai^(6*27):=jH (by decide) (dV _ hG)
  have e:ai^208=ai^46*ai^(6*27):=by rw[<-dK]
  rw[e];exact dU hC2 (ay h1 h2)
 ·exact(aac (x:=fun j=>it j k) (fun j hj=>h j hj k) g hg).more (fB _) (dV _ (by omega))
theorem RpS.l {x:Nat->Rat}(h:RpS x)(k:Nat):fl (x k)<=256:=by
 obtain⟨D,h0,h1,h2⟩:=h;exact(h2 k).rp h0 h1 (by decide) (by decide)
theorem RpS.KL {x:Nat->Rat}(h:RpS x):fl (x 0+x 1)<=256/\fl (x 0+x 1-x 2)<=256/\fl (x 0+x 1-x 2+x 3)<=256/\fl (x 0+x 1-x 2+x 3-x 4)<=256/\fl (x 0+x 1-x 2+x 3-x 4-x 5)<=256:=by
 obtain⟨D,h0,h1,h2⟩:=h;have a1:=(h2 0).add (h2 1);have a2:=a1.sub (h2 2);have a3:=a2.add (h2 3);have a4:=a3.sub (h2 4);have a5:=a4.sub (h2 5);exact⟨a1.rp h0 h1 (by decide) (by decide),a2.rp h0 h1 (by decide) (by decide),a3.rp h0 h1 (by decide) (by decide),a4.rp h0 h1 (by decide) (by decide),a5.rp h0 h1 (by decide) (by decide)⟩
end Go.Proofs.YtclbiihcbfnjmaaGreat
