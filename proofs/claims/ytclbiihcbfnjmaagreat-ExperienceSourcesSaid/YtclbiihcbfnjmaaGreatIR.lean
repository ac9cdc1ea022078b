/-
  Parts.
-/
import Derived.Test.YtclbiihcbfnjmaaGreatK21
namespace Go.Proofs.YtclbiihcbfnjmaaGreat
open Go.RowKit

def Rw (T:TypeId)(m g n cap:Nat)(e:Nat->List Value)(W:World):Prop:=
 n<=cap/\cap<=maxLen/\∃cs:Array Value,au T g cs W/\cs.size=cap*m/\(∀(i:Nat) (v:Value),cs[i]?=some v->aP v=true)/\
  ∀k,k<n->∀i,i<m->cs[k*m+i]?=(e k)[i]?
def ade (e:Nat->List Value)(j:Nat)(x:List Value):Nat->List Value:=fun k=>if k=j then x else e k
theorem Rq {k n m i:Nat}(hk:k<n)(hi:i<m):k*m+i<n*m:=
 bY (show k*m+i<(k+1)*m by rw[gj];omega) (dV m hk)
theorem Lr {k j m i:Nat}(hne:k≠j)(hi:i<m):¬(j*m<=k*m+i/\k*m+i<j*m+m):=fun h=>by
 rcases oQ hne with h1|h1
 ·have:=Rq h1 hi;omega
 ·
  have:=dV m (show j+1<=k from h1);rw[gj] at this;omega
theorem Gz {t:TypeId}{g:Nat}:∀(vs:List Value) (o:Nat) (cs:Array Value) (U:World),au t g cs U->o+vs.length<=cs.size->
  ∃ds,au t g ds (U.setCells g o vs)/\ds.size=cs.size/\∀i,ds[i]?=if o<=i/\i<o+vs.length then vs[i-o]? else cs[i]?:=fun vs=>by
 induction vs with
 |nil=>exact fun o cs U h _=>⟨cs,h,rfl,fun i=>(if_neg (by simp only[List.length_nil];omega)).symm⟩
 |cons v r ih=>
  intro o cs U h hl;rw[mS] at hl;obtain⟨ds,h1,h2,h3⟩:=ih (o+1) (cs.setIfInBounds o v) (U.setCell ⟨g,o,none⟩ v) (h.dZ o v) (by rw[Array.size_setIfInBounds];omega);refine⟨ds,h1,by rw[h2,Array.size_setIfInBounds],fun i=> ?_⟩;rw[h3 i,sH,mS]
  by_cases e:o=i
  ·
   subst e;rw[if_neg (by omega),if_pos rfl,if_pos (by omega),if_pos (by omega),Nat.sub_self];rfl
  ·
   by_cases e2:o+1<=i/\i<o+1+r.length
   ·
    rw[if_pos e2,if_pos (by omega),show i-o=(i-(o+1))+1 by omega];rfl
   ·rw[if_neg e2,if_neg e,if_neg (by omega)]
section
variable {w w' W:World} {T:TypeId} {m g n cap B:Nat} {e:Nat->List Value}
theorem Rw.lt (h:Rw T m g n cap e W):g<W.heap.size:=by obtain⟨_,_,cs,hb,_⟩:=h;exact hb.lt
theorem Rw.blk (h:Rw T m g n cap e W):∃cs:Array Value,au T g cs W/\cs.toList.all aP=true/\cs.size=cap*m:=by
 obtain⟨_,_,cs,hb,h4,h5,_⟩:=h;exact⟨cs,hb,vP h5,h4⟩
theorem Rw.cell (h:Rw T m g n cap e W){k i o:Nat}{v:Value}(hk:k<n)(hi:i<m)(ho:o=k*m+i)(hv:(e k)[i]?=some v):W.cell? ⟨g,o,none⟩=some v:=by
 obtain⟨_,_,cs,hb,_,_,hc⟩:=h;subst ho;rw[hb.cell,hc k hk i hi,hv]
theorem Rw.stable (T:TypeId)(m g n cap:Nat)(e:Nat->List Value):ck (Rw T m g n cap e):=fun _ _ hb ⟨h1,h2,cs,h3,h4⟩=>⟨h1,h2,cs,h3.below hb h3.lt,h4⟩
theorem Rw.congr {e':Nat->List Value}(h:Rw T m g n cap e W)(he:∀k,k<n->e k=e' k):Rw T m g n cap e' W:=by
 obtain⟨h1,h2,cs,h3,h4,h5,h6⟩:=h;exact⟨h1,h2,cs,h3,h4,h5,fun k hk i hi=>by rw[h6 k hk i hi,he k hk]⟩
theorem Rw.there (h:Rw T m g n cap e W){k:Nat}(hk:k<n):W.there g (k*m) m:=fun j hj=>by
 obtain⟨h1,_,cs,hb,h4,_,_⟩:=h;refine⟨?_,hb.frozen _⟩;rw[hb.cell,qh (by rw[h4];exact Rq (by omega) hj)];rfl
theorem Rw.put (h:Rw T m g n cap e W){j:Nat}(hj:j<n){x:List Value}(hx:x.length=m)(hn:∀v∈x,aP v=true):Rw T m g n cap (ade e j x) (W.setCells g (j*m) x)/\W.grownBy (W.setCells g (j*m) x) (some g):=by
 obtain⟨h1,h2,cs,h3,h4,h5,h6⟩:=h
 have hend:j*m+m<=cs.size:=by
  rw[h4];have:=dV m (show j+1<=cap by omega);rw[gj] at this;exact this
 obtain⟨ds,k1,k2,k3⟩:=Gz x (j*m) cs W h3 (by rw[hx];exact hend);refine⟨⟨h1,h2,ds,k1,by rw[k2,h4],fun i v hv=> ?_,fun k hk i hi=> ?_⟩,(mO x (j*m) W ⟨cs,h3,rfl⟩).1⟩
 ·
  rw[k3] at hv
  split at hv
  ·exact hn v (List.mem_of_getElem? hv)
  ·exact h5 i v hv
 ·
  rw[k3];unfold ade
  by_cases c:k=j
  ·
   subst c;rw[if_pos (by rw[hx];omega),if_pos rfl,Nat.add_sub_cancel_left]
  ·rw[if_neg (by rw[hx];exact Lr c hi),if_neg c,h6 k hk i hi]
theorem Rw.fv {q:Rat}{s u:Bool}{A C:Option Addr}{a b:Nat}(h:Rw T m g n cap e w)(hf:FV w q s A a u C b)(hg:w.grownBy w' (some g)):FV w' q s A a u C b:=by
 obtain⟨cs,hb,hn,_⟩:=h.blk;exact hf.aD hb hn hg
end
section
variable {w w' W:World} {T:TypeId} {m b0 n B:Nat} {v:Value} {e:Nat->List Value}
end
theorem Env.PU {w W:World}{P:World->Prop}{T:TypeId}{m g n cap:Nat}{e:Nat->List Value}(hE:Env w P W)(h:Rw T m g n cap e W):Env w (fun V=>P V/\Rw T m g n cap e V) W:=hE.and (Rw.stable _ _ _ _ _ _) h
section
variable {T:TypeId} {m b0 n:Nat} {v:Value} {e:Nat->List Value} {w w':World}
end
section
variable {w w':World} {t T:TypeId} {m m2 b0 B n n2:Nat} {A:Option Addr} {u v:Value} {e e2:Nat->List Value}
end
end Go.Proofs.YtclbiihcbfnjmaaGreat
