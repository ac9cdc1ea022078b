/-
  Parts.
-/
import Derived.Test.YtclbiihcbfnjmaaGreatK21
namespace Go.Proofs.YtclbiihcbfnjmaaGreat
open Go.RowKit

def Rw (T:TypeId)(m g n cap:Nat)(e:Nat->List Value)(W:World):Prop:=
 n<=cap/\cap<=maxLen/\∃cs:Array Value,ak T g cs W/\cs.size=cap*m/\(∀(i:Nat) (v:Value),cs[i]?=some v->aJ v=true)/\
  ∀k,k<n->∀i,i<m->cs[k*m+i]?=(e k)[i]?
def qx (e:Nat->List Value)(j:Nat)(x:List Value):Nat->List Value:=fun k=>if k=j then x else e k
theorem EI {k n m i:Nat}(hk:k<n)(hi:i<m):k*m+i<n*m:=
 Nat.lt_of_lt_of_le (show k*m+i<(k+1)*m by rw[Nat.succ_mul];omega) (Nat.mul_le_mul_right m hk)
theorem wz {k j m i:Nat}(hne:k≠j)(hi:i<m):¬(j*m<=k*m+i/\k*m+i<j*m+m):=fun h=>by
 rcases Nat.lt_or_gt_of_ne hne with h1|h1
 ·have:=EI h1 hi;omega
 ·
  have:=Nat.mul_le_mul_right m (show j+1<=k from h1);rw[Nat.succ_mul] at this;omega
theorem EP {t:TypeId}{g:Nat}:∀(vs:List Value) (o:Nat) (cs:Array Value) (U:World),ak t g cs U->o+vs.length<=cs.size->
  ∃ds,ak t g ds (U.setCells g o vs)/\ds.size=cs.size/\∀i,ds[i]?=if o<=i/\i<o+vs.length then vs[i-o]? else cs[i]?:=fun vs=>by
 induction vs with
 |nil=>exact fun o cs U h _=>⟨cs,h,rfl,fun i=>(if_neg (by simp only[List.length_nil];omega)).symm⟩
 |cons v r ih=>
  intro o cs U h hl;rw[List.length_cons] at hl;obtain⟨ds,h1,h2,h3⟩:=ih (o+1) (cs.setIfInBounds o v) (U.setCell ⟨g,o,none⟩ v) (h.bW o v) (by rw[Array.size_setIfInBounds];omega);refine⟨ds,h1,by rw[h2,Array.size_setIfInBounds],fun i=> ?_⟩;rw[h3 i,Array.getElem?_setIfInBounds,List.length_cons]
  by_cases e:o=i
  ·
   subst e;rw[if_neg (by omega),if_pos rfl,if_pos (by omega),if_pos (by omega),Nat.sub_self];rfl
  ·
   by_cases e2:o+1<=i/\i<o+1+r.length
   ·
    rw[if_pos e2,if_pos (by omega),show i-o=(i-(o+1))+1 by omega];rfl
   ·rw[if_neg e2,if_neg e,if_neg (by omega)]
section
variable {w w' W:World} {T:TypeId} {m g n cap B:Nat} {e:Nat->List Value}
theorem Rw.lt (h:Rw T m g n cap e W):g<W.heap.size:=by obtain⟨_,_,cs,hb,_⟩:=h;exact hb.lt
theorem Rw.blk (h:Rw T m g n cap e W):∃cs:Array Value,ak T g cs W/\cs.toList.all aJ=true/\cs.size=cap*m:=by
 obtain⟨_,_,cs,hb,h4,h5,_⟩:=h;exact⟨cs,hb,uf h5,h4⟩
theorem Rw.cell (h:Rw T m g n cap e W){k i o:Nat}{v:Value}(hk:k<n)(hi:i<m)(ho:o=k*m+i)(hv:(e k)[i]?=some v):W.cell? ⟨g,o,none⟩=some v:=by
 obtain⟨_,_,cs,hb,_,_,hc⟩:=h;subst ho;rw[hb.cell,hc k hk i hi,hv]
theorem Rw.frozen (h:Rw T m g n cap e W)(i:Nat):W.frozen? ⟨g,i,none⟩=false:=by obtain⟨_,_,cs,hb,_⟩:=h;exact hb.frozen i
theorem Rw.stable (T:TypeId)(m g n cap:Nat)(e:Nat->List Value):bq (Rw T m g n cap e):=fun _ _ hb ⟨h1,h2,cs,h3,h4⟩=>⟨h1,h2,cs,h3.below hb h3.lt,h4⟩
theorem Rw.below (h:Rw T m g n cap e w)(hb:Below w.heap.size w w'):Rw T m g n cap e w':=Rw.stable _ _ _ _ _ _ _ _ hb h
theorem Rw.congr {e':Nat->List Value}(h:Rw T m g n cap e W)(he:∀k,k<n->e k=e' k):Rw T m g n cap e' W:=by
 obtain⟨h1,h2,cs,h3,h4,h5,h6⟩:=h;exact⟨h1,h2,cs,h3,h4,h5,fun k hk i hi=>by rw[h6 k hk i hi,he k hk]⟩
theorem Rw.ax {k:Nat}(h:Rw T m g n cap e w)(hg:w.grownBy w' (some k))(hk:g≠k):Rw T m g n cap e w':=by
 obtain⟨h1,h2,cs,h3,h4⟩:=h;exact⟨h1,h2,cs,h3.ax hg hk,h4⟩
theorem Rw.there (h:Rw T m g n cap e W){k:Nat}(hk:k<n):W.there g (k*m) m:=fun j hj=>by
 obtain⟨h1,_,cs,hb,h4,_,_⟩:=h;refine⟨?_,hb.frozen _⟩;rw[hb.cell,Array.getElem?_eq_getElem (by rw[h4];exact EI (by omega) hj)];rfl
theorem Rw.put (h:Rw T m g n cap e W){j:Nat}(hj:j<n){x:List Value}(hx:x.length=m)(hn:∀v∈x,aJ v=true):Rw T m g n cap (qx e j x) (W.setCells g (j*m) x)/\W.grownBy (W.setCells g (j*m) x) (some g):=by
 obtain⟨h1,h2,cs,h3,h4,h5,h6⟩:=h
 have hend:j*m+m<=cs.size:=by
  rw[h4];have:=Nat.mul_le_mul_right m (show j+1<=cap by omega);rw[Nat.succ_mul] at this;exact this
 obtain⟨ds,k1,k2,k3⟩:=EP x (j*m) cs W h3 (by rw[hx];exact hend);refine⟨⟨h1,h2,ds,k1,by rw[k2,h4],fun i v hv=> ?_,fun k hk i hi=> ?_⟩,(dU x (j*m) W ⟨cs,h3,rfl⟩).1⟩
 ·
  rw[k3] at hv
  split at hv
  ·exact hn v (List.mem_of_getElem? hv)
  ·exact h5 i v hv
 ·
  rw[k3];unfold qx
  by_cases c:k=j
  ·
   subst c;rw[if_pos (by rw[hx];omega),if_pos rfl,Nat.add_sub_cancel_left]
  ·rw[if_neg (by rw[hx];exact wz c hi),if_neg c,h6 k hk i hi]
theorem Rw.fv {q:Rat}{s u:Bool}{A C:Option Addr}{a b:Nat}(h:Rw T m g n cap e w)(hf:FV w q s A a u C b)(hg:w.grownBy w' (some g)):FV w' q s A a u C b:=by
 obtain⟨cs,hb,hn,_⟩:=h.blk;exact hf.ax hb hn hg
end
section
variable {w w' W:World} {T:TypeId} {m b0 n B:Nat} {v:Value} {e:Nat->List Value}
end
theorem NI {olds x rest:List Value}(h1:∀v,v∈olds->aJ v=true)(hx:∀v,v∈x->aJ v=true)(h2:∀v,v∈rest->aJ v=true){cs:Array Value}(e:cs.toList=olds++x++rest):∀(i:Nat) (v:Value),cs[i]?=some v->aJ v=true:=fun i v hv=>by
 have hm:v∈cs.toList:=by rw[Array.mem_toList_iff];exact Array.mem_of_getElem? hv
 rw[e,List.append_assoc] at hm
 rcases List.mem_append.1 hm with hm|hm
 ·exact h1 v hm
 ·
  rcases List.mem_append.1 hm with hm|hm
  ·exact hx v hm
  ·exact h2 v hm
theorem Jh {z:Array Value}(hz:∀v∈z,aJ v=true)(h0:0<z.size){k:Nat}:∀v,v∈(Builtin.zeroCells z k).toList->aJ v=true:=fun v hv=>by
 unfold Builtin.zeroCells at hv;rw[Array.mem_toList_iff,Array.mem_map] at hv;obtain⟨a,_,rfl⟩:=hv;have hlt:a%z.size<z.size:=Nat.mod_lt _ h0;rw[getElem!_pos z _ hlt];exact hz _ (Array.getElem_mem hlt)
theorem Env.Ci {w W:World}{P:World->Prop}{T:TypeId}{m g n cap:Nat}{e:Nat->List Value}(hE:Env w P W)(h:Rw T m g n cap e W):Env w (fun V=>P V/\Rw T m g n cap e V) W:=hE.and (Rw.stable _ _ _ _ _ _) h
section
variable {T:TypeId} {m b0 n:Nat} {v:Value} {e:Nat->List Value} {w w':World}
end
section
variable {w w':World} {t T:TypeId} {m m2 b0 B n n2:Nat} {A:Option Addr} {u v:Value} {e e2:Nat->List Value}
end
end Go.Proofs.YtclbiihcbfnjmaaGreat
