/-
  Parts.
-/
import Derived.Test.YtclbiihcbfnjmaaGreatK7
namespace Go.Proofs.YtclbiihcbfnjmaaGreat
open Go.RowKit

section
variable {P:Program} {ops:Array Oper} {Q:Exit->Act->World->Prop} {md:Region.Mode} {S:World->Prop}

def jj (md:Region.Mode)(ops:Array Oper)(i:Nat):List Nat:=((ops[i]?).map fun o=>(o.after.toList.filter (Region.binds md)).map (·.on)).getD []
def AW (md:Region.Mode)(ops:Array Oper)(rs:List Nat):Nat->List Nat->List Nat
 |0,S=>S
 |n+1,S=>AW md ops rs n (rs.filter fun i=>S.contains i||rs.any fun k=>S.contains k&&(jj md ops k).contains i)
theorem vQ {rs:List Nat}{U:Nat->Prop}(uF:∀k∈rs,U k->∀d∈jj md ops k,U d):∀(n:Nat) (S:List Nat),(∀i∈S,U i)->∀i∈AW md ops rs n S,U i
 |0,_,h=>h
 |n+1,S,h=>vQ uF n _ fun i hi=>by
  have h1:=(List.mem_filter.1 hi).2;rw[Bool.or_eq_true,List.any_eq_true] at h1
  rcases h1 with h1|⟨k,hk,h1⟩
  ·exact h i (by simpa using h1)
  ·
   rw[iP] at h1;exact uF k hk (h k (by simpa using h1.1)) i (by simpa using h1.2)
def AX (md:Region.Mode)(ops:Array Oper)(L:Array Bool)(rs:List Nat):Bool:=
 (List.range ops.size).all fun j=>L.getD j true||rs.contains j||rs.all (fun i=>(AW md ops rs rs.length (rs.filter fun k=>(jj md ops j).contains k)).contains i)||(jj md ops j).any fun k=> !rs.contains k&& !L.getD k false

def GA (md:Region.Mode)(ops:Array Oper)(L:Array Bool)(rs:List Nat):Bool:=
 rs.all fun i=>decide (i<ops.size)&&(jj md ops i).all fun j=>if rs.contains j then decide (j<i) else L.getD j false
theorem mT {L:Array Bool}{i j:Nat}(h:i∈Region.ready md ops L)(hj:j∈jj md ops i):L.getD j false=true:=by
 obtain⟨_,o,ho,hall⟩:=mem_ready.1 h;unfold jj at hj;rw[ho] at hj;simp only[Option.map_some,Option.getD_some,List.mem_map,List.mem_filter,Array.mem_toList_iff] at hj;obtain⟨e,⟨he,hb⟩,rfl⟩:=hj;exact hall e he hb

def bf (P:Program)(md:Region.Mode)(ops:Array Oper)(Q:Exit->Act->World->Prop)(S:World->Prop)(I:(Nat->Prop)->Act->World->Prop)(ks:List Nat):Prop:=
 ∀i∈ks,∀D a w,I D a w->(∀j∈jj md ops i,D j)->wpOp P ops Q i (fun a' w'=>S w'/\I (fun j=>j=i\/D j) a' w') a w
theorem bf.nil {I:(Nat->Prop)->Act->World->Prop}:bf P md ops Q S I []:=fun _ h=>by cases h
theorem bf.cons {I:(Nat->Prop)->Act->World->Prop}{i:Nat}{o:Oper}{ds ks:List Nat}(ho:ops[i]?=some o)(hd:jj md ops i=ds)
  (h:∀D a w,I D a w->(∀j∈ds,D j)->∀K':Act->World->Prop,Shut (∀a w,S w->I (fun j=>j=i\/D j) a w->K' a w)->if Region.wanted o (yielded ops a.tmps)=true then Oper.wp P o a w K' Q else K' (a.put o.dst undef) w)
  (hs:bf P md ops Q S I ks):bf P md ops Q S I (i::ks):=fun j hj=>by
 rcases List.mem_cons.1 hj with rfl|hj
 ·
  intro D a w hI aow;exact wpOp_step ho (fun K' hK=>h D a w hI (by rw[<-hd];exact aow) K' (fun a w hS hW=>hK a w ⟨hS,hW⟩))
 ·exact hs j hj

theorem Rr {L:Array Bool}{i:Nat}(hi:i<ops.size)(h0:L.getD i true=false)(h:∀j∈jj md ops i,L.getD j false=true):i∈Region.ready md ops L:=by
 refine mem_ready.2 ⟨h0,ops[i],qh hi,fun e he hb=>h _ ?_⟩;unfold jj;rw[qh hi];simp only[Option.map_some,Option.getD_some,List.mem_map,List.mem_filter,Array.mem_toList_iff];exact⟨e,⟨he,hb⟩,rfl⟩
theorem yB {p:Nat->Bool}{i:Nat}:∀{rs:List Nat},rs.Nodup->i∈rs->p i=true->(rs.filter fun j=>p j&&decide (j≠i)).length+1=(rs.filter p).length
 |[],_,h,_=>by cases h
 |r::rs,hn,h,hp=>by
  rw[ox] at hn
  by_cases e:r=i
  ·
   subst e
   have h1:(rs.filter fun j=>p j&&decide (j≠r))=rs.filter p:=List.filter_congr fun j hj=>by
    have:j≠r:=fun e=>hn.1 (e▸hj)
    simp[this]
   rw[List.filter_cons_of_neg (by simp),List.filter_cons_of_pos hp,h1,mS]
  ·
   have hr:i∈rs:=(List.mem_cons.1 h).resolve_left (fun x=>e x.symm);have ih:=yB hn.2 hr hp
   by_cases hq:p r=true
   ·rw[List.filter_cons_of_pos (by simp[hq,e]),List.filter_cons_of_pos hq,mS,mS,ih]
   ·rw[List.filter_cons_of_neg (by simp[hq]),List.filter_cons_of_neg hq,ih]
theorem qY {L:Array Bool}{i:Nat}(h:L.getD i true=false):i<L.size/\L.getD i false=false:=by
 rcases cX i L.size with h1|h1
 ·simp[h1] at h⊢;exact h
 ·simp[Array.getElem?_eq_none h1] at h
theorem aif {L:Array Bool}{i:Nat}(hi:i<L.size):(fun j=>(L.setIfInBounds i true).getD j false=true)=fun j=>j=i\/L.getD j false=true:=by
 funext j
 apply propext
 by_cases h:i=j
 ·subst h;simp[hi]
 ·
  rw[getD_set_ne false h]
  constructor
  ·exact .inr
  ·
   rintro(e|e)
   ·exact absurd e.symm h
   ·exact e

theorem Rs {I:(Nat->Prop)->Act->World->Prop}{rs:List Nat}{L0 L1:Array Bool}{f1:Nat}
  (hw:AX md ops L0 rs=true) (hg:GA md ops L0 rs=true) (hsz:L0.size=ops.size) (hL1:L1=rs.foldl (fun L i=>L.setIfInBounds i true) L0)
  (hst:bf P md ops Q S I rs)
  (hend:∀D a w,I D a w->(∀i∈rs,D i)->wpAnyH P md ops Q S f1 L1 a w):
  ∀(m:Nat) (L:Array Bool) (a:Act) (w:World),(rs.filter fun i=> !L.getD i false).length=m->L.size=L0.size->(∀j,j∉rs->L.getD j true=L0.getD j true)->rs.Nodup->(∀i∈rs,i<L0.size)->
   (∀k∈rs,L.getD k false=true->∀d∈jj md ops k,L.getD d false=true)->I (fun j=>L.getD j false=true) a w->wpAnyH P md ops Q S (m+f1) L a w:=by
 intro m
 induction m with
 |zero=>
  intro L a w hm hs ho JG hlt _ hI
  have hall:∀i∈rs,L.getD i false=true:=fun i hi=>by
   have h0:=List.length_eq_zero_iff.1 hm;rw[List.filter_eq_nil_iff] at h0
   simpa using h0 i hi
  have aih:∀(ks:List Nat) (L:Array Bool),(ks.foldl (fun L i=>L.setIfInBounds i true) L).size=L.size/\∀j,(ks.foldl (fun L i=>L.setIfInBounds i true) L).getD j true=if j∈ks then true else L.getD j true:=by
   intro ks
   induction ks with
   |nil=>intro L;simp
   |cons k ks ih=>
    intro L;obtain⟨h1,h2⟩:=ih (L.setIfInBounds k true);refine⟨by rw[List.foldl_cons,h1];simp,fun j=> ?_⟩;rw[List.foldl_cons,h2]
    by_cases hj:j∈ks
    ·simp[hj]
    ·
     by_cases hk:k=j
     ·
      subst hk;simp only[hj,if_false,List.mem_cons,true_or,if_true]
      rcases cX k L.size with h|h
      ·simp[h]
      ·simp[h]
     ·
      rw[getD_set_ne true hk]
      simp[hj,Ne.symm hk]
  obtain⟨g1,g2⟩:=aih rs L0
  have e:L=L1:=by
   rw[hL1];apply Array.ext (by rw[hs,g1]);intro i h1 h2;have a1:=g2 i
   by_cases hi:i∈rs
   ·
    have b1:=hall i hi
    simp[h1] at b1
    simp[h2,hi] at a1
    rw[a1,b1]
   ·
    have b1:=ho i hi
    have h3:i<L0.size:=by rw[<-hs];exact h1
    simp[h1,h3] at b1
    simp[h2,hi,h3] at a1
    rw[a1,b1]
  subst e;rw[fk];exact hend _ a w hI hall
 |succ m ih=>
  intro L a w hm hs ho JG hlt uF hI;rw[Nat.succ_add]
  have hne:rs.filter (fun i=> !L.getD i false)≠ []:=fun e=>by rw[e] at hm;cases hm
  obtain⟨r,hr⟩:=List.exists_mem_of_ne_nil _ hne;have hrr:=List.mem_filter.1 hr
  have hun:L.getD r false=false:=by simpa using hrr.2
  -- ak1 comes up is one of rs
  have hin:∀i∈Region.ready md ops L,i∈rs:=fun i hi=>by
   refine Classical.byContradiction fun hn=> ?_
   have h0:=(mem_ready.1 hi).1;have xy:=(qY h0).1;have h1:=ho i hn;rw[h0] at h1;unfold AX at hw;rw[jZ] at hw;have h2:=hw i (List.mem_range.2 (by omega));rw[<-h1] at h2;simp only[Bool.false_or,Bool.or_eq_true,List.contains_iff_mem,List.all_eq_true,List.any_eq_true,Bool.and_eq_true,Bool.not_eq_true'] at h2
   rcases h2 with(h2|h2)|⟨k,hk,h3,h4⟩
   ·exact hn h2
   ·
    have:=vQ (U:=fun j=>L.getD j false=true) uF _ _ (fun k hk=>mT hi (by simpa using(List.mem_filter.1 hk).2)) r (h2 r hrr.1);rw[hun] at this;cases this
   ·
    have h5:=mT hi hk
    have h6:k∉rs:=by simpa using h3
    have h7:=ho k h6
    rcases cX k L.size with h|h
    ·
     have h8:k<L0.size:=by omega
     simp[h,h8] at h5 h7 h4
     rw[h5,h4] at h7
     cases h7
    ·simp[Array.getElem?_eq_none h] at h5
  have hgo:∀(k r:Nat),r<k->r∈rs->L.getD r false=false->Region.ready md ops L≠ []:=by
   intro k
   induction k with
   |zero=>exact fun r h=>absurd h (nY r)
   |succ k ihk=>
    intro r hk hr hun e;unfold GA at hg;rw[jZ] at hg;have h1:=hg r hr;rw[iP,jZ] at h1;have hrl:r<ops.size:=kO h1.1
    have hlr:r<L.size:=by omega
    by_cases hd:∀j∈jj md ops r,L.getD j false=true
    ·
     have:=Rr hrl (by simp[hlr] at hun⊢;exact hun) hd;rw[e] at this
     cases this
    ·
     obtain⟨j,hj⟩:=Classical.not_forall.1 hd;obtain⟨hjd,hju⟩:=Classical.not_imp.1 hj;have h2:=h1.2 j hjd
     by_cases hjr:j∈rs
     ·
      rw[if_pos (by simpa using hjr)] at h2;have h3:=kO h2;exact ihk j (by omega) hjr (by simpa using hju) e
     ·
      rw[if_neg (by simpa using hjr)] at h2;have h7:=ho j hjr
      rcases cX j L0.size with h|h
      ·
       have h8:j<L.size:=by omega
       simp[h,h8] at h2 h7 hju
       rw[h2,hju] at h7
       cases h7
      ·simp[Array.getElem?_eq_none h] at h2
  refine⟨fun h=>absurd h (hgo (r+1) r (mL r) hrr.1 hun),fun i hi=> ?_⟩
  ·
   have hir:=hin i hi;have h0:=(mem_ready.1 hi).1;obtain⟨hl,hu⟩:=qY h0;refine wpOp_mono (fun a' w' h=>⟨h.1, ?_⟩) (hst i hir _ a w hI (fun j hj=>mT hi hj));refine ih _ a' w' ?_ (by simp[hs]) (fun j hj=> ?_) JG hlt (fun k hk JE d hd=> ?_) (by rw[aif hl];exact h.2)
   ·
    have h5:=yB (p:=fun i=> !L.getD i false) JG hir (by simp only[hu];rfl);rw[hm] at h5;rw[<-Nat.succ.inj h5]
    congr 1
    refine List.filter_congr fun j hj=> ?_
    by_cases e:j=i
    ·subst e;simp[hl]
    ·rw[getD_set_ne false (Ne.symm e)];simp[e]
   ·rw[getD_set_ne true (fun(e:i=j)=>hj (e▸hir))];exact ho j hj
   ·
    by_cases e:i=k
    ·subst e;exact getD_set_true (mT hi hd)
    ·
     rw[getD_set_ne false e] at JE;exact getD_set_true (uF k hk JE d hd)
theorem fR {I:(Nat->Prop)->Act->World->Prop}{fuel:Nat}{a:Act}{w:World}(rs:List Nat){L0 L1:Array Bool}{f1:Nat}
  (hw:AX md ops L0 rs=true) (hg:GA md ops L0 rs=true) (hsz:decide (L0.size=ops.size)=true) (hL1:rs.foldl (fun L i=>L.setIfInBounds i true) L0=L1)
  (JG:decide (rs.Nodup)=true) (hun:(rs.all fun i=> !L0.getD i true)=true) (hf:fuel=rs.length+f1)
  (h0:I (fun j=>L0.getD j false=true) a w) (hst:bf P md ops Q S I rs) (hend:∀D a w,I D a w->(∀i∈rs,D i)->wpAnyH P md ops Q S f1 L1 a w):
  wpAnyH P md ops Q S fuel L0 a w:=by
 have hu:∀i∈rs,L0.getD i true=false:=fun i hi=>by
  rw[jZ] at hun
  simpa using hun i hi
 rw[hf];refine Rs hw hg (kO hsz) hL1.symm hst hend rs.length L0 a w ?_ rfl (fun _ _=>rfl) (kO JG) (fun i hi=>(qY (hu i hi)).1) (fun k hk h9=>by rw[(qY (hu k hk)).2] at h9;cases h9) h0;rw[List.filter_eq_self.2 fun i hi=>by rw[(qY (hu i hi)).2];rfl]
end
structure cO where
 i:Nat
 t:Tmp
 R:Value->World->Prop
def ct (a:Act):List cO->List Value->Act
 |f::F,x::xs=>ct (a.put (some f.t) x) F xs
 |_,_=>a
def eM (D:Nat->Prop)(W:World):List cO->List Value->Prop
 |[],[]=>True
 |f::F,x::xs=>(D f.i->f.R x W)/\eM D W F xs
 |_,_=>False
def ew (D:Nat->Prop)(W:World):List cO->List Value->Prop
 |f::F,x::xs=>(D f.i->∀G,x= .pointer (some ⟨G,0,none⟩)->G<W.heap.size)/\(∀(k:Nat) (f':cO) (x':Value),F[k]?=some f'->xs[k]?=some x'->D f.i->D f'.i->∀G,x= .pointer (some ⟨G,0,none⟩)->x'= .pointer (some ⟨G,0,none⟩)->False)/\ew D W F xs
 |_,_=>True
theorem eM.av {D:Nat->Prop}{W:World}{f:cO}{F:List cO}{xs:List Value}(h:eM D W (f::F) xs):∃x ys,xs=x::ys/\(D f.i->f.R x W)/\eM D W F ys:=by
 cases xs with
 |nil=>exact h.elim
 |cons x ys=>exact⟨x,ys,rfl,h⟩
theorem eM.nil {D:Nat->Prop}{W:World}{xs:List Value}(h:eM D W [] xs):xs=[]:=by
 cases xs with
 |nil=>rfl
 |cons=>exact h.elim
theorem eM.len {D:Nat->Prop}{W:World}:∀{F:List cO} {xs:List Value},eM D W F xs->F.length=xs.length
 |[],[],_=>rfl
 |[],_::_,h=>h.elim
 |_::_,[],h=>h.elim
 |_::F,_::xs,h=>by rw[mS,mS,eM.len h.2]
theorem eM.next {D:Nat->Prop}{W W':World}{v:Value}{f:cO}(hb:Below W.heap.size W W')(hv:f.R v W'):∀{F:List cO} {xs:List Value} (k:Nat),(F.map (·.i)).Nodup->(∀g∈F,∀x,ck (g.R x))->F[k]?=some f->eM D W F xs->eM (fun j=>j=f.i\/D j) W' F (xs.set k v)
 |[],_,k,_,_,hk,_=>by simp at hk
 |g::F,[],k,_,_,_,h=>h.elim
 |g::F,x::xs,0,hn,hs,hk,h=>by
  have e:g=f:=by simpa using hk
  subst e;refine⟨fun _=>hv, ?_⟩;rw[List.map_cons,ox] at hn
  have all:∀{F:List cO} {xs:List Value},(∀u∈F,u.i≠g.i)->(∀u∈F,∀x,ck (u.R x))->eM D W F xs->eM (fun j=>j=g.i\/D j) W' F xs:=by
   intro F
   induction F with
   |nil=>intro xs _ _ h;cases xs with|nil=>trivial|cons=>exact h.elim
   |cons u F ih=>
    intro xs h1 h2 h
    cases xs with
    |nil=>exact h.elim
    |cons y ys=>exact⟨fun hd=>h2 u (oy ..) y _ _ hb (h.1 (hd.resolve_left (h1 u (oy ..)))),ih (fun z hz=>h1 z (mU _ hz)) (fun z hz=>h2 z (mU _ hz)) h.2⟩
  exact all (fun u hu e=>hn.1 (e▸oR (f:=(·.i)) hu)) (fun u hu=>hs u (mU _ hu)) h.2
 |g::F,x::xs,k+1,hn,hs,hk,h=>by
  rw[List.map_cons,ox] at hn
  have hk':F[k]?=some f:=by simpa using hk
  refine⟨fun hd=>hs g (oy ..) x _ _ hb (h.1 (hd.resolve_left fun e=>hn.1 (e▸oR (f:=(·.i)) (List.mem_of_getElem? hk')))), ?_⟩;exact eM.next hb hv k hn.2 (fun u hu=>hs u (mU _ hu)) hk' h.2
theorem ew.lt {D:Nat->Prop}{W:World}:∀{F:List cO} {xs:List Value} (k:Nat) {f:cO} {x:Value},ew D W F xs->F[k]?=some f->xs[k]?=some x->D f.i->∀G,x= .pointer (some ⟨G,0,none⟩)->G<W.heap.size
 |[],_,k,_,_,_,hk,_,_=>by simp at hk
 |_::_,[],k,_,_,_,_,hx,_=>by simp at hx
 |g::F,y::ys,0,f,x,h,hk,hx,hd=>by
  have e:g=f:=by simpa using hk
  have e2:y=x:=by simpa using hx
  subst e e2;exact h.1 hd
 |g::F,y::ys,k+1,f,x,h,hk,hx,hd=>ew.lt k h.2.2 (by simpa using hk) (by simpa using hx) hd
theorem ew.next {D:Nat->Prop}{W W':World}{v:Value}{f:cO}(hb:Below W.heap.size W W')(hn:∀G,v= .pointer (some ⟨G,0,none⟩)->W.heap.size<=G/\G<W'.heap.size):
  ∀{F:List cO} {xs:List Value} (k:Nat),(F.map (·.i)).Nodup->F.length=xs.length->F[k]?=some f->ew D W F xs->ew (fun j=>j=f.i\/D j) W' F (xs.set k v)
 |[],_,k,_,_,hk,_=>by simp at hk
 |g::F,[],k,_,hl,_,h=>by simp at hl
 |g::F,x::xs,0,JG,hl,hk,h=>by
  have e:g=f:=by simpa using hk
  subst e;rw[List.map_cons,ox] at JG
  have ne:∀u∈F,u.i≠g.i:=fun u hu e=>JG.1 (e▸oR (f:=(·.i)) hu)
  refine⟨fun _ G e=>(hn G e).2,fun k f' x' hf hx _ hd G e1 e2=> ?_, ?_⟩
  ·
   have h1:=ew.lt k h.2.2 hf hx (hd.resolve_left (ne f' (List.mem_of_getElem? hf))) G e2;have h2:=(hn G e1).1;omega
  ·
   have all:∀{F:List cO} {xs:List Value},(∀u∈F,u.i≠g.i)->ew D W F xs->ew (fun j=>j=g.i\/D j) W' F xs:=by
    intro F
    induction F with
    |nil=>intro xs _ _;cases xs<;>trivial
    |cons u F ih=>
     intro xs h1 h
     cases xs with
     |nil=>trivial
     |cons y ys=>
      have r1:=h1 u (oy ..);refine⟨fun hd G e=>bY (h.1 (hd.resolve_left r1) G e) hb.size,fun k f' x' hf hx hd hd' G e1 e2=> ?_,ih (fun z hz=>h1 z (mU _ hz)) h.2.2⟩;exact h.2.1 k f' x' hf hx (hd.resolve_left r1) (hd'.resolve_left (h1 f' (mU _ (List.mem_of_getElem? hf)))) G e1 e2
   exact all ne h.2.2
 |g::F,x::xs,k+1,JG,hl,hk,h=>by
  rw[List.map_cons,ox] at JG
  have hk':F[k]?=some f:=by simpa using hk
  have r1:g.i≠f.i:=fun e=>JG.1 (e▸oR (f:=(·.i)) (List.mem_of_getElem? hk'))
  refine⟨fun hd G e=>bY (h.1 (hd.resolve_left r1) G e) hb.size,fun j f' x' hf hx hd hd' G e1 e2=> ?_, ?_⟩
  ·
   by_cases hj:j=k
   ·
    subst hj
    have hlt:j<xs.length:=by
     have:=(mM.1 hk').1
     simp at hl
     omega
    have e3:v=x':=by simpa [hlt] using hx
    have h1:=h.1 (hd.resolve_left r1) G e1;have h2:=(hn G (e3.trans e2)).1;omega
   ·
    have Ls:xs[j]?=some x':=by rwa [List.getElem?_set_ne (Ne.symm hj)] at hx
    have r2:f'.i≠f.i:=fun e=>by
     have a1:=mM.1 hf;have a2:=mM.1 hk';obtain⟨b1,b2⟩:=a1;obtain⟨c1,c2⟩:=a2
     have hm:(F.map (·.i))[j]'(by simpa using b1)=(F.map (·.i))[k]'(by simpa using c1):=by simp[b2,c2,e]
     have h9:=List.pairwise_iff_getElem.1 JG.2
     rcases oQ hj with h|h
     ·exact h9 _ _ _ _ h hm
     ·exact h9 _ _ _ _ h hm.symm
    exact h.2.1 j f' x' hf Ls (hd.resolve_left r1) (hd'.resolve_left r2) G e1 e2
  ·exact ew.next hb hn k JG.2 (by simpa using hl) hk' h.2.2
theorem yD {v:Value}{f:cO}:∀{F:List cO} {xs:List Value} (k:Nat) (a:Act),(F.map (·.t)).Nodup->F.length=xs.length->F[k]?=some f->ct a F (xs.set k v)=(ct a F xs).put (some f.t) v
 |[],_,k,_,_,_,hk=>by simp at hk
 |g::F,[],k,_,_,hl,hk=>by simp at hl
 |g::F,x::xs,0,a,hn,hl,hk=>by
  have e:g=f:=by simpa using hk
  subst e;rw[List.map_cons,ox] at hn;show ct (a.put (some g.t) v) F xs=(ct (a.put (some g.t) x) F xs).put (some g.t) v
  have all:∀{F:List cO} {xs:List Value} (a:Act),(∀u∈F,u.t≠g.t)->ct (a.put (some g.t) v) F xs=(ct (a.put (some g.t) x) F xs).put (some g.t) v:=by
   intro F
   induction F with
   |nil=>intro xs a _;cases xs<;>simp[ct,Act.put]
   |cons u F ih=>
    intro xs a h1
    cases xs with
    |nil=>simp[ct,Act.put]
    |cons y ys=>
     have r1:=h1 u (oy ..);show ct ((a.put (some g.t) v).put (some u.t) y) F ys=(ct ((a.put (some g.t) x).put (some u.t) y) F ys).put (some g.t) v;rw[Act.put_comm a v y (fun d hd e=>r1 (kC (e.trans hd.symm))),Act.put_comm a x y (fun d hd e=>r1 (kC (e.trans hd.symm)))];exact ih _ (fun z hz=>h1 z (mU _ hz))
  exact all a fun u hu e=>hn.1 (e▸oR (f:=(·.t)) hu)
 |g::F,x::xs,k+1,a,hn,hl,hk=>by
  rw[List.map_cons,ox] at hn;exact yD k _ hn.2 (by simpa using hl) (by simpa using hk)
def AY :List Nat->Bool
 |[]=>true
 |x::xs=>xs.all (fun y=> !Nat.beq x y)&&AY xs
theorem mV :∀{l:List Nat},AY l=true->l.Nodup
 |[],_=>List.nodup_nil
 |x::xs,h=>by
  unfold AY at h;rw[iP,jZ] at h;rw[ox];refine⟨fun hx=> ?_,mV h.2⟩;have:=h.1 x hx
  simp at this
def ep (w:World)(P0:World->Prop)(a0:Act)(b:Nat)(F:List cO)(D:Nat->Prop)(a:Act)(W:World):Prop:=∃xs,a=ct a0 F xs/\Env w P0 W/\eM D W F xs/\ew D W F xs/\b<=W.heap.size
theorem ep.next {w:World}{P0:World->Prop}{a0 a a':Act}{b:Nat}{F:List cO}{D:Nat->Prop}{W W':World}{v:Value}{f:cO}(h:ep w P0 a0 b F D a W)(k:Nat)(hk:F[k]?=some f)(hi:AY (F.map (·.i))=true)(ht:AY (F.map (·.t))=true)(hs:∀g∈F,∀x,ck (g.R x))
  (ha:a.put (some f.t) v=a') (hb:Below W.heap.size W W') (hv:f.R v W') (hn:∀G,v= .pointer (some ⟨G,0,none⟩)->W.heap.size<=G/\G<W'.heap.size):ep w P0 a0 b F (fun j=>j=f.i\/D j) a' W':=by
 obtain⟨xs,h1,h2,h3,h4,h5⟩:=h;exact⟨xs.set k v,by rw[<-ha,h1,yD k a0 (mV ht) h3.len hk],h2.step hb,eM.next hb hv k (mV hi) hs hk h3,ew.next hb hn k (mV hi) h3.len hk h4,ay h5 hb.size⟩
theorem GB (a:Act):∀F:List cO,ct a F (F.map fun f=>a.tmps.getD f.t undef)=a:=fun F=>by
 induction F with
 |nil=>rfl
 |cons f F ih=>
  show ct (a.put (some f.t) (a.tmps.getD f.t undef)) F _=a
  have e:a.put (some f.t) (a.tmps.getD f.t undef)=a:=by
   unfold Act.put
   have e2:a.tmps.setIfInBounds f.t (a.tmps.getD f.t undef)=a.tmps:=by
    apply Array.ext_getElem?;intro i
    by_cases h:f.t=i
    ·
     subst h
     rcases cX f.t a.tmps.size with h1|h1
     ·simp[h1]
     ·simpa [Array.getElem?_eq_none h1] using h1
    ·rw[Array.getElem?_setIfInBounds_ne h]
   simp only[e2]
  rw[e];exact ih
theorem ep.start {w:World}{P0:World->Prop}{a0:Act}{L0:Array Bool}{W:World}{b:Nat}(hE:Env w P0 W)(h0:b=W.heap.size){F:List cO}(h:((F.map (·.i)).all fun i=> !L0.getD i false)=true):ep w P0 a0 b F (fun j=>L0.getD j false=true) a0 W:=by
 have h3:∀f∈F,¬(L0.getD f.i false=true):=fun f hf=>by
  rw[jZ] at h;have:=h f.i (oR (f:=(·.i)) hf)
  simpa using this
 clear h
 obtain⟨D,hD⟩:∃D:Nat->Prop,D=fun j=>L0.getD j false=true:=⟨_,rfl⟩
 replace h3:∀f∈F,¬D f.i:=by rw[hD];exact h3
 rw[<-hD];clear hD
 have h2:F.length=(F.map fun f=>a0.tmps.getD f.t undef).length:=by simp
 refine⟨_,(GB a0 F).symm,hE, ?_, ?_,Nat.le_of_eq h0⟩
 ·
  have all:∀{F:List cO} {xs:List Value},F.length=xs.length->(∀f∈F,¬D f.i)->eM D W F xs:=by
   intro F
   induction F with
   |nil=>intro xs h _;cases xs with|nil=>trivial|cons=>simp at h
   |cons u F ih=>
    intro xs h h1
    cases xs with
    |nil=>simp at h
    |cons y ys=>exact⟨fun hd=>absurd hd (h1 u (oy ..)),ih (by simpa using h) fun z hz=>h1 z (mU _ hz)⟩
  exact all h2 h3
 ·
  have all:∀{F:List cO} {xs:List Value},(∀f∈F,¬D f.i)->ew D W F xs:=by
   intro F
   induction F with
   |nil=>intro xs _;cases xs<;>simp[ew]
   |cons u F ih=>
    intro xs h1
    cases xs with
    |nil=>simp[ew]
    |cons y ys=>exact⟨fun hd=>absurd hd (h1 u (oy ..)),fun _ _ _ _ _ hd=>absurd hd (h1 u (oy ..)),ih fun z hz=>h1 z (mU _ hz)⟩
  exact all h3
theorem ew.ne {D:Nat->Prop}{W:World}{f f':cO}{G G':Nat}:∀{F:List cO} {xs:List Value} (k l:Nat),ew D W F xs->k<l->F[k]?=some f->F[l]?=some f'->xs[k]?=some (.pointer (some ⟨G,0,none⟩))->xs[l]?=some (.pointer (some ⟨G',0,none⟩))->D f.i->D f'.i->G≠G'
 |[],_,k,_,_,_,hk,_,_,_,_,_=>by simp at hk
 |_::_,[],k,_,_,_,_,_,hx,_,_,_=>by simp at hx
 |g::F,y::ys,0,0,_,hl,_,_,_,_,_,_=>absurd hl (Nat.lt_irrefl 0)
 |g::F,y::ys,0,l+1,h,_,hk,hl,hx,hy,hd,hd'=>fun e=>by
  have e1:g=f:=by simpa using hk
  have e2:y= .pointer (some ⟨G,0,none⟩):=by simpa using hx
  subst e e1;exact h.2.1 l f' _ (by simpa using hl) (by simpa using hy) hd hd' G e2 rfl
 |g::F,y::ys,k+1,0,_,hl,_,_,_,_,_,_=>absurd hl (nY _)
 |g::F,y::ys,k+1,l+1,h,hl,hk,hl',hx,hy,hd,hd'=>ew.ne k l h.2.2 (by omega) (by simpa using hk) (by simpa using hl') (by simpa using hx) (by simpa using hy) hd hd'
def ku (q:Rat)(x:Value)(V:World):Prop:=∃s A n c t B m d,x= .agg (az s A n c t B m d)/\FV V q s A n t B m
theorem ku.stable (q:Rat)(x:Value):ck (ku q x):=fun _ _ hb ⟨s,A,n,c,t,B,m,d,e,h⟩=>⟨s,A,n,c,t,B,m,d,e,h.below hb⟩
def kU (T:TypeId)(cs:Array Value)(b:Nat)(x:Value)(V:World):Prop:=∃G,x= .pointer (some ⟨G,0,none⟩)/\b<=G/\au T G cs V
theorem kU.stable (T:TypeId)(cs:Array Value)(b:Nat)(x:Value):ck (kU T cs b x):=fun _ _ hb ⟨G,e,h1,h2⟩=>⟨G,e,h1,au.stable _ _ _ _ _ hb h2⟩
def OG (q:Rat)(x:Value)(V:World):Prop:=∃s A n c t B m d,x= .tuple #[.agg (az s A n c t B m d),.int .i64 0]/\FV V q s A n t B m
theorem OG.stable (q:Rat)(x:Value):ck (OG q x):=fun _ _ hb ⟨s,A,n,c,t,B,m,d,e,h⟩=>⟨s,A,n,c,t,B,m,d,e,h.below hb⟩
def OH (z:Int)(x:Value)(_:World):Prop:=x= .int .i64 z
theorem OH.stable (z:Int)(x:Value):ck (OH z x):=fun _ _ _ h=>h
section
variable {w:World} {P0:World->Prop} {a0 a a':Act} {F:List cO} {D:Nat->Prop} {W W':World} {i b:Nat} {t:Tmp}
theorem ep.call {q:Rat}{s u:Bool}{A B:Option Addr}{n c m d:Nat}(h:ep w P0 a0 b F D a W)(k:Nat)(hs:∀g∈F,∀x,ck (g.R x))(hk:F[k]?=some ⟨i,t,ku q⟩)(hi:AY (F.map (·.i))=true)(ht:AY (F.map (·.t))=true)
  (ha:a.put (some t) (.agg (az s A n c u B m d))=a') (hb:Below W.heap.size W W') (hv:FV W' q s A n u B m):ep w P0 a0 b F (fun j=>j=i\/D j) a' W':=
 ep.next h k hk hi ht hs ha hb ⟨s,A,n,c,u,B,m,d,rfl,hv⟩ (fun _ e=>by cases e)
theorem ep.alloc {T:TypeId}{cs:Array Value}(h:ep w P0 a0 b F D a W)(k:Nat)(hs:∀g∈F,∀x,ck (g.R x))(hk:F[k]?=some ⟨i,t,kU T cs b⟩)(hi:AY (F.map (·.i))=true)(ht:AY (F.map (·.t))=true)
  (ha:a.put (some t) (.pointer (some ⟨W.heap.size,0,none⟩))=a'):ep w P0 a0 b F (fun j=>j=i\/D j) a' (W.alloc (.cells cs T)):=
 ep.next h k hk hi ht hs ha ((aU _ W).alloc (aq _) _) ⟨W.heap.size,rfl,h.choose_spec.2.2.2.2,au.new W T cs⟩ (fun G e=>by
  injection e with e
  injection e with e
  injection e with e1
  subst e1
  exact⟨aq _,by rw[fe];exact mL _⟩)
theorem ep.here (h:ep w P0 a0 b F D a W):Env w P0 W:=h.choose_spec.2.1
end
end Go.Proofs.YtclbiihcbfnjmaaGreat
