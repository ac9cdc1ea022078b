/-
  Parts.
-/
import Derived.Test.YtclbiihcbfnjmaaGreatK21
import Derived.Test.YtclbiihcbfnjmaaGreatIv
namespace Go.Proofs.YtclbiihcbfnjmaaGreat
open Go.RowKit

theorem au.mid {t:TypeId}{g:Nat}{cs:Array Value}{W:World}(h:au t g cs W)(o:Nat){l:List Value}(he:(cs.toList.drop o).take l.length=l):W.rangeAt g o l:=fun j v hv=>by
 have hj:j<l.length:=(mM.1 hv).1;rw[h.cell,<-hv]
 have h1:l[j]?=((cs.toList.drop o).take l.length)[j]?:=by rw[he]
 rw[h1,List.getElem?_take_of_lt hj,List.getElem?_drop,qg]
section
def Kn (N:Nat)(a:Act)(l:List (Nat×Value)):Prop:=a.tmps.size=N/\a.defers=[]/\∀t v,l.lookup t=some v->a.tmps.getD t undef=v
theorem Kn.get {N:Nat}{a:Act}{l:List (Nat×Value)}{t:Nat}{v:Value}(h:Kn N a l)(hl:l.lookup t=some v):a.eval (.tmp t)=v:=h.2.2 t v hl
def Ee (a:Act):List (Nat×Value)->Prop
 |[]=>True
 |(t,v)::l=>a.tmps.getD t undef=v/\Ee a l
theorem Ee.get {a:Act}{t:Nat}{v:Value}:∀{l:List (Nat×Value)},Ee a l->l.lookup t=some v->a.tmps.getD t undef=v
 |[],_,h=>by cases h
 |(s,u)::l,hk,h=>by
  rw[List.lookup_cons] at h
  cases e:t==s with
  |true=>
   rw[e] at h
   have e2:t=s:=by simpa using e
   subst e2
   injection h with h
   rw[<-h];exact hk.1
  |false=>
   rw[e] at h;exact Ee.get hk.2 h
theorem Kn.of {N:Nat}{a:Act}{l:List (Nat×Value)}(h:a.tmps.size=N)(hd:a.defers=[])(hk:Ee a l):Kn N a l:=⟨h,hd,fun _ _ hl=>hk.get hl⟩
theorem Kn.put {N t:Nat}{a:Act}{l:List (Nat×Value)}(h:Kn N a l)(ht:t<N)(v:Value):Kn N (a.put (some t) v) ((t,v)::l):=by
 refine⟨by simp[Act.put,h.1],h.2.1,fun s u hs=> ?_⟩
 by_cases e:s=t
 ·
  subst e
  have e2:u=v:=by simpa [List.lookup] using hs.symm
  subst e2
  simp[Act.put,h.1,ht]
 ·
  have e2:(s==t)=false:=by simpa using e
  have h2:l.lookup s=some u:=by rw[List.lookup_cons,e2] at hs;exact hs
  rw[<-h.2.2 s u h2]
  have e3:t≠s:=fun h=>e h.symm
  simp[Act.put,Array.getElem?_setIfInBounds_ne e3]
def dJ (md:Region.Mode)(ops:Array Oper):Array Bool->List (Bool×Nat)->Bool
 |listed,[]=>(Region.ready md ops listed).isEmpty
 |listed,(true,i)::rs=>Region.free md ops listed i&&(Region.ready md ops listed).contains i&&dJ md ops (listed.setIfInBounds i true) rs
 |listed,(false,i)::rs=>decide (Region.ready md ops listed=[i])&&dJ md ops (listed.setIfInBounds i true) rs
def ec (md:Region.Mode)(ops:Array Oper):Array Bool->List (Bool×Nat)->Bool
 |_,[]=>true
 |listed,(true,i)::rs=>Region.free md ops listed i&&(Region.ready md ops listed).contains i&&ec md ops (listed.setIfInBounds i true) rs
 |listed,(false,i)::rs=>decide (Region.ready md ops listed=[i])&&ec md ops (listed.setIfInBounds i true) rs
theorem ec.app {md:Region.Mode}{ops:Array Oper}{q:List (Bool×Nat)}:∀{L L':Array Bool} {p:List (Bool×Nat)},ec md ops L p=true->p.foldl (fun L x=>L.setIfInBounds x.2 true) L=L'->dJ md ops L' q=true->dJ md ops L (p++q)=true
 |L,L',[],_,e,h=>by
  have e2:L=L':=e;rw[e2];exact h
 |L,L',(true,i)::rs,h1,e,h=>by
  unfold ec at h1;rw[iP] at h1;rw[List.cons_append];unfold dJ;rw[iP];exact⟨h1.1,ec.app h1.2 e h⟩
 |L,L',(false,i)::rs,h1,e,h=>by
  unfold ec at h1;rw[iP] at h1;rw[List.cons_append];unfold dJ;rw[iP];exact⟨h1.1,ec.app h1.2 e h⟩
def pO (n m:Nat):Array Bool:=((List.range n).map fun i=>Nat.testBit m i).toArray
end
section
variable {ops:Array Oper} {Q:Exit->Act->World->Prop} {md:Region.Mode} {S:World->Prop} {fuel:Nat} {listed:Array Bool} {a:Act} {w:World} {oi:Oper} {t N:Nat} {l:List (Nat×Value)} {rs:List (Bool×Nat)}
structure FkQ (ops:Array Oper)(Q:Exit->Act->World->Prop):Prop where
 q:∀c a (t:Tmp) v w,Q (.panic c) (Act.put a (some t) v) w->Q (.panic c) a w
 s:Region.noSelect ops=true
theorem qX {P:Program}{i:Nat}{v:Value}(hq:FkQ ops Q)(hk:Kn N a l)(hp:dJ md ops listed ((true,i)::rs)=true)(hS:S w)(hi:ops[i]?=some oi)(hd:oi.dst=some t)(hg:oi.guard=none)(hy:∀w,S w->(execOp a.eval oi).run P w= .ok (.value v) w)
  (h:∀a',Kn N a' ((t,v)::l)->dJ md ops (listed.setIfInBounds i true) rs=true->wpAnyH P md ops Q S fuel (listed.setIfInBounds i true) a' w) (ht:Nat.blt t N=true):wpAnyH P md ops Q S (fuel+1) listed a w:=by
 unfold dJ at hp;rw[iP,iP] at hp;exact wpAnyH_take hi hq.s hp.1.1 hp.1.2 (fun c a w h=>hq.q c a t v w (by rw[hd] at h;exact h)) (.inl ⟨by unfold Region.wanted;rw[hg],hy⟩) hS (by rw[hd];exact h _ (hk.put (by simpa using ht) v) hp.2)
theorem jz {P:Program}{i x:Nat}{v:Value}(hq:FkQ ops Q)(hk:Kn N a l)(hp:dJ md ops listed ((true,i)::rs)=true)(hS:S w)(hi:ops[i]?=some oi)(hd:oi.dst=some t)(hg:oi.guard=none)(ho:oi.op= .move (.tmp x))(hx:l.lookup x=some v)
  (h:∀a',Kn N a' ((t,v)::l)->dJ md ops (listed.setIfInBounds i true) rs=true->wpAnyH P md ops Q S fuel (listed.setIfInBounds i true) a' w) (ht:Nat.blt t N=true:=by kernel_rfl):wpAnyH P md ops Q S (fuel+1) listed a w:=
 qX hq hk hp hS hi hd hg (fun w _=>by simp[execOp,ho,hk.get hx]) h ht
theorem jA {P:Program}{i x:Nat}{p:Addr}(hq:FkQ ops Q)(hk:Kn N a l)(hp:dJ md ops listed ((true,i)::rs)=true)(hS:S w)(hi:ops[i]?=some oi)(hd:oi.dst=some t)(hg:oi.guard=none)(ho:oi.op= .nilCheck (.tmp x))(hx:l.lookup x=some (.pointer (some p)))
  (h:∀a',Kn N a' ((t,.pointer (some p))::l)->dJ md ops (listed.setIfInBounds i true) rs=true->wpAnyH P md ops Q S fuel (listed.setIfInBounds i true) a' w) (ht:Nat.blt t N=true:=by kernel_rfl):wpAnyH P md ops Q S (fuel+1) listed a w:=
 qX hq hk hp hS hi hd hg (fun w _=>by simp[execOp,ho,hk.get hx]) h ht
theorem jB {P:Program}{i x:Nat}{T:TypeId}{k:Nat}{p v:Value}(Jc:∀w,(Instr.fieldAt T p k).run P w= .ok v w)(hq:FkQ ops Q)(hk:Kn N a l)(hp:dJ md ops listed ((true,i)::rs)=true)(hS:S w)(hi:ops[i]?=some oi)(hd:oi.dst=some t)(hg:oi.guard=none)(ho:oi.op= .fieldAddr T (.tmp x) k)(hx:l.lookup x=some p)
  (h:∀a',Kn N a' ((t,v)::l)->dJ md ops (listed.setIfInBounds i true) rs=true->wpAnyH P md ops Q S fuel (listed.setIfInBounds i true) a' w) (ht:Nat.blt t N=true:=by kernel_rfl):wpAnyH P md ops Q S (fuel+1) listed a w:=
 qX hq hk hp hS hi hd hg (fun w _=>by simp[execOp,ho,hk.get hx,Jc,Result.andThen]) h ht
theorem fj {i x G n c m d:Nat}{s u:Bool}{A B:Option Addr}(hB:∀w,S w->au 29 G (az s A n c u B m d) w)(hq:FkQ ops Q)(hk:Kn N a l)(hp:dJ md ops listed ((true,i)::rs)=true)(hS:S w)(hi:ops[i]?=some oi)(hd:oi.dst=some t)(hg:oi.guard=none)(ho:oi.op= .load 29 (.tmp x))(hx:l.lookup x=some (.pointer (some ⟨G,0,none⟩)))
  (h:∀a',Kn N a' ((t,.agg (az s A n c u B m d))::l)->dJ md ops (listed.setIfInBounds i true) rs=true->wpAnyH Tryz.prog md ops Q S fuel (listed.setIfInBounds i true) a' w) (ht:Nat.blt t N=true:=by kernel_rfl):wpAnyH Tryz.prog md ops Q S (fuel+1) listed a w:=
 qX hq hk hp hS hi hd hg (fun w hw=>JI (mF w _ 0 _ [.bool s,.slice A n c,.bool u,.slice B m d] _ (au.mid (hB w hw) 0 rfl) Tryz.underlying29 rfl (by kernel_rfl)) ho (hk.get hx)) h ht
theorem agN {P:Program}{i:Nat}{T:TypeId}{xs:Array (Nat×Operand)}{vs:Array (Nat×Value)}{v:Value}(hb:∀w,(Instr.build T vs).run P w= .ok v w)(hq:FkQ ops Q)(hk:Kn N a l)(hp:dJ md ops listed ((true,i)::rs)=true)(hS:S w)(hi:ops[i]?=some oi)(hd:oi.dst=some t)(hg:oi.guard=none)(ho:oi.op= .build T xs)(hx:xs.map (fun(k,x)=>(k,a.eval x))=vs)
  (h:∀a',Kn N a' ((t,v)::l)->dJ md ops (listed.setIfInBounds i true) rs=true->wpAnyH P md ops Q S fuel (listed.setIfInBounds i true) a' w) (ht:Nat.blt t N=true:=by kernel_rfl):wpAnyH P md ops Q S (fuel+1) listed a w:=
 qX hq hk hp hS hi hd hg (fun w _=>by
  have e:(execOp a.eval oi)=(do pure (.value (<-Instr.build T (xs.map fun(k,x)=>(k,a.eval x)))):Sem Next):=by simp only[execOp,ho]
  rw[e,hx]
  simp[hb,Result.andThen]) h ht
theorem eV {P:Program}{i x y z:Nat}{f:FuncId}{fn:Func}{ats:Array TypeId}{u1 u2 u3:Value}{R:Ending->World->Prop}(hf:P.funcs[f]?=some fn)(hc:Calls P f #[u1,u2,u3] w R)(hk:Kn N a l)(hp:dJ md ops listed ((false,i)::rs)=true)(hi:ops[i]?=some oi)(hd:oi.dst=some t)(hg:oi.guard=none)
  (ho:oi.op= .call {callee:= .value (.func f),args:=#[.tmp x,.tmp y,.tmp z],argTypes:=ats}) (h1:l.lookup x=some u1) (h2:l.lookup y=some u2) (h3:l.lookup z=some u3)
  (h:∀e w',R e w'->∃v,e= .returned v/\S w'/\(S w'->∀a',Kn N a' ((t,v)::l)->dJ md ops (listed.setIfInBounds i true) rs=true->wpAnyH P md ops Q S fuel (listed.setIfInBounds i true) a' w'))
  (ht:Nat.blt t N=true:=by kernel_rfl) (hn:(fn.name== "runtime.NumGoroutine")=false:=by kernel_rfl) (hb:fn.body.isSome=true:=by kernel_rfl):wpAnyH P md ops Q S (fuel+1) listed a w:=by
 unfold dJ at hp;rw[iP] at hp;refine cC (kO hp.1) (by simp) (bq hi (fun K hK=> ?_) cD);rw[if_pos (show Region.wanted oi _=true by unfold Region.wanted;rw[hg])];obtain⟨c,hb⟩:=Option.isSome_iff_exists.1 hb
 have hn2:fn.name≠ "runtime.NumGoroutine" :=by simpa using hn
 have e:(callFunc f #[u1,u2,u3]).run P w= .ok (.enter f #[u1,u2,u3]) w:=by simp[callFunc,hf,hn2,hb]
 unfold Oper.wp;have ef:a.eval (.func f)= .func (.func f) #[] #[]:=rfl
 have e2:execOp a.eval oi=callFunc f #[u1,u2,u3]:=by
  unfold execOp
  simp[ho,resolve,Deferred.ofValue,invoke,ef,hk.get h1,hk.get h2,hk.get h3]
 rw[e2,e,Oper.upon_enter]
 refine hc.mono fun e w' hR=> ?_
 obtain⟨v,rfl,hS,h4⟩:=h e w' hR;exact hK.out _ _ hS (fun hS=>by rw[hd];exact h4 hS _ (hk.put (by simpa using ht) v) hp.2)
theorem OB {P:Program}{i x y:Nat}{T:TypeId}{p v:Value}{w':World}(hr:(Instr.storeAt T p v).run P w= .ok () w')(hk:Kn N a l)(hp:dJ md ops listed [(false,i)]=true)(hi:ops[i]?=some oi)(hd:oi.dst=none)(hg:oi.guard=none)(ho:oi.op= .store T (.tmp x) (.tmp y))(h1:l.lookup x=some p)(h2:l.lookup y=some v)
  (hS:S w') (h:Q .normal a w'):wpAnyH P md ops Q S (fuel+1) listed a w:=by
 unfold dJ at hp;rw[iP] at hp;refine cC (kO hp.1) (by simp) (bq hi (fun K hK=> ?_) cD);rw[if_pos (show Region.wanted oi _=true by unfold Region.wanted;rw[hg])];unfold Oper.wp execOp;simp only[ho,hk.get h1,hk.get h2,Sem.run_bind,Sem.run_pure,Result.andThen_ok,hr]
 have e:a.put oi.dst undef=a:=by rw[hd];rfl
 show K (a.put oi.dst undef) w';rw[e];refine hK.out _ _ hS (fun _=> ?_);have h3:=hp.2;unfold dJ at h3;exact aX (by simpa using h3) h _
end
theorem Oz {P:Program}{ops:Array Oper}{Q:Exit->Act->World->Prop}{S:World->Prop}{a:Act}{w:World}{id n:Nat}(plan:List (Bool×Nat))(hm:P.follows .mixedOrders=true)(hS:S w.drew)(hn:ops.size=n)(hp:dJ .any ops (pO n 0) plan=true)(hs:Region.noSelect ops=true)
  (hq:∀c a (t:Tmp) v w,Q (.panic c) (Act.put a (some t) v) w->Q (.panic c) a w) (hst:ck S) (h:FkQ ops Q->dJ .any ops (Array.replicate n false) plan=true->S w.drew->ck S->wpAnyH P .any ops Q S n (Array.replicate n false) a w.drew):(Code.region id ops true).wp P Q a w:=by
 subst hn
 have e:pO ops.size 0=Array.replicate ops.size false:=by
  apply Array.ext
  ·simp[pO]
  ·
   intro i h1 h2
   simp[pO]
 rw[e] at hp;exact bH hm hS (fun hS=>h ⟨hq,hs⟩ hp hS hst)
def tG (n:Nat):Code->Option Code
 | .region m ops b=>if m==n then some (.region m ops b) else none
 | .seq a b=>match tG n a with
  |some c=>some c
  |none=>tG n b
 | .block _ c=>tG n c
 | .scope c=>tG n c
 | .loop c=>tG n c
 | .cond _ a b=>match tG n a with
  |some c=>some c
  |none=>tG n b
 |_=>none
end Go.Proofs.YtclbiihcbfnjmaaGreat
